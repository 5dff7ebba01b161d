/- What the printed functions answer, in plain words: lemmas of this session. No condition of a statement lies here. -/
import Derived.Test.YtkgdcfaogdmcgaaDoorAllx0
import Derived.Test.YtkgdcfaogdmcgaaDoorAllx28
import Derived.Test.YtkgdcfaogdmcgaaDoorAllx30
import Derived.Test.YtkgdcfaogdmcgaaDoorAllx33
import Derived.Test.YtkgdcfaogdmcgaaDoorAllx34
import Derived.Test.YtkgdcfaogdmcgaaDoorQh485634e3
import Derived.Test.YtkgdcfaogdmcgaaDoorQh7abdbcf7
import Derived.Test.YtkgdcfaogdmcgaaDoorQhd9272fe3
namespace Go.Proofs.YtkgdcfaogdmcgaaDoor.Pure
open Go.RowKit Go.Proofs.YtkgdcfaogdmcgaaDoor.All Go.Proofs.YtkgdcfaogdmcgaaDoorW.PrintWords Go.Proofs.YtkgdcfaogdmcgaaDoorW.PrintLast
set_option linter.unusedVariables false
set_option linter.unusedSimpArgs false

def banB (kd : Int) (a b : ByteArray) (t : Int) : Bool := decide (0 ≤ t ∧ t ≤ 1000000) && (if kd = 1 ∨ kd = 2 then pathB a && decide (b.toList = []) else if kd = 3 then tokB a && valB b else false)
theorem spec_BanOk_f {k : Nat} {kd t : Int} {a b : ByteArray} (ha : (a.size : Int) ≤ 4611686018427387904) (hb : (b.size : Int) ≤ 4611686018427387904) (hk : 3 * (a.size + b.size) + 4 < k) : spec_BanOk.f k kd a b t = some (banB kd a b t) := by
  unfold spec_BanOk.f banB
  obtain ⟨k', rfl⟩ := succ_of (show 0 < k by omega)
  rw [spec_l1In_f, Option.bind_some]
  by_cases h : 0 ≤ t ∧ t ≤ 1000000
  · rw [if_pos (decide_eq_true h), decide_eq_true h, Bool.true_and]
    have go : ∀ f : Bool, (f = true ↔ kd = 1 ∨ kd = 2) → spec_BanOk.j0 (k' + 1) kd f kd a b t = some (if kd = 1 ∨ kd = 2 then pathB a && decide (b.toList = []) else if kd = 3 then tokB a && valB b else false) := by
      intro f hf
      simp only [spec_BanOk.j0]
      by_cases hq : kd = 1 ∨ kd = 2
      · rw [if_pos (hf.2 hq), if_pos hq, spec_l3Path_f ha (by omega), Option.bind_some]
        cases pathB a
        · rfl
        · rw [if_pos rfl]; refine congrArg some ?_; rw [Bool.eq_iff_iff]; simp
      · rw [if_neg (fun e => hq (hf.1 e)), if_neg hq]
        by_cases h3 : kd = 3
        · rw [if_pos h3, if_pos h3, spec_TokenOk_f (by omega) (by omega), Option.bind_some]
          cases tokB a
          · rfl
          · rw [if_pos rfl, spec_ValueOk_f hb (by omega), Option.bind_some]; rfl
        · rw [if_neg h3, if_neg h3]
    by_cases h1 : kd = 1
    · rw [if_pos h1]; exact go _ (by simp [h1])
    · rw [if_neg h1]; exact go _ (by simp [h1])
  · rw [if_neg (by simpa using h), decide_eq_false h]; rfl
theorem impl_BanOk_f {k : Nat} {kd t : Int} {a b : ByteArray} (ha : (a.size : Int) ≤ 4611686018427387904) (hb : (b.size : Int) ≤ 4611686018427387904) (hk : 3 * (a.size + b.size) + 4 < k) : impl_BanOk.f k kd a b t = some (banB kd a b t) := by
  unfold impl_BanOk.f impl_isTime.f banB
  obtain ⟨k', rfl⟩ := succ_of (show 0 < k by omega)
  rw [impl_inRange_f, Option.bind_some, Option.bind_some]
  by_cases h : 0 ≤ t ∧ t ≤ 1000000
  · rw [if_pos (decide_eq_true h), decide_eq_true h, Bool.true_and]
    have go : ∀ f : Bool, (f = true ↔ kd = 1 ∨ kd = 2) → impl_BanOk.j0 (k' + 1) kd f kd a b t = some (if kd = 1 ∨ kd = 2 then pathB a && decide (b.toList = []) else if kd = 3 then tokB a && valB b else false) := by
      intro f hf
      simp only [impl_BanOk.j0]
      by_cases hq : kd = 1 ∨ kd = 2
      · rw [if_pos (hf.2 hq), if_pos hq, impl_pathOk_f ha (by omega), Option.bind_some]
        cases pathB a
        · rfl
        · rw [if_pos rfl]; refine congrArg some ?_; rw [Bool.eq_iff_iff]; simp
      · rw [if_neg (fun e => hq (hf.1 e)), if_neg hq]
        by_cases h3 : kd = 3
        · rw [if_pos h3, if_pos h3, impl_TokenOk_f (by omega) (by omega), Option.bind_some]
          cases tokB a
          · rfl
          · rw [if_pos rfl, impl_ValueOk_f hb (by omega), Option.bind_some]; rfl
        · rw [if_neg h3, if_neg h3]
    by_cases h1 : kd = 1
    · rw [if_pos h1]; exact go _ (by simp [h1])
    · rw [if_neg h1]; exact go _ (by simp [h1])
  · rw [if_neg (by simpa using h), decide_eq_false h]; rfl
/-! ### Hits -/
def hitB (kd : Int) (a c : ByteArray) (u : Int) (p : ByteArray) (ns vs : List ByteArray) (m : Int) (l : List S84) (b : ByteArray) (t : Int) : Bool :=
  !(decide (t > u)) && (banB kd a c u && (objB p ns vs m l b t && (if kd = 1 then p.toList == a.toList else if kd = 2 then decide (a.size ≤ p.size) && ((p.extract 0 a.size).toList == a.toList) else match getF a l with | some v => v.toList == c.toList | none => false)))
theorem strings_HasPrefix_f (p a : ByteArray) : strings_HasPrefix.f p a = some (decide (a.size ≤ p.size) && ((p.extract 0 a.size).toList == a.toList)) := by
  unfold strings_HasPrefix.f stringslite_HasPrefix.f
  by_cases h : a.size ≤ p.size
  · rw [if_pos (by omega), if_pos (by omega), if_pos (by omega), Option.bind_some, decide_eq_true h, Int.toNat_natCast]; rfl
  · rw [if_neg (by omega), Option.bind_some, decide_eq_false h]; rfl
theorem spec_Hits_f {k K : Nat} {kd : Int} {a c : ByteArray} {u : Int} {p : ByteArray} {ns vs : List ByteArray} {m : Int} {l : List S84} {b : ByteArray} {t : Int} (hK : K ≤ 1048576) (ha : a.size ≤ K) (hc : c.size ≤ K) (hp : p.size ≤ K) (hn : SmallB K ns) (hv : SmallB K vs) (hl : SmallF K l) (hk : 9000000 < k) :
    spec_Hits.f k kd a c u p ns vs m l b t = some (hitB kd a c u p ns vs m l b t) := by
  have hll := hl.1
  obtain ⟨k, rfl⟩ := succ_of (show 0 < k by omega)
  have jt : spec_Hits.j0 (k + 1) true kd a c u p ns vs m l b t = some false := by simp only [spec_Hits.j0, if_true]
  unfold spec_Hits.f hitB
  rw [spec_BanOk_f (by omega) (by omega) (by omega), Option.bind_some]
  cases banB kd a c u
  · rw [if_neg (by simp), jt]; cases decide (t > u) <;> rfl
  rw [if_pos rfl, spec_ObjOk_f hK hp hn hv hl (by omega), Option.bind_some]
  cases objB p ns vs m l b t
  · rw [if_neg (by simp), jt]; cases decide (t > u) <;> rfl
  rw [if_pos rfl]
  cases decide (t > u)
  · simp only [spec_Hits.j0]
    rw [if_neg (by simp)]
    by_cases h1 : kd = 1
    · rw [if_pos h1, if_pos h1]; rfl
    rw [if_neg h1, if_neg h1]
    by_cases h2 : kd = 2
    · rw [if_pos h2, if_pos h2]
      by_cases h : a.size ≤ p.size
      · rw [if_pos (by omega), if_pos (by omega), if_pos (by omega), decide_eq_true h, Int.toNat_natCast]; rfl
      · rw [if_neg (by omega), decide_eq_false h]; rfl
    rw [if_neg h2, if_neg h2, spec_Get_f (by omega) (by omega), Option.bind_some]
    cases getF a l <;> rfl
  · rw [jt]; rfl
theorem impl_Hits_f {k K : Nat} {kd : Int} {a c : ByteArray} {u : Int} {p : ByteArray} {ns vs : List ByteArray} {m : Int} {l : List S84} {b : ByteArray} {t : Int} (hK : K ≤ 1048576) (ha : a.size ≤ K) (hc : c.size ≤ K) (hp : p.size ≤ K) (hn : SmallB K ns) (hv : SmallB K vs) (hl : SmallF K l) (hk : 9300000 < k) :
    impl_Hits.f k kd a c u p ns vs m l b t = some (hitB kd a c u p ns vs m l b t) := by
  have hll := hl.1
  obtain ⟨k, rfl⟩ := succ_of (show 0 < k by omega)
  have jt : impl_Hits.j0 (k + 1) true kd a c u p ns vs m l b t = some false := by simp only [impl_Hits.j0, if_true]
  unfold impl_Hits.f hitB
  by_cases hu : t > u
  · rw [if_pos hu, jt, decide_eq_true hu]; rfl
  rw [if_neg hu, decide_eq_false hu, impl_BanOk_f (by omega) (by omega) (by omega), Option.bind_some]
  cases banB kd a c u
  · rw [if_neg (by simp), jt]; rfl
  rw [if_pos rfl, impl_ObjOk_f hK hp hn hv hl (by omega), Option.bind_some]
  cases objB p ns vs m l b t
  · rw [show (!false) = true from rfl, jt]; rfl
  simp only [impl_Hits.j0]
  rw [if_neg (by simp)]
  by_cases h1 : kd = 1
  · rw [if_pos h1, if_pos h1]; rfl
  rw [if_neg h1, if_neg h1]
  by_cases h2 : kd = 2
  · rw [if_pos h2, if_pos h2, strings_HasPrefix_f, Option.bind_some]; rfl
  rw [if_neg h2, if_neg h2, impl_Get_f (by omega), Option.bind_some]
  cases getF a l <;> rfl
theorem laws_szBan_f {kd : Int} {a c : ByteArray} {u n : Int} (ha : a.size ≤ maxLen) (hc : c.size ≤ maxLen) (h0 : 0 ≤ n) (h1 : n ≤ 1048576) : ∃ r, laws_szBan.f kd a c u n = some r ∧ (r < 0 ∨ 0 ≤ r ∧ r ≤ n ∧ a.size ≤ 1048576 ∧ c.size ≤ 1048576) := by
  unfold maxLen at ha hc
  unfold laws_szBan.f
  rw [w64 (n := n - a.size) (by omega)]
  split
  · exact ⟨_, rfl, .inl (by omega)⟩
  rw [w64 (by omega)]
  split
  · exact ⟨_, rfl, .inl (by omega)⟩
  · exact ⟨_, rfl, .inr ⟨by omega, by omega, by omega, by omega⟩⟩
theorem laws_toBan_f (kd : Int) (a c : ByteArray) (u : Int) : laws_toBan.f kd a c u = some (kd, a, c, u) := rfl
theorem laws_szBanS_l0 (l : List S107) (hl : l.length ≤ 1048576) (hf : ∀ x ∈ l, x.f1.size ≤ maxLen ∧ x.f2.size ≤ maxLen) : ∀ (d k i : Nat) (n : Int), l.length = i + d → 0 ≤ n → n ≤ 1048576 → d < k →
    ∃ r, laws_szBanS.l0 k l n i = some r ∧ (r < 0 ∨ 0 ≤ r ∧ r ≤ 1048576 ∧ ∀ x ∈ l.drop i, x.f1.size ≤ 1048576 ∧ x.f2.size ≤ 1048576) := by
  intro d
  induction d with
  | zero =>
    intro k i n hd h0 h1 hk
    obtain ⟨k, rfl⟩ := succ_of hk
    simp only [laws_szBanS.l0]
    rw [if_neg (by omega), List.drop_eq_nil_of_le (by omega)]
    exact ⟨_, rfl, .inr ⟨h0, h1, fun x hx => by cases hx⟩⟩
  | succ d ih =>
    intro k i n hd h0 h1 hk
    obtain ⟨k, rfl⟩ := succ_of hk
    have hlt : i < l.length := by omega
    have hm := hf _ (List.getElem_mem hlt)
    have hrd : rd_T107 l (i : Int) = l[i] := by simp [rd_T107, List.getD, hlt]
    obtain ⟨r, e, hr⟩ := laws_szBan_f (kd := l[i].f0) (u := l[i].f3) hm.1 hm.2 h0 h1
    simp only [laws_szBanS.l0]
    rw [if_pos (by omega), if_pos (by omega), hrd, e, Option.bind_some, nat_round (n := l.length) hlt (by omega)]
    split
    · exact ⟨_, rfl, .inl (by omega)⟩
    rename_i hn
    rcases hr with hr | ⟨r0, r1, ha, hc⟩
    · omega
    obtain ⟨q, e2, hq⟩ := ih k (i + 1) r (by omega) r0 (by omega) (by omega)
    refine ⟨q, e2, ?_⟩
    rcases hq with hq | ⟨q0, q1, q2⟩
    · exact .inl hq
    · refine .inr ⟨q0, q1, fun x hx => ?_⟩
      rw [drop_at hlt] at hx
      rcases List.mem_cons.1 hx with rfl | hx
      · exact ⟨ha, hc⟩
      · exact q2 x hx
theorem laws_szBanS_f {k : Nat} {l : List S107} {n : Int} (hl : l.length ≤ maxLen) (hf : ∀ x ∈ l, x.f1.size ≤ maxLen ∧ x.f2.size ≤ maxLen) (h0 : 0 ≤ n) (h1 : n ≤ 1048576) (hk : 1048577 < k) :
    ∃ r, laws_szBanS.f k l n = some r ∧ (r < 0 ∨ 0 ≤ r ∧ r ≤ 1048576 ∧ l.length ≤ 1048576 ∧ ∀ x ∈ l, x.f1.size ≤ 1048576 ∧ x.f2.size ≤ 1048576) := by
  unfold maxLen at hl
  unfold laws_szBanS.f
  rw [w64 (by omega)]
  split
  · exact ⟨_, rfl, .inl (by omega)⟩
  rename_i h
  obtain ⟨r, e, hr⟩ := laws_szBanS_l0 l (by omega) hf l.length k 0 (n - l.length) (by omega) (by omega) (by omega) (by omega)
  refine ⟨r, e, ?_⟩
  rw [List.drop_zero] at hr
  rcases hr with hr | ⟨a, b, c⟩
  · exact .inl hr
  · exact .inr ⟨a, b, by omega, c⟩
def toBn (x : S107) : S109 := ⟨x.f0, x.f1, x.f2, x.f3⟩
theorem laws_toBanS_l0 (l : List S107) (hl : l.length ≤ 1048576) : ∀ (d k i : Nat) (pre rest : List S109), l.length = i + d → pre.length = i → rest.length = d → d < k →
    laws_toBanS.l0 k l (pre ++ rest) i = some (pre ++ (l.drop i).map toBn) := by
  intro d
  induction d with
  | zero =>
    intro k i pre rest hd hp hr hk
    obtain ⟨k, rfl⟩ := succ_of hk
    simp only [laws_toBanS.l0]
    rw [if_neg (by omega), List.drop_eq_nil_of_le (by omega), List.eq_nil_of_length_eq_zero hr]; simp
  | succ d ih =>
    intro k i pre rest hd hp hr hk
    obtain ⟨k, rfl⟩ := succ_of hk
    have hlt : i < l.length := by omega
    have hrd : rd_T107 l (i : Int) = l[i] := by simp [rd_T107, List.getD, hlt]
    obtain ⟨y, rest, rfl⟩ : ∃ y r, rest = y :: r := by cases rest with | nil => simp at hr | cons y r => exact ⟨y, r, rfl⟩
    simp only [laws_toBanS.l0]
    rw [if_pos (by omega), if_pos (by omega), hrd, laws_toBan_f, Option.bind_some, if_pos (by simp only [List.length_append, List.length_cons]; omega), nat_round (n := l.length) hlt (by omega), set_at' _ _ _ _ hp, drop_at hlt]
    have := ih k (i + 1) (pre ++ [toBn l[i]]) rest (by omega) (by simp [hp]) (by simpa using hr) (by omega)
    rw [List.append_assoc, List.append_assoc] at this
    exact this
theorem laws_toBanS_f {k : Nat} {l : List S107} (hl : l.length ≤ 1048576) (hk : l.length < k) : laws_toBanS.f k l = some (l.map toBn) := by
  unfold laws_toBanS.f
  rw [if_pos (by omega), Int.toNat_natCast, if_pos (by omega)]
  have := laws_toBanS_l0 l hl l.length k 0 [] (List.replicate l.length z109) (by omega) rfl (by simp) hk
  simpa using this
theorem laws_eqBanS_l0 (l : List S109) (hl : l.length ≤ 1048577) : ∀ (d k i : Nat), l.length = i + d → d < k → laws_eqBanS.l0 k l l i = some true := by
  intro d
  induction d with
  | zero =>
    intro k i hd hk
    obtain ⟨k, rfl⟩ := succ_of hk
    simp only [laws_eqBanS.l0]
    rw [if_neg (by omega)]
  | succ d ih =>
    intro k i hd hk
    obtain ⟨k, rfl⟩ := succ_of hk
    simp only [laws_eqBanS.l0]
    rw [if_pos (by omega), if_pos (by omega), if_pos (by omega)]
    unfold laws_eqBan.f
    rw [if_pos rfl, if_pos rfl, if_pos rfl, if_pos rfl, Option.bind_some, if_pos rfl, nat_round (n := l.length) (by omega) (by omega)]
    exact ih k (i + 1) (by omega) (by omega)
theorem laws_eqBanS_f {k : Nat} {l : List S109} (hl : l.length ≤ 1048577) (hk : l.length < k) : laws_eqBanS.f k l l = some true := by
  unfold laws_eqBanS.f
  rw [if_pos rfl]
  exact laws_eqBanS_l0 l hl l.length k 0 (by omega) hk
def hitsB (bs : List S109) (p : ByteArray) (ns vs : List ByteArray) (m : Int) (l : List S84) (b : ByteArray) (t : Int) : Bool := bs.any fun x => hitB x.f0 x.f1 x.f2 x.f3 p ns vs m l b t
theorem HitsAny_l0 (K : Nat) (hK : K ≤ 1048576) (bs : List S109) (hb : bs.length ≤ 1048576) (hx : ∀ x ∈ bs, x.f1.size ≤ K ∧ x.f2.size ≤ K) (p : ByteArray) (ns vs : List ByteArray) (m : Int) (l : List S84) (b : ByteArray) (t : Int) (hp : p.size ≤ K) (hn : SmallB K ns) (hv : SmallB K vs) (hl : SmallF K l) : ∀ (d k i : Nat), bs.length = i + d → d + 9300001 < k →
    spec_HitsAny.l0 k bs i p ns vs m l b t = some (hitsB (bs.drop i) p ns vs m l b t) ∧ impl_HitsAny.l0 k bs (bs.length : Int) i p ns vs m l b t = some (hitsB (bs.drop i) p ns vs m l b t) := by
  intro d
  induction d with
  | zero =>
    intro k i hd hk
    obtain ⟨k, rfl⟩ := succ_of (show 0 < k by omega)
    simp only [spec_HitsAny.l0, impl_HitsAny.l0]
    rw [if_neg (by omega), if_neg (by omega), List.drop_eq_nil_of_le (by omega)]
    exact ⟨rfl, rfl⟩
  | succ d ih =>
    intro k i hd hk
    obtain ⟨k, rfl⟩ := succ_of (show 0 < k by omega)
    have hlt : i < bs.length := by omega
    have hs := hx _ (List.getElem_mem hlt)
    have hrd : rd_T109 bs (i : Int) = bs[i] := by simp [rd_T109, List.getD, hlt]
    obtain ⟨i1, i2⟩ := ih k (i + 1) (by omega) (by omega)
    have hc : hitsB (bs.drop i) p ns vs m l b t = (hitB bs[i].f0 bs[i].f1 bs[i].f2 bs[i].f3 p ns vs m l b t || hitsB (bs.drop (i + 1)) p ns vs m l b t) := by
      unfold hitsB; rw [drop_at hlt, List.any_cons]
    simp only [spec_HitsAny.l0, impl_HitsAny.l0]
    rw [hrd, nat_round (n := bs.length) hlt (by omega), hc]
    refine ⟨?_, ?_⟩
    · rw [if_pos (by omega), if_pos (by omega), spec_Hits_f hK hs.1 hs.2 hp hn hv hl (by omega), Option.bind_some]
      cases hitB bs[i].f0 bs[i].f1 bs[i].f2 bs[i].f3 p ns vs m l b t
      · rw [if_neg (by simp), i1]; rfl
      · rfl
    · rw [if_pos (by omega), if_pos (by omega), if_pos (by omega), impl_Hits_f hK hs.1 hs.2 hp hn hv hl (by omega), Option.bind_some]
      cases hitB bs[i].f0 bs[i].f1 bs[i].f2 bs[i].f3 p ns vs m l b t
      · rw [if_neg (by simp), i2]; rfl
      · rfl

end Go.Proofs.YtkgdcfaogdmcgaaDoor.Pure
