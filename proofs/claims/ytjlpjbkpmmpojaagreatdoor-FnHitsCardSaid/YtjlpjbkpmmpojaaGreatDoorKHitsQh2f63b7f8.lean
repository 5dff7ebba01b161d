/- What the printed functions answer, in plain words: lemmas of this session. No condition of a statement lies here. -/
import Derived.Test.YtjlpjbkpmmpojaaGreatDoorKHitsAllx0
import Derived.Test.YtjlpjbkpmmpojaaGreatDoorKHitsAllx13
import Derived.Test.YtjlpjbkpmmpojaaGreatDoorKHitsAllx15
import Derived.Test.YtjlpjbkpmmpojaaGreatDoorKHitsAllx16
import Derived.Test.YtjlpjbkpmmpojaaGreatDoorKHitsAllx17
import Derived.Test.YtjlpjbkpmmpojaaGreatDoorKHitsAllx7
import Derived.Test.YtjlpjbkpmmpojaaGreatDoorKHitsQh12e334e9
import Derived.Test.YtjlpjbkpmmpojaaGreatDoorKHitsQh6e319487
import Derived.Test.YtjlpjbkpmmpojaaGreatDoorKHitsQh738eabfc
import Derived.Test.YtjlpjbkpmmpojaaGreatDoorKHitsQh7c28969f
import Derived.Test.YtjlpjbkpmmpojaaGreatDoorKHitsQhd4f6af10
import Derived.Test.YtjlpjbkpmmpojaaGreatDoorKHitsQhf44be94c
namespace Go.Proofs.YtjlpjbkpmmpojaaGreatDoor.Pure
open Go.RowKit Go.Proofs.YtjlpjbkpmmpojaaGreatDoor.All Go.Proofs.YtjlpjbkpmmpojaaGreatDoorW.PrintWords Go.Proofs.YtjlpjbkpmmpojaaGreatDoorW.PrintLast
set_option linter.unusedVariables false
set_option linter.unusedSimpArgs false

def banB (kd : Int) (a b : ByteArray) (t : Int) : Bool := decide (0 ≤ t ∧ t ≤ 1000000) && (if kd = 1 ∨ kd = 2 then pathB a && decide (b.toList = []) else if kd = 3 then tokB a && valB b else false)
theorem spec_BanOk_f {k : Nat} {kd t : Int} {a b : ByteArray} (ha : (a.size : Int) ≤ 4611686018427387904) (hb : (b.size : Int) ≤ 4611686018427387904) (hk : 3 * (a.size + b.size) + 4 < k) : spec_BanOk.f k kd a b t = some (banB kd a b t) := by
  unfold spec_BanOk.f banB
  obtain ⟨k', rfl⟩ := succ_of (show 0 < k by omega)
  rw [spec_l1In_f, Option.bind_some]
  by_cases h : 0 ≤ t ∧ t ≤ 1000000
  · rw [if_pos (decide_eq_true h), decide_eq_true h, Bool.true_and]
    have go : ∀ f : Bool, (f = true ↔ kd = 1 ∨ kd = 2) → spec_BanOk.j0 (k' + 1) kd f kd a b t = some (if kd = 1 ∨ kd = 2 then pathB a && decide (b.toList = []) else if kd = 3 then tokB a && valB b else false) := by
      intro f hf
      simp only [spec_BanOk.j0]
      by_cases hq : kd = 1 ∨ kd = 2
      · rw [if_pos (hf.2 hq), if_pos hq, spec_l3Path_f ha (by omega), Option.bind_some]
        cases pathB a
        · rfl
        · rw [if_pos rfl]; refine congrArg some ?_; rw [Bool.eq_iff_iff]; simp
      · rw [if_neg (fun e => hq (hf.1 e)), if_neg hq]
        by_cases h3 : kd = 3
        · rw [if_pos h3, if_pos h3, spec_TokenOk_f (by omega) (by omega), Option.bind_some]
          cases tokB a
          · rfl
          · rw [if_pos rfl, spec_ValueOk_f hb (by omega), Option.bind_some]; rfl
        · rw [if_neg h3, if_neg h3]
    by_cases h1 : kd = 1
    · rw [if_pos h1]; exact go _ (by simp [h1])
    · rw [if_neg h1]; exact go _ (by simp [h1])
  · rw [if_neg (by simpa using h), decide_eq_false h]; rfl
theorem impl_BanOk_f {k : Nat} {kd t : Int} {a b : ByteArray} (ha : (a.size : Int) ≤ 4611686018427387904) (hb : (b.size : Int) ≤ 4611686018427387904) (hk : 3 * (a.size + b.size) + 4 < k) : impl_BanOk.f k kd a b t = some (banB kd a b t) := by
  unfold impl_BanOk.f impl_isTime.f banB
  obtain ⟨k', rfl⟩ := succ_of (show 0 < k by omega)
  rw [impl_inRange_f, Option.bind_some, Option.bind_some]
  by_cases h : 0 ≤ t ∧ t ≤ 1000000
  · rw [if_pos (decide_eq_true h), decide_eq_true h, Bool.true_and]
    have go : ∀ f : Bool, (f = true ↔ kd = 1 ∨ kd = 2) → impl_BanOk.j0 (k' + 1) kd f kd a b t = some (if kd = 1 ∨ kd = 2 then pathB a && decide (b.toList = []) else if kd = 3 then tokB a && valB b else false) := by
      intro f hf
      simp only [impl_BanOk.j0]
      by_cases hq : kd = 1 ∨ kd = 2
      · rw [if_pos (hf.2 hq), if_pos hq, impl_pathOk_f ha (by omega), Option.bind_some]
        cases pathB a
        · rfl
        · rw [if_pos rfl]; refine congrArg some ?_; rw [Bool.eq_iff_iff]; simp
      · rw [if_neg (fun e => hq (hf.1 e)), if_neg hq]
        by_cases h3 : kd = 3
        · rw [if_pos h3, if_pos h3, impl_TokenOk_f (by omega) (by omega), Option.bind_some]
          cases tokB a
          · rfl
          · rw [if_pos rfl, impl_ValueOk_f hb (by omega), Option.bind_some]; rfl
        · rw [if_neg h3, if_neg h3]
    by_cases h1 : kd = 1
    · rw [if_pos h1]; exact go _ (by simp [h1])
    · rw [if_neg h1]; exact go _ (by simp [h1])
  · rw [if_neg (by simpa using h), decide_eq_false h]; rfl
/-! ### Hits -/
def hitB (kd : Int) (a c : ByteArray) (u : Int) (p : ByteArray) (ns vs : List ByteArray) (m : Int) (l : List S116) (b : ByteArray) (t : Int) : Bool :=
  !(decide (t > u)) && (banB kd a c u && (objB p ns vs m l b t && (if kd = 1 then p.toList == a.toList else if kd = 2 then decide (a.size ≤ p.size) && ((p.extract 0 a.size).toList == a.toList) else match getF a l with | some v => v.toList == c.toList | none => false)))
theorem strings_HasPrefix_f (p a : ByteArray) : strings_HasPrefix.f p a = some (decide (a.size ≤ p.size) && ((p.extract 0 a.size).toList == a.toList)) := by
  unfold strings_HasPrefix.f stringslite_HasPrefix.f
  by_cases h : a.size ≤ p.size
  · rw [if_pos (by omega), if_pos (by omega), if_pos (by omega), Option.bind_some, decide_eq_true h, Int.toNat_natCast]; rfl
  · rw [if_neg (by omega), Option.bind_some, decide_eq_false h]; rfl
theorem spec_Hits_f {k K : Nat} {kd : Int} {a c : ByteArray} {u : Int} {p : ByteArray} {ns vs : List ByteArray} {m : Int} {l : List S116} {b : ByteArray} {t : Int} (hK : K ≤ 1048576) (ha : a.size ≤ K) (hc : c.size ≤ K) (hp : p.size ≤ K) (hn : SmallB K ns) (hv : SmallB K vs) (hl : SmallF K l) (hk : 9000000 < k) :
    spec_Hits.f k kd a c u p ns vs m l b t = some (hitB kd a c u p ns vs m l b t) := by
  have hll := hl.1
  obtain ⟨k, rfl⟩ := succ_of (show 0 < k by omega)
  have jt : spec_Hits.j0 (k + 1) true kd a c u p ns vs m l b t = some false := by simp only [spec_Hits.j0, if_true]
  unfold spec_Hits.f hitB
  rw [spec_BanOk_f (by omega) (by omega) (by omega), Option.bind_some]
  cases banB kd a c u
  · rw [if_neg (by simp), jt]; cases decide (t > u) <;> rfl
  rw [if_pos rfl, spec_ObjOk_f hK hp hn hv hl (by omega), Option.bind_some]
  cases objB p ns vs m l b t
  · rw [if_neg (by simp), jt]; cases decide (t > u) <;> rfl
  rw [if_pos rfl]
  cases decide (t > u)
  · simp only [spec_Hits.j0]
    rw [if_neg (by simp)]
    by_cases h1 : kd = 1
    · rw [if_pos h1, if_pos h1]; rfl
    rw [if_neg h1, if_neg h1]
    by_cases h2 : kd = 2
    · rw [if_pos h2, if_pos h2]
      by_cases h : a.size ≤ p.size
      · rw [if_pos (by omega), if_pos (by omega), if_pos (by omega), decide_eq_true h, Int.toNat_natCast]; rfl
      · rw [if_neg (by omega), decide_eq_false h]; rfl
    rw [if_neg h2, if_neg h2, spec_Get_f (by omega) (by omega), Option.bind_some]
    cases getF a l <;> rfl
  · rw [jt]; rfl
theorem impl_Hits_f {k K : Nat} {kd : Int} {a c : ByteArray} {u : Int} {p : ByteArray} {ns vs : List ByteArray} {m : Int} {l : List S116} {b : ByteArray} {t : Int} (hK : K ≤ 1048576) (ha : a.size ≤ K) (hc : c.size ≤ K) (hp : p.size ≤ K) (hn : SmallB K ns) (hv : SmallB K vs) (hl : SmallF K l) (hk : 9300000 < k) :
    impl_Hits.f k kd a c u p ns vs m l b t = some (hitB kd a c u p ns vs m l b t) := by
  have hll := hl.1
  obtain ⟨k, rfl⟩ := succ_of (show 0 < k by omega)
  have jt : impl_Hits.j0 (k + 1) true kd a c u p ns vs m l b t = some false := by simp only [impl_Hits.j0, if_true]
  unfold impl_Hits.f hitB
  by_cases hu : t > u
  · rw [if_pos hu, jt, decide_eq_true hu]; rfl
  rw [if_neg hu, decide_eq_false hu, impl_BanOk_f (by omega) (by omega) (by omega), Option.bind_some]
  cases banB kd a c u
  · rw [if_neg (by simp), jt]; rfl
  rw [if_pos rfl, impl_ObjOk_f hK hp hn hv hl (by omega), Option.bind_some]
  cases objB p ns vs m l b t
  · rw [show (!false) = true from rfl, jt]; rfl
  simp only [impl_Hits.j0]
  rw [if_neg (by simp)]
  by_cases h1 : kd = 1
  · rw [if_pos h1, if_pos h1]; rfl
  rw [if_neg h1, if_neg h1]
  by_cases h2 : kd = 2
  · rw [if_pos h2, if_pos h2, strings_HasPrefix_f, Option.bind_some]; rfl
  rw [if_neg h2, if_neg h2, impl_Get_f (by omega), Option.bind_some]
  cases getF a l <;> rfl
def hitsB (bs : List S25) (p : ByteArray) (ns vs : List ByteArray) (m : Int) (l : List S116) (b : ByteArray) (t : Int) : Bool := bs.any fun x => hitB x.f0 x.f1 x.f2 x.f3 p ns vs m l b t
theorem HitsAny_l0 (K : Nat) (hK : K ≤ 1048576) (bs : List S25) (hb : bs.length ≤ 1048576) (hx : ∀ x ∈ bs, x.f1.size ≤ K ∧ x.f2.size ≤ K) (p : ByteArray) (ns vs : List ByteArray) (m : Int) (l : List S116) (b : ByteArray) (t : Int) (hp : p.size ≤ K) (hn : SmallB K ns) (hv : SmallB K vs) (hl : SmallF K l) : ∀ (d k i : Nat), bs.length = i + d → d + 9300001 < k →
    spec_HitsAny.l0 k bs i p ns vs m l b t = some (hitsB (bs.drop i) p ns vs m l b t) ∧ impl_HitsAny.l0 k bs (bs.length : Int) i p ns vs m l b t = some (hitsB (bs.drop i) p ns vs m l b t) := by
  intro d
  induction d with
  | zero =>
    intro k i hd hk
    obtain ⟨k, rfl⟩ := succ_of (show 0 < k by omega)
    simp only [spec_HitsAny.l0, impl_HitsAny.l0]
    rw [if_neg (by omega), if_neg (by omega), List.drop_eq_nil_of_le (by omega)]
    exact ⟨rfl, rfl⟩
  | succ d ih =>
    intro k i hd hk
    obtain ⟨k, rfl⟩ := succ_of (show 0 < k by omega)
    have hlt : i < bs.length := by omega
    have hs := hx _ (List.getElem_mem hlt)
    have hrd : rd_T25 bs (i : Int) = bs[i] := by simp [rd_T25, List.getD, hlt]
    obtain ⟨i1, i2⟩ := ih k (i + 1) (by omega) (by omega)
    have hc : hitsB (bs.drop i) p ns vs m l b t = (hitB bs[i].f0 bs[i].f1 bs[i].f2 bs[i].f3 p ns vs m l b t || hitsB (bs.drop (i + 1)) p ns vs m l b t) := by
      unfold hitsB; rw [drop_at hlt, List.any_cons]
    simp only [spec_HitsAny.l0, impl_HitsAny.l0]
    rw [hrd, nat_round (n := bs.length) hlt (by omega), hc]
    refine ⟨?_, ?_⟩
    · rw [if_pos (by omega), if_pos (by omega), spec_Hits_f hK hs.1 hs.2 hp hn hv hl (by omega), Option.bind_some]
      cases hitB bs[i].f0 bs[i].f1 bs[i].f2 bs[i].f3 p ns vs m l b t
      · rw [if_neg (by simp), i1]; rfl
      · rfl
    · rw [if_pos (by omega), if_pos (by omega), if_pos (by omega), impl_Hits_f hK hs.1 hs.2 hp hn hv hl (by omega), Option.bind_some]
      cases hitB bs[i].f0 bs[i].f1 bs[i].f2 bs[i].f3 p ns vs m l b t
      · rw [if_neg (by simp), i2]; rfl
      · rfl
theorem spec_l11DrawRight_f {l : List Int} {i h t : Int} (hl : (l.length : Int) ≤ 4611686018427387904) (h0 : 0 ≤ i) (hi : i ≤ l.length) : ∃ kd a b c' h', spec_l11DrawRight.f l i h t = some (kd, a, b, t, c', h') ∧ a.size ≤ 61 ∧ b.size ≤ 61 ∧ 0 ≤ c' ∧ c' ≤ l.length := by
  unfold spec_l11DrawRight.f
  obtain ⟨v, c1, h1, e1, _, _, _, c10, c11⟩ := spec_l1Below_f l i h 3 h0 hl hi
  rw [e1, Option.bind_some]
  dsimp only
  split
  · obtain ⟨u, c4, h4, e4, hu, c40, c41⟩ := spec_l1Pick_le l c1 h1 61 [(⟨#[47]⟩ : ByteArray), (⟨#[47, 97]⟩ : ByteArray), (⟨#[47, 97, 47, 98]⟩ : ByteArray), (⟨#[47, 98]⟩ : ByteArray)] c10 hl c11 (by decide) (by rfl)
    rw [e4, Option.bind_some]
    exact ⟨_, _, _, _, _, rfl, hu, Nat.zero_le _, c40, c41⟩
  · split
    · obtain ⟨u, c4, h4, e4, hu, c40, c41⟩ := spec_l1Pick_le l c1 h1 61 [(⟨#[47]⟩ : ByteArray), (⟨#[47, 97]⟩ : ByteArray), (⟨#[47, 98, 47, 99]⟩ : ByteArray)] c10 hl c11 (by decide) (by rfl)
      rw [e4, Option.bind_some]
      exact ⟨_, _, _, _, _, rfl, hu, Nat.zero_le _, c40, c41⟩
    · obtain ⟨u, c4, h4, e4, hu, c40, c41⟩ := spec_l1Pick_le l c1 h1 61 [(⟨#[101, 116, 97, 103]⟩ : ByteArray), (⟨#[120, 45, 97]⟩ : ByteArray)] c10 hl c11 (by decide) (by rfl)
      rw [e4, Option.bind_some]
      dsimp only
      obtain ⟨u', c5, h5, e5, hu', c50, c51⟩ := spec_l1Pick_le l c4 h4 61 [(⟨#[97]⟩ : ByteArray), (⟨#[98]⟩ : ByteArray), (⟨#[49]⟩ : ByteArray)] c40 hl c41 (by decide) (by rfl)
      rw [e5, Option.bind_some]
      exact ⟨_, _, _, _, _, rfl, hu, hu', c50, c51⟩
theorem spec_l11Draw_f {l : List Int} {i h : Int} (hl : (l.length : Int) ≤ 4611686018427387904) (h0 : 0 ≤ i) (hi : i ≤ l.length) : ∃ kd a b t c' h', spec_l11Draw.f l i h = some (kd, a, b, t, c', h') ∧ a.size ≤ 61 ∧ b.size ≤ 61 ∧ 0 ≤ c' ∧ c' ≤ l.length := by
  unfold spec_l11Draw.f
  obtain ⟨v, c1, h1, e1, _, _, _, c10, c11⟩ := spec_l1Below_f l i h 40 h0 hl hi
  rw [e1, Option.bind_some]
  dsimp only
  obtain ⟨kd, a, b, c2, h2, e2, ha, hb, c20, c21⟩ := spec_l11DrawRight_f (h := h1) (t := v) hl c10 c11
  rw [e2, Option.bind_some]
  dsimp only
  obtain ⟨w, c3, h3, e3, _, _, _, c30, c31⟩ := spec_l1Below_f l c2 h2 15 c20 hl c21
  rw [e3, Option.bind_some]
  dsimp only
  split
  · obtain ⟨u, c4, h4, e4, _, _, _, c40, c41⟩ := spec_l1Below_f l c3 h3 6 c30 hl c31
    rw [e4, Option.bind_some]
    exact ⟨_, _, _, _, _, _, rfl, ha, hb, c40, c41⟩
  · split
    · obtain ⟨u, c4, h4, e4, _, c40, c41⟩ := spec_l7DrawTime_f l c3 h3 c30 hl c31
      rw [e4, Option.bind_some]
      exact ⟨_, _, _, _, _, _, rfl, ha, hb, c40, c41⟩
    · split
      · obtain ⟨u, c4, h4, e4, hu, c40, c41⟩ := spec_l1Pick_le l c3 h3 61 [(⟨#[]⟩ : ByteArray), (⟨#[65]⟩ : ByteArray), (⟨#[47, 32]⟩ : ByteArray)] c30 hl c31 (by decide) (by rfl)
        rw [e4, Option.bind_some]
        exact ⟨_, _, _, _, _, _, rfl, hu, hb, c40, c41⟩
      · split
        · obtain ⟨u, c4, h4, e4, hu, c40, c41⟩ := spec_l1Pick_le l c3 h3 61 [(⟨#[]⟩ : ByteArray), (⟨#[113]⟩ : ByteArray), (⟨#[32, 113]⟩ : ByteArray)] c30 hl c31 (by decide) (by rfl)
          rw [e4, Option.bind_some]
          exact ⟨_, _, _, _, _, _, rfl, ha, hu, c40, c41⟩
        · exact ⟨_, _, _, _, _, _, rfl, ha, hb, c30, c31⟩
theorem spec_DrawHits_f {k : Nat} {l : List Int} (hl : (l.length : Int) ≤ 4611686018427387904) (hk : l.length + 9400010 < k) : ∃ kd a c u p ns vs m fs b t, spec_DrawHits.f k l = some (kd, a, c, u, p, ns, vs, m, fs, b, t) ∧ a.size ≤ 61 ∧ c.size ≤ 61 ∧ SmallO 61 p ns vs fs := by
  unfold spec_DrawHits.f
  obtain ⟨h, e⟩ := spec_l1New_f (k := k) hl (by omega)
  rw [e, Option.bind_some]
  dsimp only
  obtain ⟨kd, a, c, u, i1, h1, e1, ha, hc, i10, i11⟩ := spec_l11Draw_f (i := 0) (h := h) hl (by omega) (by omega)
  rw [e1, Option.bind_some]
  dsimp only
  obtain ⟨p, ns, vs, m, fs, b, t, i2, h2, e2, hs, _⟩ := spec_l10Draw_f (k := k) (h := h1) hl i10 i11 (by omega)
  rw [e2, Option.bind_some]
  exact ⟨_, _, _, _, _, _, _, _, _, _, _, rfl, ha, hc, hs⟩
theorem spec_DrawHitsAny_l0 (l : List Int) (hl : (l.length : Int) ≤ 4611686018427387904) : ∀ (d k i : Nat) (acc : List S25) (c h : Int), i + d = 3 → acc.length = i → (∀ x ∈ acc, x.f1.size ≤ 61 ∧ x.f2.size ≤ 61) → 0 ≤ c → c ≤ l.length → d + 9400012 < k →
    ∃ bs p ns vs m fs b t, spec_DrawHitsAny.l0 k acc i l c h = some (bs, p, ns, vs, m, fs, b, t) ∧ bs.length ≤ 3 ∧ (∀ x ∈ bs, x.f1.size ≤ 61 ∧ x.f2.size ≤ 61) ∧ SmallO 61 p ns vs fs := by
  have fin : ∀ (k : Nat) (acc : List S25) (c h : Int), acc.length ≤ 3 → (∀ x ∈ acc, x.f1.size ≤ 61 ∧ x.f2.size ≤ 61) → 0 ≤ c → c ≤ l.length → 9400010 < k → ∃ bs p ns vs m fs b t, ((spec_l10Draw.f k l c h).bind fun bt => (some (acc, bt.1, bt.2.1, bt.2.2.1, bt.2.2.2.1, bt.2.2.2.2.1, bt.2.2.2.2.2.1, bt.2.2.2.2.2.2.1))) = some (bs, p, ns, vs, m, fs, b, t) ∧ bs.length ≤ 3 ∧ (∀ x ∈ bs, x.f1.size ≤ 61 ∧ x.f2.size ≤ 61) ∧ SmallO 61 p ns vs fs := by
    intro k acc c h ha hx h0 hi hk
    obtain ⟨p, ns, vs, m, fs, b, t, i2, h2, e2, hs, _⟩ := spec_l10Draw_f (k := k) (h := h) hl h0 hi hk
    rw [e2, Option.bind_some]
    exact ⟨_, _, _, _, _, _, _, _, rfl, ha, hx, hs⟩
  intro d
  induction d with
  | zero =>
    intro k i acc c h hd ha hx h0 hi hk
    obtain ⟨k, rfl⟩ := succ_of (show 0 < k by omega)
    obtain ⟨v, c1, h1, e, v0, v1, _, c10, c11⟩ := spec_l1Below_f l c h 4 h0 hl hi
    have v2 := v1 (by omega)
    simp only [spec_DrawHitsAny.l0]
    rw [e, Option.bind_some]
    dsimp only
    rw [if_neg (by omega)]
    exact fin k acc c1 h1 (by omega) hx c10 c11 (by omega)
  | succ d ih =>
    intro k i acc c h hd ha hx h0 hi hk
    obtain ⟨k, rfl⟩ := succ_of (show 0 < k by omega)
    obtain ⟨v, c1, h1, e, v0, v1, _, c10, c11⟩ := spec_l1Below_f l c h 4 h0 hl hi
    simp only [spec_DrawHitsAny.l0]
    rw [e, Option.bind_some]
    dsimp only
    by_cases hc : (i : Int) < v
    · obtain ⟨kd, a, b, t, c2, h2, e2, h3, h4, c20, c21⟩ := spec_l11Draw_f (h := h1) hl c10 c11
      rw [if_pos hc, e2, Option.bind_some]
      dsimp only
      rw [if_pos (by omega), w64 (by omega)]
      exact ih k (i + 1) _ c2 h2 (by omega) (by simp; omega) (fun x hx' => by
        rcases List.mem_append.1 hx' with hx' | hx'
        · exact hx x hx'
        · rw [List.mem_singleton.1 hx']; exact ⟨h3, h4⟩) c20 c21 (by omega)
    · rw [if_neg hc]
      exact fin k acc c1 h1 (by omega) hx c10 c11 (by omega)
theorem spec_DrawHitsAny_f {k : Nat} {l : List Int} (hl : (l.length : Int) ≤ 4611686018427387904) (hk : l.length + 9400020 < k) : ∃ bs p ns vs m fs b t, spec_DrawHitsAny.f k l = some (bs, p, ns, vs, m, fs, b, t) ∧ bs.length ≤ 3 ∧ (∀ x ∈ bs, x.f1.size ≤ 61 ∧ x.f2.size ≤ 61) ∧ SmallO 61 p ns vs fs := by
  unfold spec_DrawHitsAny.f
  obtain ⟨h, e⟩ := spec_l1New_f (k := k) hl (by omega)
  rw [e, Option.bind_some]
  dsimp only
  exact spec_DrawHitsAny_l0 l hl 3 k 0 [] 0 h rfl rfl (fun x hx => by cases hx) (by omega) (by omega) (by omega)

end Go.Proofs.YtjlpjbkpmmpojaaGreatDoor.Pure
