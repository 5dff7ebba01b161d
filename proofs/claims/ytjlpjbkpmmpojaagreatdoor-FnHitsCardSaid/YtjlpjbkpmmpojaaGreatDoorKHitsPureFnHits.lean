/- The law FnHits over plain values: with enough rounds it answers true, at every input within the bounds that any machine has. -/
import Derived.Test.YtjlpjbkpmmpojaaGreatDoorKHitsAllx0
import Derived.Test.YtjlpjbkpmmpojaaGreatDoorKHitsAllx16
import Derived.Test.YtjlpjbkpmmpojaaGreatDoorKHitsAllx17
import Derived.Test.YtjlpjbkpmmpojaaGreatDoorKHitsAllx18
import Derived.Test.YtjlpjbkpmmpojaaGreatDoorKHitsAllx2
import Derived.Test.YtjlpjbkpmmpojaaGreatDoorKHitsQh12e334e9
import Derived.Test.YtjlpjbkpmmpojaaGreatDoorKHitsQh2f63b7f8
import Derived.Test.YtjlpjbkpmmpojaaGreatDoorKHitsQhd4f6af10
import Derived.Test.YtjlpjbkpmmpojaaGreatDoorKHitsQhf44be94c
namespace Go.Proofs.YtjlpjbkpmmpojaaGreatDoor.Pure
open Go.RowKit Go.Proofs.YtjlpjbkpmmpojaaGreatDoor.All Go.Proofs.YtjlpjbkpmmpojaaGreatDoorW.PrintWords Go.Proofs.YtjlpjbkpmmpojaaGreatDoorW.PrintLast
set_option linter.unusedVariables false
set_option linter.unusedSimpArgs false

theorem hitB_facts {kd : Int} {a c : ByteArray} {u : Int} {p : ByteArray} {ns vs : List ByteArray} {m : Int} {l : List S116} {b : ByteArray} {t : Int} (h : hitB kd a c u p ns vs m l b t = true) : ¬ t > u ∧ banB kd a c u = true ∧ objB p ns vs m l b t = true := by
  unfold hitB at h
  simp only [Bool.and_eq_true, Bool.not_eq_true', decide_eq_false_iff_not] at h
  exact ⟨h.1, h.2.1, h.2.2.1⟩
theorem hitB_late {kd : Int} {a c : ByteArray} {u : Int} {p : ByteArray} {ns vs : List ByteArray} {m : Int} {l : List S116} {b : ByteArray} {t : Int} (h : hitB kd a c u p ns vs m l b t = true) : hitB kd a c 1000000 p ns vs m l b t = true := by
  obtain ⟨_, h2, h3⟩ := hitB_facts h
  have ht := (objB_facts h3).2.2.1
  unfold hitB at h ⊢
  simp only [Bool.and_eq_true, Bool.not_eq_true', decide_eq_false_iff_not] at h ⊢
  refine ⟨by omega, ?_, h.2.2⟩
  unfold banB at h2 ⊢
  rw [Bool.and_eq_true] at h2 ⊢
  exact ⟨by decide, h2.2⟩
theorem hitB_below {a c : ByteArray} {u : Int} {p : ByteArray} {ns vs : List ByteArray} {m : Int} {l : List S116} {b : ByteArray} {t : Int} (h : hitB 1 a c u p ns vs m l b t = true) : hitB 2 a c u p ns vs m l b t = true := by
  obtain ⟨h1, h2, h3⟩ := hitB_facts h
  unfold hitB at h ⊢
  rw [if_pos rfl] at h
  rw [if_neg (by decide), if_pos rfl]
  simp only [Bool.and_eq_true, Bool.not_eq_true', decide_eq_false_iff_not] at h ⊢
  have e : p = a := toList_inj (eq_of_beq h.2.2.2)
  subst e
  refine ⟨h1, ?_, h3, decide_eq_true (Nat.le_refl _), ?_⟩
  · unfold banB at h2 ⊢
    rw [if_pos (.inl rfl)] at h2
    rw [if_pos (.inr rfl)]
    exact h2
  · rw [extract_all0]; simp
theorem FnHits_j2 {k : Nat} {kd : Int} {a c : ByteArray} {u : Int} {p : ByteArray} {ns vs : List ByteArray} {m : Int} {l : List S116} {b : ByteArray} {t : Int} {any : Bool} {g : Bool} (hg : g = true → kd = 1 ∧ hitB kd a c u p ns vs m l b t = true) (ha : a.size ≤ 61) (hc : c.size ≤ 61) (hs : SmallO 61 p ns vs l) (hk : 9400000 < k) :
    laws_FnHits.j2 k (hitB kd a c u p ns vs m l b t) any any g kd a c u p ns vs m l b t kd a c 1000000 = some true := by
  obtain ⟨s1, s2, s3, s4⟩ := hs
  obtain ⟨k, rfl⟩ := succ_of (show 0 < k by omega)
  have tail : (if (any == any) = true then (if hitB kd a c u p ns vs m l b t = true then ((impl_Hits.f k kd a c 1000000 p ns vs m l b t).bind fun t920 => (some t920)) else (some true)) else (some false)) = some true := by
    rw [if_pos (by simp)]
    by_cases h : hitB kd a c u p ns vs m l b t = true
    · rw [if_pos h, impl_Hits_f (K := 61) (by omega) ha hc s1 s2 s3 s4 (by omega), Option.bind_some, hitB_late h]
    · rw [if_neg h]
  simp only [laws_FnHits.j2]
  cases g with
  | false => rw [if_neg (by simp)]; exact tail
  | true =>
    obtain ⟨rfl, h⟩ := hg rfl
    rw [if_pos rfl, impl_Hits_f (K := 61) (kd := 2) (by omega) ha hc s1 s2 s3 s4 (by omega), Option.bind_some, hitB_below h, if_pos rfl]
    exact tail
theorem FnHits_l0 {kd : Int} {a c : ByteArray} {u : Int} {p : ByteArray} {ns vs : List ByteArray} {m : Int} {l : List S116} {b : ByteArray} {t : Int} (ha : a.size ≤ 61) (hc : c.size ≤ 61) (hs : SmallO 61 p ns vs l) (bs : List S25) (hb : bs.length ≤ 3) (hx : ∀ x ∈ bs, x.f1.size ≤ 61 ∧ x.f2.size ≤ 61) {p' : ByteArray} {ns' vs' : List ByteArray} {m' : Int} {l' : List S116} {b' : ByteArray} {t' : Int} (hs' : SmallO 61 p' ns' vs' l') :
    ∀ (d k i : Nat) (one : Bool), bs.length = i + d → (one || hitsB (bs.drop i) p' ns' vs' m' l' b' t') = hitsB bs p' ns' vs' m' l' b' t' → d + 9400010 < k →
      laws_FnHits.l0 k (hitB kd a c u p ns vs m l b t) bs (hitsB bs p' ns' vs' m' l' b' t') one i kd a c u p ns vs m l b t p' ns' vs' m' l' b' t' = some true := by
  intro d
  induction d with
  | zero =>
    intro k i one hd ho hk
    obtain ⟨k, rfl⟩ := succ_of (show 0 < k by omega)
    rw [List.drop_eq_nil_of_le (by omega), show hitsB [] p' ns' vs' m' l' b' t' = false from rfl, Bool.or_false] at ho
    subst ho
    simp only [laws_FnHits.l0]
    rw [if_neg (by omega)]
    by_cases h : kd = 1
    · rw [if_pos h]
      exact FnHits_j2 (fun hg => ⟨h, hg⟩) ha hc hs (by omega)
    · rw [if_neg h]
      exact FnHits_j2 (fun hg => by cases hg) ha hc hs (by omega)
  | succ d ih =>
    intro k i one hd ho hk
    obtain ⟨k, rfl⟩ := succ_of (show 0 < k by omega)
    obtain ⟨s1, s2, s3, s4⟩ := hs'
    have hlt : i < bs.length := by omega
    have hxs := hx _ (List.getElem_mem hlt)
    have hrd : rd_T25 bs (i : Int) = bs[i] := by simp [rd_T25, List.getD, hlt]
    have hcs : hitsB (bs.drop i) p' ns' vs' m' l' b' t' = (hitB bs[i].f0 bs[i].f1 bs[i].f2 bs[i].f3 p' ns' vs' m' l' b' t' || hitsB (bs.drop (i + 1)) p' ns' vs' m' l' b' t') := by
      unfold hitsB; rw [drop_at hlt, List.any_cons]
    simp only [laws_FnHits.l0]
    rw [if_pos (by omega), nat_round (n := bs.length) hlt (by omega)]
    cases one with
    | true =>
      rw [if_pos rfl]
      exact ih k (i + 1) true (by omega) (by rw [← ho, Bool.true_or, Bool.true_or]) (by omega)
    | false =>
      rw [if_neg (by simp), if_pos (by omega), hrd, impl_Hits_f (K := 61) (by omega) hxs.1 hxs.2 s1 s2 s3 s4 (by omega), Option.bind_some]
      exact ih k (i + 1) _ (by omega) (by rw [← ho, hcs, Bool.false_or]) (by omega)
theorem FnHits_j0 {k : Nat} {x : List Int} (hx : x.length ≤ 1048576) {kd : Int} {a c : ByteArray} {u : Int} {p : ByteArray} {ns vs : List ByteArray} {m : Int} {l : List S116} {b : ByteArray} {t : Int} (ha : a.size ≤ 61) (hc : c.size ≤ 61) (hs : SmallO 61 p ns vs l) (hk : 11000000 < k) :
    laws_FnHits.j0 k x (hitB kd a c u p ns vs m l b t) false kd a c u p ns vs m l b t = some true := by
  obtain ⟨k, rfl⟩ := succ_of (show 0 < k by omega)
  obtain ⟨bs, p', ns', vs', m', l', b', t', e, hb, hbx, hs'⟩ := spec_DrawHitsAny_f (k := k) (l := x) (by omega) (by omega)
  obtain ⟨s1, s2, s3, s4⟩ := hs'
  obtain ⟨i1, i2⟩ := HitsAny_l0 61 (by omega) bs (by omega) hbx p' ns' vs' m' l' b' t' s1 s2 s3 s4 bs.length k 0 (by omega) (by omega)
  simp only [laws_FnHits.j0]
  rw [if_neg (by simp), e, Option.bind_some]
  dsimp only
  unfold impl_HitsAny.f spec_HitsAny.f
  rw [List.drop_zero] at i1 i2
  rw [show impl_HitsAny.l0 k bs (bs.length : Int) 0 p' ns' vs' m' l' b' t' = _ from i2, Option.bind_some, show spec_HitsAny.l0 k bs 0 p' ns' vs' m' l' b' t' = _ from i1, Option.bind_some, if_neg (by simp)]
  exact FnHits_l0 ha hc hs bs hb hbx ⟨s1, s2, s3, s4⟩ bs.length k 0 false (by omega) (by rw [List.drop_zero, Bool.false_or]) (by omega)
theorem FnHits : ∀ (a0 : List (Int)), (a0.length ≤ maxLen ∧ ∀ x_ ∈ a0, (Lit.int .u8 x_).wf = true) → ∃ k, laws_FnHits.f k a0 = some true := by
  intro x _
  obtain ⟨k, hk⟩ : ∃ k, 11000000 < k := ⟨_, Nat.lt_succ_self _⟩
  refine ⟨k, ?_⟩
  unfold laws_FnHits.f laws_big.f
  rw [Option.bind_some]
  by_cases hb : (x.length : Int) > 1048576
  · rw [if_pos (decide_eq_true hb)]
  rw [if_neg (by simpa using hb)]
  obtain ⟨kd, a, c, u, p, ns, vs, m, fs, b, t, e, ha, hc, hs⟩ := spec_DrawHits_f (k := k) (l := x) (by omega) (by omega)
  have hj := FnHits_j0 (k := k) (x := x) (by omega) (kd := kd) (u := u) (m := m) (b := b) (t := t) ha hc hs hk
  obtain ⟨s1, s2, s3, s4⟩ := hs
  rw [e, Option.bind_some]
  dsimp only
  rw [impl_Hits_f (K := 61) (by omega) ha hc s1 s2 s3 s4 (by omega), Option.bind_some, spec_Hits_f (K := 61) (by omega) ha hc s1 s2 s3 s4 (by omega), Option.bind_some, if_neg (by simp)]
  by_cases h : hitB kd a c u p ns vs m fs b t = true
  · obtain ⟨h1, h2, h3⟩ := hitB_facts h
    rw [if_pos h, if_neg h1, impl_BanOk_f (by omega) (by omega) (by omega), Option.bind_some, if_pos h2, impl_ObjOk_f (K := 61) (by omega) s1 s2 s3 s4 (by omega), Option.bind_some, h3]
    exact hj
  · rw [if_neg h]
    exact hj

end Go.Proofs.YtjlpjbkpmmpojaaGreatDoor.Pure
