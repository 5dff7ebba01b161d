/- What the printed functions answer, in plain words: lemmas of this session. No condition of a statement lies here. -/
import Derived.Test.YtjlpjbkpmmpojaaGreatDoorKHitsAllx0
import Derived.Test.YtjlpjbkpmmpojaaGreatDoorKHitsAllx15
import Derived.Test.YtjlpjbkpmmpojaaGreatDoorKHitsQh6e319487
import Derived.Test.YtjlpjbkpmmpojaaGreatDoorKHitsQh738eabfc
import Derived.Test.YtjlpjbkpmmpojaaGreatDoorKHitsQh7c28969f
import Derived.Test.YtjlpjbkpmmpojaaGreatDoorKHitsQh9b113787
import Derived.Test.YtjlpjbkpmmpojaaGreatDoorKHitsQhaa973049
import Derived.Test.YtjlpjbkpmmpojaaGreatDoorKHitsQhd4f6af10
import Derived.Test.YtjlpjbkpmmpojaaGreatDoorKHitsQhf44be94c
namespace Go.Proofs.YtjlpjbkpmmpojaaGreatDoor.Pure
open Go.RowKit Go.Proofs.YtjlpjbkpmmpojaaGreatDoor.All Go.Proofs.YtjlpjbkpmmpojaaGreatDoorW.PrintWords Go.Proofs.YtjlpjbkpmmpojaaGreatDoorW.PrintLast
set_option linter.unusedVariables false
set_option linter.unusedSimpArgs false

def SmallO (K : Nat) (p : ByteArray) (ns vs : List ByteArray) (l : List S116) : Prop := p.size ≤ K ∧ SmallB K ns ∧ SmallB K vs ∧ SmallF K l
theorem spec_l10DrawRight_l0 (l : List Int) (hl : (l.length : Int) ≤ 4611686018427387904) (t : Int) : ∀ (d k i : Nat) (c h : Int), i + d = 4 → 0 ≤ c → c ≤ l.length → d + 9400000 < k →
    ∃ p ns vs m fs b t' c' h', spec_l10DrawRight.l0 k t i l c h = some (p, ns, vs, m, fs, b, t', c', h') ∧ SmallO 60 p ns vs fs ∧ 0 ≤ c' ∧ c' ≤ l.length := by
  intro d
  induction d with
  | zero =>
    intro k i c h hd h0 hi hk
    obtain ⟨k, rfl⟩ := succ_of (show 0 < k by omega)
    simp only [spec_l10DrawRight.l0]
    rw [if_neg (by omega)]
    exact ⟨_, _, _, _, _, _, _, _, _, rfl, ⟨Nat.le_of_ble_eq_true rfl, ⟨Nat.zero_le _, fun x hx => by cases hx⟩, ⟨Nat.zero_le _, fun x hx => by cases hx⟩, ⟨Nat.zero_le _, fun x hx => by cases hx⟩⟩, h0, hi⟩
  | succ d ih =>
    intro k i c h hd h0 hi hk
    obtain ⟨k, rfl⟩ := succ_of (show 0 < k by omega)
    simp only [spec_l10DrawRight.l0]
    obtain ⟨st, r, rb, c1, h1, e1, hr, hr6, hrb, c10, c11⟩ := spec_l3DrawResp_f (k := k) (i := c) (h := h) hl h0 hi (by omega)
    rw [if_pos (by omega), e1, Option.bind_some]
    dsimp only
    rw [spec_Drop_f (by omega) (by omega), Option.bind_some]
    have hd1 : SmallF 27 (dropF (⟨#[99, 97, 99, 104, 101, 45, 99, 111, 110, 116, 114, 111, 108]⟩ : ByteArray) r) := dropF_SmallF hr
    generalize dropF (⟨#[99, 97, 99, 104, 101, 45, 99, 111, 110, 116, 114, 111, 108]⟩ : ByteArray) r = r1 at hd1 ⊢
    have hd1l := hd1.1
    obtain ⟨v, c2, h2, e2, hv, c20, c21⟩ := spec_l1Pick_le l c1 h1 27 [(⟨#[109, 97, 120, 45, 97, 103, 101, 61, 53]⟩ : ByteArray), (⟨#[109, 97, 120, 45, 97, 103, 101, 61, 50, 48]⟩ : ByteArray)] c10 hl c11 (by decide) (by rfl)
    rw [e2, Option.bind_some]
    dsimp only
    rw [spec_Put_f (by omega) (by omega), Option.bind_some]
    have hp1 := putF_length (⟨#[99, 97, 99, 104, 101, 45, 99, 111, 110, 116, 114, 111, 108]⟩ : ByteArray) v r1
    have hp2 := putF_small (K := 27) (n := (⟨#[99, 97, 99, 104, 101, 45, 99, 111, 110, 116, 114, 111, 108]⟩ : ByteArray)) (v := v) (by decide) hv hd1.2
    have hp : SmallF 60 (putF (⟨#[99, 97, 99, 104, 101, 45, 99, 111, 110, 116, 114, 111, 108]⟩ : ByteArray) v r1) := ⟨by omega, fun x hx => by have := hp2 x hx; omega⟩
    generalize putF (⟨#[99, 97, 99, 104, 101, 45, 99, 111, 110, 116, 114, 111, 108]⟩ : ByteArray) v r1 = r2 at hp ⊢
    obtain ⟨m, p, q, b, c3, h3, e3, hm, hps, hq, hq3, hb, c30, c31⟩ := spec_l3DrawReq_f (k := k) (i := c2) (h := h2) hl c20 c21 (by omega)
    rw [e3, Option.bind_some]
    dsimp only
    rw [spec_Drop_f (by omega) (by omega), Option.bind_some]
    have hd2 : SmallF 26 (dropF (⟨#[99, 97, 99, 104, 101, 45, 99, 111, 110, 116, 114, 111, 108]⟩ : ByteArray) q) := dropF_SmallF hq
    generalize dropF (⟨#[99, 97, 99, 104, 101, 45, 99, 111, 110, 116, 114, 111, 108]⟩ : ByteArray) q = q1 at hd2 ⊢
    have hd3 : SmallF 60 q1 := ⟨by have := hd2.1; omega, fun x hx => by have := hd2.2 x hx; omega⟩
    rw [spec_ObjOf_f (K := 60) (by omega) (by omega) (by omega) hd3 hp (by omega), Option.bind_some]
    rcases objOfR_or 1 p q1 ⟨#[]⟩ 200 r2 rb t with ho | ⟨ho1, ho2, ho⟩
    · rw [ho, if_neg (show ¬ (rejO.2.2.2.2.2.2.2 = true) by show ¬ (false = true); simp), w64 (by omega)]
      exact ih k (i + 1) c3 h3 (by omega) c30 c31 (by omega)
    · rw [ho]
      dsimp only
      rw [if_pos rfl]
      have hn := namesB_small (K := 60) (by omega) (mayB_facts ho1).2.2.2.2
      exact ⟨_, _, _, _, _, _, _, _, _, rfl, ⟨by omega, hn, valuesF_small (by omega) hn.1 hd3, hp⟩, c30, c31⟩
theorem spec_l10DrawRight_f {k : Nat} {l : List Int} {i h t : Int} (hl : (l.length : Int) ≤ 4611686018427387904) (h0 : 0 ≤ i) (hi : i ≤ l.length) (hk : 9400010 < k) :
    ∃ p ns vs m fs b t' c' h', spec_l10DrawRight.f k l i h t = some (p, ns, vs, m, fs, b, t', c', h') ∧ SmallO 60 p ns vs fs ∧ 0 ≤ c' ∧ c' ≤ l.length :=
  spec_l10DrawRight_l0 l hl t 4 k 0 i h rfl h0 hi (by omega)
theorem SmallO.mono {K L : Nat} (h : K ≤ L) {p : ByteArray} {ns vs : List ByteArray} {l : List S116} (s : SmallO K p ns vs l) : SmallO L p ns vs l := by
  obtain ⟨h1, ⟨h2, h3⟩, ⟨h4, h5⟩, h6, h7⟩ := s
  exact ⟨by omega, ⟨by omega, fun x hx => by have := h3 x hx; omega⟩, ⟨by omega, fun x hx => by have := h5 x hx; omega⟩, by omega, fun x hx => by have := h7 x hx; omega⟩
theorem SmallB.snoc {K : Nat} {l : List ByteArray} {v : ByteArray} (s : SmallB K l) (hv : v.size ≤ K + 1) : SmallB (K + 1) (l ++ [v]) := by
  refine ⟨by have := s.1; simp; omega, fun x hx => ?_⟩
  rcases List.mem_append.1 hx with hx | hx
  · have := s.2 x hx; omega
  · rw [List.mem_singleton.1 hx]; exact hv
theorem spec_l10Draw_f {k : Nat} {l : List Int} {i h : Int} (hl : (l.length : Int) ≤ 4611686018427387904) (h0 : 0 ≤ i) (hi : i ≤ l.length) (hk : 9400010 < k) :
    ∃ p ns vs m fs b t' c' h', spec_l10Draw.f k l i h = some (p, ns, vs, m, fs, b, t', c', h') ∧ SmallO 61 p ns vs fs ∧ 0 ≤ c' ∧ c' ≤ l.length := by
  unfold spec_l10Draw.f
  obtain ⟨v, c1, h1, e1, _, _, _, c10, c11⟩ := spec_l1Below_f l i h 30 h0 hl hi
  rw [e1, Option.bind_some]
  dsimp only
  obtain ⟨p, ns, vs, m, fs, b, t, c2, h2, e2, hs, c20, c21⟩ := spec_l10DrawRight_f (k := k) (h := h1) (t := v) hl c10 c11 hk
  have hs1 := SmallO.mono (show 60 ≤ 61 by omega) hs
  obtain ⟨s1, s2, s3, s4⟩ := hs1
  rw [e2, Option.bind_some]
  dsimp only
  obtain ⟨w, c3, h3, e3, _, _, _, c30, c31⟩ := spec_l1Below_f l c2 h2 20 c20 hl c21
  rw [e3, Option.bind_some]
  dsimp only
  split
  · obtain ⟨u, c4, h4, e4, _, c40, c41⟩ := spec_l7DrawTime_f l c3 h3 c30 hl c31
    rw [e4, Option.bind_some]
    exact ⟨_, _, _, _, _, _, _, _, _, rfl, ⟨s1, s2, s3, s4⟩, c40, c41⟩
  · split
    · obtain ⟨u, c4, h4, e4, hu, c40, c41⟩ := spec_l1Pick_le l c3 h3 61 [(⟨#[]⟩ : ByteArray), (⟨#[120]⟩ : ByteArray), (⟨#[47, 32]⟩ : ByteArray)] c30 hl c31 (by decide) (by rfl)
      rw [e4, Option.bind_some]
      exact ⟨_, _, _, _, _, _, _, _, _, rfl, ⟨hu, s2, s3, s4⟩, c40, c41⟩
    · split
      · have hvl := hs.2.2.1.1
        rw [if_pos (by omega)]
        exact ⟨_, _, _, _, _, _, _, _, _, rfl, ⟨s1, s2, SmallB.snoc hs.2.2.1 (Nat.le_of_ble_eq_true rfl), s4⟩, c30, c31⟩
      · split
        · have hnl := hs.2.1.1
          rw [if_pos (by omega)]
          exact ⟨_, _, _, _, _, _, _, _, _, rfl, ⟨s1, SmallB.snoc hs.2.1 (Nat.le_of_ble_eq_true rfl), s3, s4⟩, c30, c31⟩
        · split
          · obtain ⟨m', r', b', c4, h4, e4, hr, _, c40, c41⟩ := spec_l3DrawBadResp_f (k := k) (h := h3) hl c30 c31 (by omega)
            rw [e4, Option.bind_some]
            exact ⟨_, _, _, _, _, _, _, _, _, rfl, ⟨s1, s2, s3, ⟨by have := hr.1; dsimp only; omega, fun x hx => by have := hr.2 x hx; omega⟩⟩, c40, c41⟩
          · exact ⟨_, _, _, _, _, _, _, _, _, rfl, ⟨s1, s2, s3, s4⟩, c30, c31⟩

end Go.Proofs.YtjlpjbkpmmpojaaGreatDoor.Pure
