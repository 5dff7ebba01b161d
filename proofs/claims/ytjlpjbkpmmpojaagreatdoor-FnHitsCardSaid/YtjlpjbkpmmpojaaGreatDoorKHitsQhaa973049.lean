/- What the printed functions answer, in plain words: lemmas of this session. No condition of a statement lies here. -/
import Derived.Test.YtjlpjbkpmmpojaaGreatDoorKHitsAllx0
import Derived.Test.YtjlpjbkpmmpojaaGreatDoorKHitsAllx12
import Derived.Test.YtjlpjbkpmmpojaaGreatDoorKHitsAllx14
import Derived.Test.YtjlpjbkpmmpojaaGreatDoorKHitsAllx1
import Derived.Test.YtjlpjbkpmmpojaaGreatDoorKHitsAllx8
import Derived.Test.YtjlpjbkpmmpojaaGreatDoorKHitsAllx9
import Derived.Test.YtjlpjbkpmmpojaaGreatDoorKHitsAllx20
import Derived.Test.YtjlpjbkpmmpojaaGreatDoorKHitsAllx36
import Derived.Test.YtjlpjbkpmmpojaaGreatDoorKHitsQh6e319487
import Derived.Test.YtjlpjbkpmmpojaaGreatDoorKHitsQhc39a8f39
import Derived.Test.YtjlpjbkpmmpojaaGreatDoorKHitsQhd4f6af10
import Derived.Test.YtjlpjbkpmmpojaaGreatDoorKHitsQhf44be94c
namespace Go.Proofs.YtjlpjbkpmmpojaaGreatDoor.Pure
open Go.RowKit Go.Proofs.YtjlpjbkpmmpojaaGreatDoor.All Go.Proofs.YtjlpjbkpmmpojaaGreatDoorW.PrintWords Go.Proofs.YtjlpjbkpmmpojaaGreatDoorW.PrintLast
set_option linter.unusedVariables false
set_option linter.unusedSimpArgs false

def valuesF (l : List S116) (ns : List ByteArray) : List ByteArray := ns.map fun n => (getF n l).getD ⟨#[45]⟩
theorem ValuesOf_l0 (ns : List ByteArray) (l : List S116) (hn : ns.length ≤ 1048576) (hl : l.length < 4398046511104) : ∀ (d k i : Nat) (acc : List ByteArray), ns.length - i = d → i ≤ ns.length → acc.length ≤ i → d + l.length < k →
    impl_ValuesOf.l0 k l acc ns (ns.length : Int) i = some (acc ++ valuesF l (ns.drop i)) ∧ spec_ValuesOf.l0 k ns l acc i = some (acc ++ valuesF l (ns.drop i)) := by
  intro d
  induction d with
  | zero =>
    intro k i acc hd hi ha hk
    obtain ⟨k, rfl⟩ := succ_of (show 0 < k by omega)
    simp only [spec_ValuesOf.l0, impl_ValuesOf.l0]
    rw [if_neg (by omega), if_neg (by omega), List.drop_eq_nil_of_le (by omega), valuesF, List.map_nil, List.append_nil]
    exact ⟨rfl, rfl⟩
  | succ d ih =>
    intro k i acc hd hi ha hk
    obtain ⟨k, rfl⟩ := succ_of (show 0 < k by omega)
    have hlt : i < ns.length := by omega
    have ha' : acc.length < 8796093022208 := by omega
    have st : ∀ x : ByteArray, x = (getF ns[i] l).getD ⟨#[45]⟩ → impl_ValuesOf.l0 k l (acc ++ [x]) ns (ns.length : Int) ((i + 1 : Nat) : Int) = some (acc ++ valuesF l (ns.drop i)) ∧ spec_ValuesOf.l0 k ns l (acc ++ [x]) ((i + 1 : Nat) : Int) = some (acc ++ valuesF l (ns.drop i)) := fun x hx => by
      obtain ⟨i1, i2⟩ := ih k (i + 1) (acc ++ [x]) (by omega) (by omega) (by simp; omega) (by omega)
      rw [i1, i2, drop_at hlt, valuesF, valuesF, List.map_cons, List.append_assoc, hx]
      exact ⟨rfl, rfl⟩
    simp only [spec_ValuesOf.l0, impl_ValuesOf.l0]
    refine ⟨?_, ?_⟩
    · rw [if_pos (by omega), if_pos (by omega), if_pos (by omega), rd_B ns i hlt, nat_round (n := ns.length) hlt (by omega), impl_Get_f hl, Option.bind_some]
      cases h : getF ns[i] l with
      | none => simp only [Option.isSome_none, Bool.false_eq_true, if_false]; rw [if_pos ha']; exact (st ⟨#[45]⟩ (by simp [h])).1
      | some v => simp only [Option.isSome_some, if_true, Option.getD_some]; rw [if_pos ha']; exact (st v (by simp [h])).1
    · rw [if_pos (by omega), if_pos (by omega), rd_B ns i hlt, nat_round (n := ns.length) hlt (by omega), spec_Get_f (by omega) (by omega), Option.bind_some]
      cases h : getF ns[i] l with
      | none => simp only [Option.isSome_none, Bool.false_eq_true, if_false]; rw [if_pos ha']; exact (st ⟨#[45]⟩ (by simp [h])).2
      | some v => simp only [Option.isSome_some, if_true, Option.getD_some]; rw [if_pos ha']; exact (st v (by simp [h])).2
theorem spec_ValuesOf_f {k : Nat} {ns : List ByteArray} {l : List S116} (hn : ns.length ≤ 1048576) (hl : l.length < 4398046511104) (hk : ns.length + l.length < k) : spec_ValuesOf.f k ns l = some (valuesF l ns) := by
  have := (ValuesOf_l0 ns l hn hl ns.length k 0 [] (by omega) (by omega) (by simp) hk).2
  simpa [spec_ValuesOf.f] using this
/-! ### ObjOf -/
def objOfR (m : Int) (p : ByteArray) (q : List S116) (b : ByteArray) (st : Int) (l : List S116) (rb : ByteArray) (t : Int) : ByteArray × List ByteArray × List ByteArray × Int × List S116 × ByteArray × Int × Bool :=
  if mayB m p q b st l rb = true then (if objB p (varyF l) (valuesF q (varyF l)) st l rb t = true then (p, varyF l, valuesF q (varyF l), st, l, rb, t, true) else rejO) else rejO
theorem valuesF_small {K : Nat} {q : List S116} {ns : List ByteArray} (h1 : 1 ≤ K) (hn : ns.length ≤ K) (hq : SmallF K q) : SmallB K (valuesF q ns) := by
  unfold valuesF
  refine ⟨by rw [List.length_map]; exact hn, fun x hx => ?_⟩
  obtain ⟨n, _, rfl⟩ := List.mem_map.1 hx
  cases h : getF n q with
  | none => exact h1
  | some v => have h2 := getF_small (n := n) hq.2; rw [h] at h2; exact h2
theorem mayB_facts {m : Int} {p : ByteArray} {q : List S116} {b : ByteArray} {st : Int} {l : List S116} {rb : ByteArray} (h : mayB m p q b st l rb = true) : reqB m p q b = true ∧ respB st l rb = true ∧ m = 1 ∧ st = 200 ∧ namesB (varyF l) = true := by
  unfold mayB keepB at h
  simp only [Bool.and_eq_true, Bool.not_eq_true', decide_eq_true_eq] at h
  exact ⟨h.1, h.2.1, h.2.2.1, h.2.2.2.1, h.2.2.2.2.2.2.2.2⟩
theorem namesB_small {K : Nat} {l : List ByteArray} (hK : 20 ≤ K) (h : namesB l = true) : SmallB K l := by
  unfold namesB at h
  rw [Bool.and_eq_true, List.all_eq_true] at h
  have h1 := of_decide_eq_true h.2
  exact ⟨by omega, fun x hx => by have := (tok_size (h.1 x hx)).2; omega⟩
theorem spec_ObjOf_f {k K : Nat} {m : Int} {p : ByteArray} {q : List S116} {b : ByteArray} {st : Int} {l : List S116} {rb : ByteArray} {t : Int} (hK : K ≤ 1048576) (h20 : 20 ≤ K) (hp : p.size ≤ K) (hq : SmallF K q) (hl : SmallF K l) (hk : 9300000 < k) : spec_ObjOf.f k m p q b st l rb t = some (objOfR m p q b st l rb t) := by
  have hl1 := hl.1
  have hq1 := hq.1
  unfold spec_ObjOf.f objOfR
  rw [spec_MayKeep_f hK hp hq hl (by omega), Option.bind_some]
  by_cases h : mayB m p q b st l rb = true
  · have hn := namesB_small h20 (mayB_facts h).2.2.2.2
    have hv := valuesF_small (by omega) hn.1 hq
    have hnl := hn.1
    unfold spec_l9Resp.f spec_l9Copy.f
    rw [if_pos h, if_pos h, spec_VaryOf_f hK hl (by omega), Option.bind_some, spec_ValuesOf_f (by omega) (by omega) (by omega), Option.bind_some, Option.bind_some, if_pos (by simp; omega), Option.bind_some, Option.bind_some]
    dsimp only
    rw [List.nil_append, spec_ObjOk_f hK hp hn hv hl (by omega), Option.bind_some]
    by_cases h2 : objB p (varyF l) (valuesF q (varyF l)) st l rb t = true
    · rw [if_pos h2, if_pos h2]
    · rw [if_neg h2, if_neg h2]; rfl
  · rw [if_neg h, if_neg h]; rfl
end Go.Proofs.YtjlpjbkpmmpojaaGreatDoor.Pure
