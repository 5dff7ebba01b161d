/- What the printed functions answer, in plain words: lemmas of this session. No condition of a statement lies here. -/
import Derived.Test.YtjlpjbkpmmpojaaGreatDoorKHitsAllx0
import Derived.Test.YtjlpjbkpmmpojaaGreatDoorKHitsAllx10
import Derived.Test.YtjlpjbkpmmpojaaGreatDoorKHitsAllx11
import Derived.Test.YtjlpjbkpmmpojaaGreatDoorKHitsAllx1
import Derived.Test.YtjlpjbkpmmpojaaGreatDoorKHitsAllx8
import Derived.Test.YtjlpjbkpmmpojaaGreatDoorKHitsAllx9
import Derived.Test.YtjlpjbkpmmpojaaGreatDoorKHitsAllx20
import Derived.Test.YtjlpjbkpmmpojaaGreatDoorKHitsQh6e319487
import Derived.Test.YtjlpjbkpmmpojaaGreatDoorKHitsQh91f6506e
import Derived.Test.YtjlpjbkpmmpojaaGreatDoorKHitsQhd4f6af10
namespace Go.Proofs.YtjlpjbkpmmpojaaGreatDoor.Pure
open Go.RowKit Go.Proofs.YtjlpjbkpmmpojaaGreatDoor.All Go.Proofs.YtjlpjbkpmmpojaaGreatDoorW.PrintWords Go.Proofs.YtjlpjbkpmmpojaaGreatDoorW.PrintLast
set_option linter.unusedVariables false
set_option linter.unusedSimpArgs false

def reqB (m : Int) (p : ByteArray) (l : List S116) (b : ByteArray) : Bool := decide (1 ≤ m ∧ m ≤ 4) && (pathB p && (decide (b.size ≤ 120) && fieldsB l))
theorem spec_ReqOk_f {k K : Nat} {m : Int} {p : ByteArray} {l : List S116} {b : ByteArray} (hK : K < 4398046511104) (hp : p.size ≤ K) (hl : SmallF K l) (hk : 5 * K + 4 < k) : spec_ReqOk.f k m p l b = some (reqB m p l b) := by
  unfold spec_ReqOk.f reqB
  rw [spec_l1In_f, Option.bind_some]
  by_cases h : 1 ≤ m ∧ m ≤ 4
  · rw [if_pos (decide_eq_true h), decide_eq_true h, spec_l3Path_f (by omega) (by omega), Option.bind_some]
    cases pathB p
    · rfl
    rw [if_pos rfl, spec_FieldsOk_f hK hl hk, Option.bind_some, le120]
    cases fieldsB l <;> simp
  · rw [if_neg (by simpa using h), decide_eq_false h]; rfl
/-! ### MayKeep -/
def keepB (q l : List S116) : Bool := !(ccOfF q).1 && (!(ccOfF l).1 && (!(ccOfF l).2.2.1 && ((ccOfF l).2.2.2.2.1 && namesB (varyF l))))
def mayB (m : Int) (p : ByteArray) (q : List S116) (b : ByteArray) (st : Int) (l : List S116) (rb : ByteArray) : Bool := reqB m p q b && (respB st l rb && (decide (m = 1) && (decide (st = 200) && keepB q l)))
theorem spec_MayKeep_j0 {k K : Nat} (x : Bool) {m : Int} {p : ByteArray} {q : List S116} {b : ByteArray} {st : Int} {l : List S116} {rb : ByteArray} (hK : K ≤ 1048576) (hq : SmallF K q) (hl : SmallF K l) (hk : 9000001 < k) : spec_MayKeep.j0 k x m p q b st l rb = some (!x && keepB q l) := by
  obtain ⟨k, rfl⟩ := succ_of (show 0 < k by omega)
  have hv := varyF_small hl
  simp only [spec_MayKeep.j0]
  rw [spec_CcOf_f hK hq (by omega), spec_CcOf_f hK hl (by omega), spec_VaryOf_f hK hl (by omega)]
  simp only [Option.bind_some]
  rw [spec_l9Names_f (by omega) hv (by omega), Option.bind_some]
  unfold keepB
  cases x
  · cases (ccOfF q).1 <;> cases (ccOfF l).1 <;> cases (ccOfF l).2.2.1 <;> cases (ccOfF l).2.2.2.2.1 <;> simp
  · simp
theorem spec_MayKeep_f {k K : Nat} {m : Int} {p : ByteArray} {q : List S116} {b : ByteArray} {st : Int} {l : List S116} {rb : ByteArray} (hK : K ≤ 1048576) (hp : p.size ≤ K) (hq : SmallF K q) (hl : SmallF K l) (hk : 9000001 < k) : spec_MayKeep.f k m p q b st l rb = some (mayB m p q b st l rb) := by
  unfold spec_MayKeep.f mayB
  rw [spec_ReqOk_f (K := K) (by omega) hp hq (by omega), Option.bind_some, spec_RespOk_f (K := K) (by omega) hl (by omega), Option.bind_some, spec_MayKeep_j0 _ hK hq hl hk, spec_MayKeep_j0 _ hK hq hl hk]
  cases reqB m p q b
  · simp
  · cases respB st l rb
    · simp
    · by_cases h1 : m = 1
      · by_cases h2 : st = 200
        · simp [h1, h2]
        · simp [h1, h2]
      · simp [h1]
end Go.Proofs.YtjlpjbkpmmpojaaGreatDoor.Pure
