/- What the printed functions answer, in plain words: lemmas of this session. No condition of a statement lies here. -/
import Derived.Test.YtdbgkookjpgnnaaGreatDoorAllx0
import Derived.Test.YtdbgkookjpgnnaaGreatDoorAllx11
import Derived.Test.YtdbgkookjpgnnaaGreatDoorAllx12
import Derived.Test.YtdbgkookjpgnnaaGreatDoorAllx31
import Derived.Test.YtdbgkookjpgnnaaGreatDoorAllx33
import Derived.Test.YtdbgkookjpgnnaaGreatDoorQh4b6505aa
import Derived.Test.YtdbgkookjpgnnaaGreatDoorQh6ed553bc
import Derived.Test.YtdbgkookjpgnnaaGreatDoorQha0f59082
import Derived.Test.YtdbgkookjpgnnaaGreatDoorQhc08794a4
namespace Go.Proofs.YtdbgkookjpgnnaaGreatDoor.Pure
open Go.RowKit Go.Proofs.YtdbgkookjpgnnaaGreatDoor.All Go.Proofs.YtdbgkookjpgnnaaGreatDoorW.PrintWords Go.Proofs.YtdbgkookjpgnnaaGreatDoorW.PrintLast
set_option linter.unusedVariables false
set_option linter.unusedSimpArgs false

theorem laws_szReq_f {k : Nat} {m : Int} {p b : ByteArray} {l : List S115} {n : Int} (hp : p.size ≤ maxLen) (hl : l.length ≤ maxLen ∧ ∀ x ∈ l, x.f0.size ≤ maxLen ∧ x.f1.size ≤ maxLen) (hb : b.size ≤ maxLen) (h0 : 0 ≤ n) (h1 : n ≤ 1048576) (hk : 1048577 < k) :
    ∃ r, laws_szReq.f k m p l b n = some r ∧ (r < 0 ∨ r ≤ n ∧ r ≤ 1048576 ∧ p.size ≤ 1048576 ∧ b.size ≤ 1048576 ∧ l.length ≤ 1048576 ∧ (∀ x ∈ l, x.f0.size ≤ 1048576 ∧ x.f1.size ≤ 1048576) ∧ r + p.size + b.size + l.length + szFS l = n) := by
  unfold maxLen at hp hb
  unfold laws_szReq.f
  rw [w64 (n := n - p.size) (by omega)]
  split
  · exact ⟨_, rfl, .inl (by omega)⟩
  · rename_i h
    rw [laws_szFieldS_f hl (by omega) (by omega) hk, Option.bind_some]
    split
    · exact ⟨_, rfl, .inl (by omega)⟩
    · rename_i h2
      obtain ⟨g1, g2, g3, g4⟩ := leftFS_nonneg h2 (by omega)
      have hr := szFS_nonneg l
      have g5 : leftFS (n - p.size) l ≤ n - p.size ∧ leftFS (n - p.size) l + l.length + szFS l = n - p.size := by
        unfold leftFS at h2 g1 ⊢; split
        · rename_i c; rw [if_pos c] at h2; omega
        · omega
      rw [w64 (by omega)]
      split
      · exact ⟨_, rfl, .inl (by omega)⟩
      · exact ⟨_, rfl, .inr ⟨by omega, by omega, by omega, by omega, g3, g4, by omega⟩⟩
theorem laws_toReq_f {k : Nat} {m : Int} {p b : ByteArray} {l : List S115} (hl : l.length ≤ 1048576) (hk : l.length < k) : laws_toReq.f k m p l b = some (m, p, l.map toF, b) := by
  unfold laws_toReq.f
  rw [laws_toFieldS_f hl hk, Option.bind_some]
theorem laws_eqReq_f {k : Nat} {m : Int} {p b : ByteArray} {l : List S116} (hl : l.length ≤ 4398046511104) (hk : l.length < k) : laws_eqReq.f k m p l b m p l b = some true := by
  unfold laws_eqReq.f
  rw [if_pos rfl, if_pos rfl, laws_eqFieldS_f hl hk, Option.bind_some, if_pos rfl, if_pos rfl]
def reqB (m : Int) (p : ByteArray) (l : List S116) (b : ByteArray) : Bool := decide (1 ≤ m ∧ m ≤ 4) && (pathB p && (decide (b.size ≤ 120) && fieldsB l))
theorem spec_ReqOk_f {k K : Nat} {m : Int} {p : ByteArray} {l : List S116} {b : ByteArray} (hK : K < 4398046511104) (hp : p.size ≤ K) (hl : SmallF K l) (hk : 5 * K + 4 < k) : spec_ReqOk.f k m p l b = some (reqB m p l b) := by
  unfold spec_ReqOk.f reqB
  rw [spec_l1In_f, Option.bind_some]
  by_cases h : 1 ≤ m ∧ m ≤ 4
  · rw [if_pos (decide_eq_true h), decide_eq_true h, spec_l3Path_f (by omega) (by omega), Option.bind_some]
    cases pathB p
    · rfl
    rw [if_pos rfl, spec_FieldsOk_f hK hl hk, Option.bind_some, le120]
    cases fieldsB l <;> simp
  · rw [if_neg (by simpa using h), decide_eq_false h]; rfl
theorem impl_ReqOk_f {k K : Nat} {m : Int} {p : ByteArray} {l : List S116} {b : ByteArray} (hK : K < 4398046511104) (hp : p.size ≤ K) (hl : SmallF K l) (hk : 5 * K + 4 < k) : impl_ReqOk.f k m p l b = some (reqB m p l b) := by
  unfold impl_ReqOk.f reqB
  rw [impl_inRange_f, Option.bind_some]
  by_cases h : 1 ≤ m ∧ m ≤ 4
  · rw [if_pos (decide_eq_true h), decide_eq_true h, impl_pathOk_f (by omega) (by omega), Option.bind_some]
    cases pathB p
    · rfl
    rw [if_pos rfl]
    by_cases h2 : b.size ≤ 120
    · rw [if_pos (by omega), impl_FieldsOk_f hK hl hk, Option.bind_some, decide_eq_true h2]; rfl
    · rw [if_neg (by omega), decide_eq_false h2]; rfl
  · rw [if_neg (by simpa using h), decide_eq_false h]; rfl
theorem low1_low (c : UInt8) : low1 (low1 c) = low1 c := by
  unfold low1
  by_cases h : 65 ≤ c.toNat ∧ c.toNat ≤ 90
  · rw [if_pos h, if_neg]
    rw [UInt8.toNat_ofNat_of_lt' (show c.toNat + 32 < 256 by omega)]; omega
  · rw [if_neg h, if_neg h]
theorem lowB_low (s : ByteArray) : lowB (lowB s) = lowB s := by
  apply B_ext
  rw [B_lowB, B_lowB, List.map_map]
  exact List.map_congr_left (fun c _ => low1_low c)
theorem lowB_size (s : ByteArray) : (lowB s).size = s.size := by rw [← B_len, B_lowB, List.length_map, B_len]
/-! ### MayKeep -/
def keepB (q l : List S116) : Bool := !(ccOfF q).1 && (!(ccOfF l).1 && (!(ccOfF l).2.2.1 && ((ccOfF l).2.2.2.2.1 && namesB (varyF l))))
def mayB (m : Int) (p : ByteArray) (q : List S116) (b : ByteArray) (st : Int) (l : List S116) (rb : ByteArray) : Bool := reqB m p q b && (respB st l rb && (decide (m = 1) && (decide (st = 200) && keepB q l)))
theorem varyF_small {K : Nat} {l : List S116} (hl : SmallF K l) : SmallB (K + 1) (varyF l) := by
  refine ⟨varyF_len hl.2, fun x hx => ?_⟩
  unfold varyF at hx
  obtain ⟨y, hy, rfl⟩ := List.mem_map.1 hx
  have h1 := splitT_small _ y hy
  have h2 : ((getF ⟨#[118, 97, 114, 121]⟩ l).getD ⟨#[]⟩).size ≤ K := getF_small hl.2
  rw [lowB_size]; omega
theorem spec_MayKeep_j0 {k K : Nat} (x : Bool) {m : Int} {p : ByteArray} {q : List S116} {b : ByteArray} {st : Int} {l : List S116} {rb : ByteArray} (hK : K ≤ 1048576) (hq : SmallF K q) (hl : SmallF K l) (hk : 9000001 < k) : spec_MayKeep.j0 k x m p q b st l rb = some (!x && keepB q l) := by
  obtain ⟨k, rfl⟩ := succ_of (show 0 < k by omega)
  have hv := varyF_small hl
  simp only [spec_MayKeep.j0]
  rw [spec_CcOf_f hK hq (by omega), spec_CcOf_f hK hl (by omega), spec_VaryOf_f hK hl (by omega)]
  simp only [Option.bind_some]
  rw [spec_l9Names_f (by omega) hv (by omega), Option.bind_some]
  unfold keepB
  cases x
  · cases (ccOfF q).1 <;> cases (ccOfF l).1 <;> cases (ccOfF l).2.2.1 <;> cases (ccOfF l).2.2.2.2.1 <;> simp
  · simp
theorem impl_MayKeep_j0 {k K : Nat} (x : Bool) {m : Int} {p : ByteArray} {q : List S116} {b : ByteArray} {st : Int} {l : List S116} {rb : ByteArray} (hK : K ≤ 1048576) (hq : SmallF K q) (hl : SmallF K l) (hk : 9000001 < k) : impl_MayKeep.j0 k x m p q b st l rb = some (!x && keepB q l) := by
  obtain ⟨k, rfl⟩ := succ_of (show 0 < k by omega)
  have hv := varyF_small hl
  simp only [impl_MayKeep.j0]
  rw [impl_CcOf_f hK hq (by omega), impl_CcOf_f hK hl (by omega), impl_VaryOf_f hK hl (by omega)]
  simp only [Option.bind_some]
  rw [impl_namesOk_f (by omega) hv (by omega), Option.bind_some]
  unfold keepB
  cases x
  · cases (ccOfF q).1 <;> cases (ccOfF l).1 <;> cases (ccOfF l).2.2.1 <;> cases (ccOfF l).2.2.2.2.1 <;> simp
  · simp
theorem spec_MayKeep_f {k K : Nat} {m : Int} {p : ByteArray} {q : List S116} {b : ByteArray} {st : Int} {l : List S116} {rb : ByteArray} (hK : K ≤ 1048576) (hp : p.size ≤ K) (hq : SmallF K q) (hl : SmallF K l) (hk : 9000001 < k) : spec_MayKeep.f k m p q b st l rb = some (mayB m p q b st l rb) := by
  unfold spec_MayKeep.f mayB
  rw [spec_ReqOk_f (K := K) (by omega) hp hq (by omega), Option.bind_some, spec_RespOk_f (K := K) (by omega) hl (by omega), Option.bind_some, spec_MayKeep_j0 _ hK hq hl hk, spec_MayKeep_j0 _ hK hq hl hk]
  cases reqB m p q b
  · simp
  · cases respB st l rb
    · simp
    · by_cases h1 : m = 1
      · by_cases h2 : st = 200
        · simp [h1, h2]
        · simp [h1, h2]
      · simp [h1]
theorem impl_MayKeep_f {k K : Nat} {m : Int} {p : ByteArray} {q : List S116} {b : ByteArray} {st : Int} {l : List S116} {rb : ByteArray} (hK : K ≤ 1048576) (hp : p.size ≤ K) (hq : SmallF K q) (hl : SmallF K l) (hk : 9000001 < k) : impl_MayKeep.f k m p q b st l rb = some (mayB m p q b st l rb) := by
  unfold impl_MayKeep.f mayB
  rw [impl_ReqOk_f (K := K) (by omega) hp hq (by omega), Option.bind_some, impl_RespOk_f (K := K) (by omega) hl (by omega), Option.bind_some, impl_MayKeep_j0 _ hK hq hl hk, impl_MayKeep_j0 _ hK hq hl hk]
  cases reqB m p q b
  · simp
  · cases respB st l rb
    · simp
    · by_cases h1 : m = 1
      · by_cases h2 : st = 200
        · simp [h1, h2]
        · simp [h1, h2]
      · simp [h1]

end Go.Proofs.YtdbgkookjpgnnaaGreatDoor.Pure
