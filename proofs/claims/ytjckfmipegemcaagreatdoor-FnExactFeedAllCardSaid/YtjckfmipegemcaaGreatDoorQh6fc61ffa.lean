/- What the printed functions answer, in plain words: lemmas of this session. No condition of a statement lies here. -/
import Derived.Test.YtjckfmipegemcaaGreatDoorAllx0
import Derived.Test.YtjckfmipegemcaaGreatDoorAllx12
import Derived.Test.YtjckfmipegemcaaGreatDoorQh9403bd91
namespace Go.Proofs.YtjckfmipegemcaaGreatDoor.Pure
open Go.RowKit Go.Proofs.YtjckfmipegemcaaGreatDoor.All Go.Proofs.YtjckfmipegemcaaGreatDoorW.PrintWords Go.Proofs.YtjckfmipegemcaaGreatDoorW.PrintLast
set_option linter.unusedVariables false
set_option linter.unusedSimpArgs false

theorem laws_eqFieldS_l0 (l : List S81) (hl : l.length ≤ 4398046511104) : ∀ (d k i : Nat), l.length - i = d → i ≤ l.length → d < k → laws_eqFieldS.l0 k l l i = some true := by
  intro d
  induction d with
  | zero =>
    intro k i hd hi hk
    obtain ⟨k, rfl⟩ := succ_of hk
    simp only [laws_eqFieldS.l0]
    rw [if_neg (by omega)]
  | succ d ih =>
    intro k i hd hi hk
    obtain ⟨k, rfl⟩ := succ_of hk
    simp only [laws_eqFieldS.l0]
    rw [if_pos (by omega), if_pos (by omega)]
    simp only [laws_eqField.f, if_true, Option.bind_some]
    try rw [if_pos (by omega)]
    rw [nat_round (n := l.length) (by omega) (by omega)]
    exact ih k (i + 1) (by omega) (by omega) (by omega)
theorem laws_eqFieldS_f {k : Nat} {l : List S81} (hl : l.length ≤ 4398046511104) (hk : l.length < k) : laws_eqFieldS.f k l l = some true := by
  unfold laws_eqFieldS.f
  rw [if_pos rfl]
  exact laws_eqFieldS_l0 l hl l.length k 0 (by omega) (by omega) hk
theorem laws_eqReq_f {k : Nat} {m : Int} {p b : ByteArray} {l : List S81} (hl : l.length ≤ 4398046511104) (hk : l.length < k) : laws_eqReq.f k m p l b m p l b = some true := by
  unfold laws_eqReq.f
  rw [if_pos rfl, if_pos rfl, laws_eqFieldS_f hl hk, Option.bind_some, if_pos rfl, if_pos rfl]
/-! ### rows of requests: compared, marked, held -/
theorem rd_Q (l : List S40) (j : Nat) (h : j < l.length) : rd_T40 l (j : Int) = l[j] := by simp [rd_T40, List.getD, h]
theorem laws_eqReqS_l0 (l : List S40) (hl : l.length ≤ 2199023255552) (hs : ∀ x ∈ l, x.f2.length ≤ 1000) : ∀ (d k i : Nat), l.length - i = d → i ≤ l.length → d + 1100 < k → laws_eqReqS.l0 k l l i = some true := by
  intro d
  induction d with
  | zero =>
    intro k i hd hi hk
    obtain ⟨k, rfl⟩ := succ_of (show 1099 < k by omega)
    simp only [laws_eqReqS.l0]
    rw [if_neg (by omega)]
  | succ d ih =>
    intro k i hd hi hk
    obtain ⟨k, rfl⟩ := succ_of (show 1099 < k by omega)
    have hlt : i < l.length := by omega
    have hx := hs _ (List.getElem_mem hlt)
    simp only [laws_eqReqS.l0]
    rw [if_pos (by omega), if_pos (by omega), if_pos (by omega), rd_Q l i hlt, laws_eqReq_f (by omega) (by omega), Option.bind_some, if_pos rfl, nat_round (n := l.length) hlt (by omega), ih k (i + 1) (by omega) (by omega) (by omega)]
theorem laws_eqReqS_f {k : Nat} {l : List S40} (hl : l.length ≤ 2199023255552) (hs : ∀ x ∈ l, x.f2.length ≤ 1000) (hk : l.length + 1100 < k) : laws_eqReqS.f k l l = some true := by
  unfold laws_eqReqS.f
  rw [if_pos rfl]
  exact laws_eqReqS_l0 l hl hs l.length k 0 (by omega) (by omega) hk
theorem small_len {l : List S40} (h : SmallQ l) : ∀ x ∈ l, x.f2.length ≤ 1000 := fun x hx => by have := (h x hx).2.1; omega

end Go.Proofs.YtjckfmipegemcaaGreatDoor.Pure
