/- What the printed functions answer, in plain words: part g_same of this session's lemmas. No condition of a statement lies here. -/
import Derived.Test.YtdlgjhckmkmjhaaAllx0
import Derived.Test.YtdlgjhckmkmjhaaAllx8
import Derived.Test.YtdlgjhckmkmjhaaQdfieldfn
namespace Go.Proofs.Ytdlgjhckmkmjhaa.Pure
open Go.RowKit Go.Proofs.Ytdlgjhckmkmjhaa.All Go.Proofs.YtdlgjhckmkmjhaaW.PrintWords Go.Proofs.YtdlgjhckmkmjhaaW.PrintLast
set_option linter.unusedVariables false
set_option linter.unusedSimpArgs false

def sameF (q r : List S81) : Bool :=
  match getF ⟨#[105, 102, 45, 110, 111, 110, 101, 45, 109, 97, 116, 99, 104]⟩ q, getF ⟨#[101, 116, 97, 103]⟩ r with
  | some a, some b => a.toList == b.toList
  | _, _ => false
theorem beq_comm' (a b : List UInt8) : (a == b) = (b == a) := by rw [Bool.eq_iff_iff, beq_iff_eq, beq_iff_eq]; exact eq_comm
theorem impl_Same_f {m : Int} {p b : ByteArray} {q r : List S81} (hq : q.length < 4398046511104) (hr : r.length < 4398046511104) : impl_Same.f m p q b r = some (sameF q r) := by
  unfold impl_Same.f sameF
  rw [impl_Get_f hr, Option.bind_some, impl_Get_f hq, Option.bind_some]
  cases getF ⟨#[105, 102, 45, 110, 111, 110, 101, 45, 109, 97, 116, 99, 104]⟩ q <;> cases getF ⟨#[101, 116, 97, 103]⟩ r <;> simp [beq_comm']
theorem spec_Same_f {k : Nat} {m : Int} {p b : ByteArray} {q r : List S81} (hq : q.length < 4398046511104) (hr : r.length < 4398046511104) (hk : q.length + r.length < k) : spec_Same.f k m p q b r = some (sameF q r) := by
  unfold spec_Same.f sameF
  rw [spec_Get_f (by omega) (by omega), Option.bind_some, spec_Get_f (by omega) (by omega), Option.bind_some]
  cases getF ⟨#[105, 102, 45, 110, 111, 110, 101, 45, 109, 97, 116, 99, 104]⟩ q <;> cases getF ⟨#[101, 116, 97, 103]⟩ r <;> simp

end Go.Proofs.Ytdlgjhckmkmjhaa.Pure
