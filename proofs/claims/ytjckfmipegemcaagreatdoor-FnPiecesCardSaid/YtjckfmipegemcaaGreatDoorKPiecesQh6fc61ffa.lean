/- What the printed functions answer, in plain words: lemmas of this session. No condition of a statement lies here. -/
import Derived.Test.YtjckfmipegemcaaGreatDoorKPiecesAllx0
import Derived.Test.YtjckfmipegemcaaGreatDoorKPiecesQh9403bd91
namespace Go.Proofs.YtjckfmipegemcaaGreatDoor.Pure
open Go.RowKit Go.Proofs.YtjckfmipegemcaaGreatDoor.All Go.Proofs.YtjckfmipegemcaaGreatDoorW.PrintWords Go.Proofs.YtjckfmipegemcaaGreatDoorW.PrintLast
set_option linter.unusedVariables false
set_option linter.unusedSimpArgs false

/-! ### rows of requests: compared, marked, held -/
theorem rd_Q (l : List S40) (j : Nat) (h : j < l.length) : rd_T40 l (j : Int) = l[j] := by simp [rd_T40, List.getD, h]
end Go.Proofs.YtjckfmipegemcaaGreatDoor.Pure
