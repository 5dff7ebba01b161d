-- Written by a program of this session (wip/tools/hprint.py) out of the translation. Lean checks it.
import Derived.Test.YtjlpjbkpmmpojaaGreatDoorKHitsAllx0
import Derived.Test.YtjlpjbkpmmpojaaGreatDoorKHitsAllx1
namespace Go.Proofs.YtjlpjbkpmmpojaaGreatDoor.All
open Go.RowKit Go.Proofs.YtjlpjbkpmmpojaaGreatDoorW.PrintWords Go.Proofs.YtjlpjbkpmmpojaaGreatDoorW.PrintLast Go.Proofs.YtjlpjbkpmmpojaaGreatDoorW.PrintMore
attribute [local go_sem] max2_int min2_int max_two min_two max_three min_three max_four min_four  -- for this text's walks alone
set_option linter.unusedVariables false
set_option linter.unusedSimpArgs false

/-! ### strconv.Itoa -/
/-! ### impl_NumText: function 77 -/
/-! ### NumRead: strconv.Atoi there, strconv.Itoa back -/
def numRead (s : ByteArray) : Int × Bool :=
 if 7 < s.size then (0, false)
 else match Lib.atoiAll s.data.toList with
  | .ok n => if 0 ≤ n ∧ n ≤ 1000000 ∧ Lib.itoa n = s.data.toList then (n, true) else (0, false)
  | _ => (0, false)
end Go.Proofs.YtjlpjbkpmmpojaaGreatDoor.All
