/- Facts of the program alone that each tied row asks: checked once. No condition. -/
import Derived.Test.YtjlpjbkpmmpojaaDoorCards
import Derived.Test.YtjlpjbkpmmpojaaDoorTie
import Derived.JoinedOf
import Derived.KernelRfl
namespace Go.Proofs.YtjlpjbkpmmpojaaDoor.XF
open Go
set_option maxHeartbeats 80000000 in
theorem stopsHeard_ : Tryd.pinned.checked.prog.stopsHeard = true := by kernel_rfl
set_option maxHeartbeats 80000000 in
theorem mayEnter_ : Tryd.pinned.checked.prog.mayEnter = true := by kernel_rfl
set_option maxHeartbeats 80000000 in
theorem lifts_ : Tryd.pinned.checked.prog.liftsFinal = false := by kernel_rfl
end Go.Proofs.YtjlpjbkpmmpojaaDoor.XF
