import Derived.Test.YtjlpjbkpmmpojaaGreatDoorCards
import Derived.Test.YtjlpjbkpmmpojaaGreatDoorTie
import Derived.JoinedOf
import Derived.KernelRfl
namespace Go.Proofs.YtjlpjbkpmmpojaaGreatDoor.XF
open Go
set_option maxHeartbeats 80000000 in
theorem stopsHeard_ : Tryz.pinned.checked.prog.stopsHeard = true := by kernel_rfl
set_option maxHeartbeats 80000000 in
theorem mayEnter_ : Tryz.pinned.checked.prog.mayEnter = true := by kernel_rfl
set_option maxHeartbeats 80000000 in
theorem lifts_ : Tryz.pinned.checked.prog.liftsFinal = false := by kernel_rfl
end Go.Proofs.YtjlpjbkpmmpojaaGreatDoor.XF
