/- Facts of the program alone that each tied row asks: checked once. No condition. -/
import Derived.Test.YtjckfmipegemcaaGreatDoorCards
import Derived.Test.YtjckfmipegemcaaGreatDoorTie
import Derived.JoinedOf
import Derived.KernelRfl
namespace Go.Proofs.YtjckfmipegemcaaGreatDoor.XF
open Go
set_option maxHeartbeats 80000000 in
theorem stopsHeard_ : Tryz.pinned.checked.prog.stopsHeard = true := by kernel_rfl
set_option maxHeartbeats 80000000 in
theorem mayEnter_ : Tryz.pinned.checked.prog.mayEnter = true := by kernel_rfl
set_option maxHeartbeats 80000000 in
theorem lifts_ : Tryz.pinned.checked.prog.liftsFinal = false := by kernel_rfl
end Go.Proofs.YtjckfmipegemcaaGreatDoor.XF
