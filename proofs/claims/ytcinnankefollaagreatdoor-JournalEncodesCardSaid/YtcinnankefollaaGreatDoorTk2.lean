/- The tie: the function's number. -/
import Derived.Test.YtcinnankefollaaGreatDoorTk0
namespace Go.Proofs.YtcinnankefollaaGreatDoor
open Go
theorem tkV : varsId Tryz.prog = 810 := by kernel_rfl
theorem tkU : Tryz.pinned.checked.prog.headLifts.contains "ownunsafe" = false := by kernel_rfl
end Go.Proofs.YtcinnankefollaaGreatDoor
