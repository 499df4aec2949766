/- The tie: the run ends. -/
import Derived.Test.YtcinnankefollaaGreatDoorTk0
namespace Go.Proofs.YtcinnankefollaaGreatDoor
open Go
theorem tk7 : ∀ os tape, varsDone Tryz.prog 400 810 os tape = true := fun _ _ => by kernel_rfl
theorem tk8 : ∀ os tape, (DataW.laidRun Tryz.prog (varsWorld Tryz.prog 400 810 os tape).memory 8 ((tieLaid.filter fun x => x.2.handleName?.isNone).map (·.1))).map (·.1) = some (tieLaid.filter fun x => x.2.handleName?.isNone) := fun _ _ => by kernel_rfl
end Go.Proofs.YtcinnankefollaaGreatDoor
