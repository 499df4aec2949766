/- The tie: what the run lays. -/
import Derived.Test.YtcinnankefollaaGreatDoorTk0
namespace Go.Proofs.YtcinnankefollaaGreatDoor
open Go
theorem tk9 : ∀ os tape, (DataW.laidRun Tryz.prog (varsWorld Tryz.prog 400 810 os tape).memory 8 ((tieLaid.filter fun x => x.2.handleName?.isNone).map (·.1))).map (fun x => decide x.2.Nodup && laidRowsB Tryz.prog (varsWorld Tryz.prog 400 810 os tape).memory x.2) = some true := fun _ _ => by kernel_rfl
theorem tk10 : ∀ os tape, (tieLaid.filter fun x => x.2.handleName?.isSome).all (handleAtB Tryz.prog (varsWorld Tryz.prog 400 810 os tape).memory) = true := fun _ _ => by kernel_rfl
end Go.Proofs.YtcinnankefollaaGreatDoor
