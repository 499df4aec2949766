/- The start of the witness of JournalEncodes: the list's condition. -/
import Derived.Test.YtcinnankefollaaGreatDoorTk8
import Derived.Test.YtcinnankefollaaGreatDoorTe7
namespace Go.Proofs.YtcinnankefollaaGreatDoor
open Go
theorem wit_heap3 (os : Os) : (varsWorld Tryz.prog 400 810 os (fun _ _ => 0)).memory.heap = (witAt3 os).memory.heap := by
  unfold witAt3 wit
  rw [forCall_heap, with_heap]
  generalize varsWorld Tryz.prog 400 810 os (fun _ _ => 0) = v
  rfl
theorem wit_met3 (os : Os) : laidMetH Tryz.prog tieLaid (witAt3 os).memory :=
  (laidMetH_of_parts (laidMet_of_run' 8 (tk8 os (fun _ _ => 0)) (tk9 os (fun _ _ => 0))) (tk10 os (fun _ _ => 0))).of_heap (wit_heap3 os)
end Go.Proofs.YtcinnankefollaaGreatDoor
