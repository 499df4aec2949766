/- The start of the row's witness: the list's condition. -/
import Derived.Test.YtcinnankefollaaGreatDoorTk3
import Derived.Test.YtcinnankefollaaGreatDoorTk4
import Derived.Test.YtcinnankefollaaGreatDoorTk7
import Derived.Stop.Joined
import Derived.Eval
namespace Go.Proofs.YtcinnankefollaaGreatDoor
open Go
theorem forCall_heap (w : World) (t : Tape) (a : Array Value) : (w.forCall t ⟨#[], a, []⟩).memory.heap = w.heap := by
  show Input.heap _ w.heap = _
  rw [Input.heap_fresh rfl]
  simp
theorem with_heap (w : World) (h : Array Obj) : ({ w with heap := h } : World).heap = h := rfl
theorem wit_heap (os : Os) : (varsWorld Tryz.prog 400 810 os (fun _ _ => 0)).memory.heap = (witAt os).memory.heap := by
  unfold witAt wit
  rw [forCall_heap, with_heap]
  generalize varsWorld Tryz.prog 400 810 os (fun _ _ => 0) = v
  rfl
theorem wit_met (os : Os) : laidMetH Tryz.prog tieLaid (witAt os).memory :=
  (laidMetH_of_parts (laidMet_of_run' 8 (tk8 os (fun _ _ => 0)) (tk9 os (fun _ _ => 0))) (tk10 os (fun _ _ => 0))).of_heap (wit_heap os)
end Go.Proofs.YtcinnankefollaaGreatDoor
