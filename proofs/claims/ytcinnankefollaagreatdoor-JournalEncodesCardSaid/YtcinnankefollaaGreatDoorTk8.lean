/- The start of the row's witness: the list's condition. -/
import Derived.Test.YtcinnankefollaaGreatDoorTk3
import Derived.Test.YtcinnankefollaaGreatDoorTk4
import Derived.Test.YtcinnankefollaaGreatDoorTk7
import Derived.Stop.Joined
import Derived.Eval
namespace Go.Proofs.YtcinnankefollaaGreatDoor
open Go
theorem forCall_heap (w : World) (t : Tape) (a : Array Value) : (w.forCall t ⟨#[], a, []⟩).memory.heap = w.heap := by
  show Input.heap _ w.heap = _
  rw [Input.heap_fresh rfl]
  simp
theorem with_heap (w : World) (h : Array Obj) : ({ w with heap := h } : World).heap = h := rfl
end Go.Proofs.YtcinnankefollaaGreatDoor
