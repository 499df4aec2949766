/- The start of the row's witness: what the variables' function leaves. -/
import Derived.Test.YtcinnankefollaaGreatDoorTk0
import Derived.LaidMore
import Derived.LaidHandle
import Derived.LaidLaws
namespace Go.Proofs.YtcinnankefollaaGreatDoor
open Go
noncomputable def wit (os : Os) : World := { World.holding Tryz.prog os ⟨#[], #[], []⟩ with heap := (varsWorld Tryz.prog 400 810 os (fun _ _ => 0)).heap }
noncomputable def witAt (os : Os) : World := (wit os).forCall (fun _ _ => 0) ⟨#[], #[.string ByteArray.empty], []⟩
theorem wit_var (os : Os) : (witAt os).variablesRefB Tryz.prog = true := by kernel_rfl
theorem wit_rest (os : Os) : ((witAt os).heap.toList.drop Tryz.prog.globals.size).take ((begin Tryz.prog (fun _ _ => 0) default).world.heap.size - Tryz.prog.globals.size) = (begin Tryz.prog (fun _ _ => 0) default).world.heap.toList.drop Tryz.prog.globals.size := by kernel_rfl
end Go.Proofs.YtcinnankefollaaGreatDoor
