/- The start of the witness of JournalEncodes. -/
import Derived.Test.YtcinnankefollaaGreatDoorTk7
namespace Go.Proofs.YtcinnankefollaaGreatDoor
open Go
noncomputable def witAt3 (os : Os) : World := (wit os).forCall (fun _ _ => 0) ⟨#[], #[.agg #[.int .i64 0, .slice none 0 0, .slice none 0 0]], []⟩
theorem wit_var3 (os : Os) : (witAt3 os).variablesRefB Tryz.prog = true := by kernel_rfl
theorem wit_rest3 (os : Os) : ((witAt3 os).heap.toList.drop Tryz.prog.globals.size).take ((begin Tryz.prog (fun _ _ => 0) default).world.heap.size - Tryz.prog.globals.size) = (begin Tryz.prog (fun _ _ => 0) default).world.heap.toList.drop Tryz.prog.globals.size := by kernel_rfl
end Go.Proofs.YtcinnankefollaaGreatDoor
