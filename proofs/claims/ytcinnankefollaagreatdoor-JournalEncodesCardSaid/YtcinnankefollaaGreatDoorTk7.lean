/- The start of the row's witness: what the variables' function leaves. -/
import Derived.Test.YtcinnankefollaaGreatDoorTk0
import Derived.LaidMore
import Derived.LaidHandle
import Derived.LaidLaws
namespace Go.Proofs.YtcinnankefollaaGreatDoor
open Go
noncomputable def wit (os : Os) : World := { World.holding Tryz.prog os ⟨#[], #[], []⟩ with heap := (varsWorld Tryz.prog 400 810 os (fun _ _ => 0)).heap }
end Go.Proofs.YtcinnankefollaaGreatDoor
