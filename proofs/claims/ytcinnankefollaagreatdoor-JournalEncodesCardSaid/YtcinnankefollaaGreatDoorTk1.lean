/- The tie: the words, the kinds, the function's number. -/
import Derived.Test.YtcinnankefollaaGreatDoorTk0
namespace Go.Proofs.YtcinnankefollaaGreatDoor
open Go
theorem tk1 : Tryz.prog.worded (varsWordLater true) = true := by kernel_rfl
theorem tk2 : Tryz.prog.worded (varsWordLater !true) = false := by kernel_rfl
theorem tk3 : Tryz.prog.worded rootWordLater = true := by kernel_rfl
theorem tk4 : tieLaid.map (fun x => Tryz.prog.kindOfLater x.1) = tieKinds.map some := by kernel_rfl
theorem tk5 : (Tryz.prog.funcNamed "gosem.cut.vars").isSome = true := by kernel_rfl
end Go.Proofs.YtcinnankefollaaGreatDoor
