/- The tie: the calls are laid alone. -/
import Derived.Test.YtcinnankefollaaGreatDoorTk0
namespace Go.Proofs.YtcinnankefollaaGreatDoor
open Go
theorem tk6B1 : (match (Tryz.prog.funcs[810]?).bind (·.body) with | some code => (!code.unfollowedBeside Tryz.prog) | none => false) = true := by kernel_rfl
theorem tk6B2 : (match (Tryz.prog.funcs[810]?).bind (·.body) with | some code => ((code.tempsApart 0).isSome) | none => false) = true := by kernel_rfl
theorem tk6B3 : (match (Tryz.prog.funcs[810]?).bind (·.body) with | some code => (code.regionsFit Tryz.prog []) | none => false) = true := by kernel_rfl
theorem tk6B4 : (match (Tryz.prog.funcs[810]?).bind (·.body) with | some code => ((code.storedByHandle Tryz.prog).isEmpty || ((Tryz.prog.funcNamed "(internal/reflectlite.rtype).Elem").any fun h => (Tryz.prog.funcs[h]?).any fun fn => fn.body.isNone && !entryCalls fn)) | none => false) = true := by kernel_rfl
theorem tk6B5 : (match (Tryz.prog.funcs[810]?).bind (·.body) with | some code => ((code.storedByHandle Tryz.prog).all fun v => Tryz.prog.globalNamed "errors.errorType" == some v) | none => false) = true := by kernel_rfl
end Go.Proofs.YtcinnankefollaaGreatDoor
