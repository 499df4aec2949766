/- What the functions of JournalEncodes name, and which are answered in place. -/
import Derived.Test.YtcinnankefollaaGreatDoorTe9
import Derived.Test.YtcinnankefollaaGreatDoorTka
namespace Go.Proofs.YtcinnankefollaaGreatDoor
open Go
theorem in_place3 : (Rows.journalEncodesRow.inPlace == Tryz.prog.inPlace 3) = true := by
  unfold Program.inPlace
  rw [clo3]
  kernel_rfl
set_option maxRecDepth 1000000 in
theorem not_read3 : (cloR3.filterMap fun g => (Tryz.prog.funcs[g]?).bind fun fn => if fn.body.isNone then entryReads.lookup fn.name else none) = [] := by kernel_rfl
set_option maxRecDepth 1000000 in
theorem glob_all3 : (cloR3.flatMap fun g => (glT[g]?).getD []).eraseDups.filterMap (fun g => (Tryz.prog.globals[g]?).map (·.name)) = Rows.journalEncodesRow.named := by kernel_rfl
theorem glob_flat3 : (cloR3.flatMap fun g => ((Tryz.prog.funcs[g]?).bind fun x : Func => x.body).elim [] Code.globalsNamed) = cloR3.flatMap fun g => (glT[g]?).getD [] := by
  exact congrArg (fun F => cloR3.flatMap F) (funext glob_at)
set_option maxRecDepth 1000000 in
theorem vars_named3 : (Rows.journalEncodesRow.named == Tryz.prog.varsNamed 3) = true := by
  unfold Program.varsNamed
  rw [clo3, not_read3, glob_flat3, glob_all3]
  kernel_rfl
theorem not_followed3 : (Rows.journalEncodesRow.unfollowed == Tryz.prog.unfollowed 3) = true := by
  have h : Tryz.prog.unfollowed 3 = true := by
    unfold Program.unfollowed
    rw [clo3, List.any_eq_true]
    exact ⟨13, by decide, by kernel_rfl⟩
  rw [h]
  rfl
theorem recursing3 : (Rows.journalEncodesRow.recurses == Tryz.prog.recurses 3) = true := by
  have h : Tryz.prog.unfollowed 3 = true := by
    unfold Program.unfollowed
    rw [clo3, List.any_eq_true]
    exact ⟨13, by decide, by kernel_rfl⟩
  unfold Program.recurses
  rw [h]
  rfl
end Go.Proofs.YtcinnankefollaaGreatDoor
