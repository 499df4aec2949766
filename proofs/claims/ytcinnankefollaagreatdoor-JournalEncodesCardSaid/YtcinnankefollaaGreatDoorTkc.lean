/- The row's closed facts, joined. -/
import Derived.Test.YtcinnankefollaaGreatDoorTkb
namespace Go.Proofs.YtcinnankefollaaGreatDoor
open Go
theorem laid_out : laidOutB Tryz.prog = true := by
  unfold laidOutB
  rw [types_n, row_fine, glob_fine, Bool.true_and, Bool.true_and, ← Array.all_toList]
  exact par_fine
set_option maxRecDepth 1000000 in
theorem map_rowed : mapsRowed Tryz.prog = true := by
  unfold mapsRowed
  rw [types_n]
  exact map_fine
theorem both {a b : Bool} (h : a = true) (k : b = true) : (a && b) = true := by
  rw [h, k]
  rfl
end Go.Proofs.YtcinnankefollaaGreatDoor
