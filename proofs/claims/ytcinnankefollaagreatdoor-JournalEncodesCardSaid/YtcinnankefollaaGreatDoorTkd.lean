/- The tie, joined: the listed variables are laid by the program's own text. -/
import Derived.Test.YtcinnankefollaaGreatDoorTk1
import Derived.Test.YtcinnankefollaaGreatDoorTk2
import Derived.Test.YtcinnankefollaaGreatDoorTk3
import Derived.Test.YtcinnankefollaaGreatDoorTk4
import Derived.Test.YtcinnankefollaaGreatDoorTk5
import Derived.Test.YtcinnankefollaaGreatDoorTk6
namespace Go.Proofs.YtcinnankefollaaGreatDoor
open Go
theorem band {a b : Bool} (h : a = true) (k : b = true) : (a && b) = true := by
  rw [h, k]
  rfl
theorem tkAll : tieLaid.all tkAt = true := by
  unfold tieLaid
  simp only [List.all_cons, List.all_nil, tk6X0, tk6X1, tk6X2, tk6X3, tk6X4, tk6X5, tk6X6, tk6X7, tk6X8, tk6X9, tk6X10, tk6X11, tk6X12, tk6X13, tk6X14, tk6X15, tk6X16, tk6X17, tk6X18, tk6X19, Bool.and_self]
set_option maxRecDepth 1000000 in
theorem tk6 : varsNamedLaterB Tryz.prog 810 tieLaid = true := by
  have hA := tk6A
  have hX := tkAll
  have h1 := tk6B1
  have h2 := tk6B2
  have h3 := tk6B3
  have h4 := tk6B4
  have h5 := tk6B5
  unfold varsNamedLaterB Program.callsLaidAlone
  unfold tkAt at hX
  cases hc : (Tryz.prog.funcs[810]?).bind (·.body) with
  | none => rw [hc] at hA; exact absurd hA Bool.false_ne_true
  | some code =>
    rw [hc] at hA hX h1 h2 h3 h4 h5
    dsimp only at hA hX h1 h2 h3 h4 h5 ⊢
    cases hs : code.laysInOrder [] with
    | none => rw [hs] at hA; exact absurd hA Bool.false_ne_true
    | some stored =>
      rw [hs] at hA hX
      dsimp only at hA hX ⊢
      exact band (band hA (band (band (band (band h1 h2) h3) h4) h5)) hX
set_option maxRecDepth 1000000 in
theorem tie : Tryz.prog.laidByTextLater tieLaid tieKinds true :=
  Program.laidByTextLater_by_run_h 400 8 tk1 tk2 tk3 tk4 tk5 (by rw [tkV]; exact tk6) (by rw [tkV]; exact tk7) (by rw [tkV]; exact tk8) (by rw [tkV]; exact tk9) (by rw [tkV]; exact tk10)
end Go.Proofs.YtcinnankefollaaGreatDoor
