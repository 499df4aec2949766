/- The law 'JournalDecodes' is true of every input that the row lets in: whatever the bytes, the program's Decode answers as the document's. The condition: the row's own, that the listed package-level variables read as they are laid (the card ties them to the program's text). -/
import Derived.Test.YtcinnankefollaaGreatDoorTk8
import Derived.Test.YtcinnankefollaaGreatDoorTkc
import Derived.Test.YtcinnankefollaaGreatDoorWm
import Derived.WalkKit
import Derived.ProofKit
import Derived.OpenShut
import Derived.ShutString
import Derived.ChangeOld
import Derived.Below
import Derived.SizedLaws
import Derived.Handed
namespace Go.Proofs.YtcinnankefollaaGreatDoor.journalDecodes
open Go.ChangeShapes Go.WideShapes Go.ChangeAt Go.RowKit
open Go.ChangeMaps (open_string shut_string)
set_option linter.unusedVariables false
theorem own : ownKnob Tryz.prog.godebug = none := by kernel_rfl
theorem ok_arg (os : Os) : Input.okWideB Tryz.checked.prog (witAt os) 4 ⟨#[], #[.string ByteArray.empty], []⟩ = true := by kernel_rfl
theorem pre_arg (os : Os) (H : Type) (enc : TypeId × Value → H) : Rows.journalDecodesSpec.preB enc Tryz.checked.prog Tryz.f4 [] false (witAt os).memory #[.string ByteArray.empty] 8 = true := by kernel_rfl
theorem size_arg (os : Os) (H : Type) (enc : TypeId × Value → H) : Rows.journalDecodesSpec.sizedB enc Tryz.checked.prog Tryz.f4 false (witAt os).memory #[.string ByteArray.empty] 8 = true := by kernel_rfl
set_option maxRecDepth 100000 in
theorem lifted (os : Os) (started : os.Started) (H : Type) (enc : TypeId × Value → H) :
    ReturnsInHanded {} Tryz.checked os 4 .any (fun w args => (Rows.journalDecodesSpec.pre enc Tryz.prog Tryz.f4 [] false w args ∧ laidMetH Tryz.prog tieLaid w) ∧ sizedMet enc Tryz.prog Tryz.f4 (OpenSpec.ofChange Rows.journalDecodesSpec) false w args)
      (Rows.journalDecodesSpec.post enc Tryz.prog Tryz.f4 false true false false) := by
  refine returnsInHanded_of_change_and (C := Tryz.checked) (X := fun w _ => laidMetH Tryz.prog tieLaid w) (fun _ _ _ hh h => h.of_heap hh) own started (by kernel_rfl) Tryz.func4
    (ChangeSpec.witness_shaped (enc := enc) (C := Tryz.checked) (os := os) (X := fun w _ => laidMetH Tryz.prog tieLaid w) false (wit os) #[.string ByteArray.empty] 8 rfl (World.shaped_of_RefB (wit_var os) (wit_rest os)) (ok_arg os) (pre_arg os H enc) (size_arg os H enc) (wit_met os)) ?_
  intro W base args ds gs before hval0 hW hcnd hsz0 hlaid _
  clear hlaid
  have hsz : (DataW.weightsEach Tryz.prog (Tryz.f4.params.toList ++ Rows.journalDecodesSpec.plain.varTypes Tryz.prog) (ds ++ gs)).all (· ≤ reachBytes) = true := hsz0
  have hval : ∀ (j : Nat) t v, Tryz.f4.params[j]? = some t → args[j]? = some v → Value.okWide Tryz.prog W .any base t v := hval0
  have hW' := hW
  obtain ⟨p, q, hA0, hV, rfl, hfz, hnd⟩ := hW
  have hA : DataW.TrodAll enc Tryz.prog W 0 (fun _ => true) true Tryz.f4.params.toList args.toList ds p := hA0
  rw [Tryz.params4] at hA hval hsz
  obtain ⟨v0, vs0, d0, ds0, p0, q0, hargs, rfl, rfl, h0, r0⟩ := trodAll_cons hA
  obtain ⟨rfl, rfl, rfl⟩ := trodAll_nil r0
  obtain rfl : args = #[v0] := by cases args; simp_all
  obtain ⟨rfl, rfl⟩ := trodVars_none hV
  obtain ⟨a0, rfl, rfl, rfl, y0⟩ := open_string Tryz.underlying9 (hval 0 9 v0 rfl rfl) h0
  have w0 : a0.size ≤ 140737488351232 := by
    have z := sized_string hsz (j := 0) (t := 9) rfl rfl
    rw [Array.length_toList] at z
    exact z
  clear hA0 hval0 hsz0 hsz
  refine (Go.Proofs.J.Print.pedigreelaw29_JournalDecodes.walk Go.Proofs.J.Pure.JournalDecodes a0 W w0).mono fun e W' ⟨he, bel⟩ => ?_
  subst he
  exact ⟨_, rfl, _, _, _, [], _, [], hW', trodAll_mk1 (shut_bool Tryz.underlying4 _), (trodAll_cons_mk (shut_string Tryz.underlying9 y0) trodAll_mk0), rfl, bel.frame _, fun h => by cases h⟩
end Go.Proofs.YtcinnankefollaaGreatDoor.journalDecodes
namespace Go.Proofs.YtcinnankefollaaGreatDoor
theorem journalDecodes_holds : Rows.JournalDecodesSaid :=
  OpenClaim.holds_of_wide 4 Tryz.f4 rfl rfl rfl rfl rfl rfl rfl ⟨rfl, rfl, rfl, rfl, rfl⟩ rfl rfl rfl rfl rfl (by kernel_rfl) Tryz.func4 row_facts
    (of_decide_eq_true (by kernel_rfl)) (by unfold Func.isWrapper; first | (rw [if_pos (by decide +kernel)]; kernel_rfl) | (rw [if_neg (by decide +kernel)]; exact ⟨rfl, rfl⟩))
    (fun os started H enc _ => journalDecodes.lifted os started H enc)
end Go.Proofs.YtcinnankefollaaGreatDoor
