/- The closed facts of the row of JournalEncodes. -/
import Derived.Test.YtcinnankefollaaGreatDoorTea
import Derived.Test.YtcinnankefollaaGreatDoorTkc
namespace Go.Proofs.YtcinnankefollaaGreatDoor
open Go
set_option maxRecDepth 1000000 in
theorem fact3_0 : (Rows.journalEncodesRow.wf (OpenSpec.ofChange Rows.journalEncodesSpec)) = true := by kernel_rfl
set_option maxRecDepth 1000000 in
theorem fact3_3 : (Tryz.f3.params.all (Tryz.prog.readableRec ·)) = true := by kernel_rfl
set_option maxRecDepth 1000000 in
theorem fact3_4 : (namedTie Tryz.prog Rows.journalEncodesRow.named Rows.journalEncodesSpec.vars) = true := by kernel_rfl
set_option maxRecDepth 1000000 in
theorem fact3_5 : (Rows.journalEncodesRow.stops == []) = true := by kernel_rfl
set_option maxRecDepth 1000000 in
theorem fact3_6 : (Tryz.prog.stops == []) = true := by kernel_rfl
set_option maxRecDepth 1000000 in
theorem fact3_7 : (Rows.journalEncodesRow.knobs == []) = true := by kernel_rfl
set_option maxRecDepth 1000000 in
theorem fact3_8 : (Tryz.prog.stopKnobs == []) = true := by kernel_rfl
set_option maxRecDepth 1000000 in
theorem fact3_9 : (Rows.journalEncodesRow.inPlace == Tryz.prog.inPlace 3) = true := by rw [in_place3]
set_option maxRecDepth 1000000 in
theorem fact3_10 : (Rows.journalEncodesRow.unfollowed == Tryz.prog.unfollowed 3) = true := by rw [not_followed3]
set_option maxRecDepth 1000000 in
theorem fact3_11 : (Rows.journalEncodesRow.recurses == Tryz.prog.recurses 3) = true := by rw [recursing3]
set_option maxRecDepth 1000000 in
theorem fact3_12 : (Rows.journalEncodesRow.named == Tryz.prog.varsNamed 3) = true := by rw [vars_named3]
set_option maxRecDepth 1000000 in
theorem fact3_13 : (Rows.journalEncodesRow.maps == (Tryz.f3.params.toList ++ Rows.journalEncodesSpec.plain.varTypes Tryz.prog).any (Tryz.prog.mapsRec ·)) = true := by kernel_rfl
set_option maxRecDepth 1000000 in
theorem fact3_14 : (Rows.journalEncodesRow.ifaces == (Tryz.f3.params.toList ++ Rows.journalEncodesSpec.plain.varTypes Tryz.prog).any (Tryz.prog.ifacesRec ·)) = true := by kernel_rfl
set_option maxRecDepth 1000000 in
theorem fact3_15 : (Rows.journalEncodesRow.mapsOut == Tryz.prog.mapsAmong Tryz.f3.resultTypes.toList) = true := by kernel_rfl
set_option maxRecDepth 1000000 in
theorem fact3_16 : (Rows.journalEncodesRow.loops == (Tryz.f3.params.toList ++ Rows.journalEncodesSpec.plain.varTypes Tryz.prog).any (Tryz.prog.loopsFrom ·)) = true := by kernel_rfl
set_option maxRecDepth 1000000 in
theorem fact3_17 : (Rows.journalEncodesRow.wideKeys == (Tryz.f3.params.toList ++ Rows.journalEncodesSpec.plain.varTypes Tryz.prog ++ Tryz.f3.resultTypes.toList).any (Tryz.prog.wideKeysFrom ·)) = true := by kernel_rfl
set_option maxRecDepth 1000000 in
theorem fact3_18 : (Rows.journalEncodesSpec.vars.all (Tryz.prog.varReadable ·)) = true := by kernel_rfl
set_option maxRecDepth 1000000 in
theorem fact3_19 : (Tryz.f3.resultTypes.all (fun t => Tryz.prog.readableRec t && decide (t < Tryz.prog.types.size))) = true := by kernel_rfl
set_option maxRecDepth 1000000 in
theorem fact3_20 : (Rows.journalEncodesRow.ifacesOut == Tryz.f3.resultTypes.toList.any (Tryz.prog.ifacesRec ·)) = true := by kernel_rfl
set_option maxRecDepth 1000000 in
theorem fact3_21 : (Rows.journalEncodesRow.loopsOut == Tryz.f3.resultTypes.toList.any (Tryz.prog.loopsFrom ·)) = true := by kernel_rfl
set_option maxRecDepth 1000000 in
theorem fact3_22 : (Rows.journalEncodesRow.plainKeys == Tryz.prog.plainKeys) = true := by kernel_rfl
set_option maxRecDepth 1000000 in
theorem fact3_23 : (Rows.journalEncodesRow.shortTexts.isNone) = true := by kernel_rfl
set_option maxRecDepth 1000000 in
theorem fact3_24 : (Tryz.prog.stopsHeard) = true := by kernel_rfl
set_option maxRecDepth 1000000 in
theorem fact3_25 : (Tryz.prog.mayEnter) = true := by kernel_rfl
set_option maxRecDepth 1000000 in
theorem fact3_26 : (Rows.journalEncodesRow.lifted == Tryz.prog.liftsFinal) = true := by kernel_rfl
set_option maxRecDepth 1000000 in
theorem fact3_27 : (Tryz.prog.make == some Rows.journalEncodesRow.make) = true := by kernel_rfl
set_option maxRecDepth 1000000 in
theorem fact3_28 : (Rows.journalEncodesRow.kinds == (if Rows.journalEncodesRow.domain.isEmpty then [] else Tryz.f3.params.toList.map fun t => match Tryz.prog.underlying t with | some (.int k) => some k | _ => Option.none)) = true := by kernel_rfl
set_option maxRecDepth 1000000 in
theorem fact3_29 : (Rows.journalEncodesRow.pinned == Rows.journalEncodesRow.pinnedBy) = true := by kernel_rfl
set_option maxRecDepth 1000000 in
theorem fact3_30 : (Rows.journalEncodesRow.veiled == (Tryz.f3.params.toList ++ Rows.journalEncodesSpec.plain.varTypes Tryz.prog ++ Tryz.f3.resultTypes.toList).any (Tryz.prog.veiledRec ·)) = true := by kernel_rfl
set_option maxRecDepth 1000000 in
theorem fact3_31 : (Rows.journalEncodesRow.veiledFits Tryz.prog Tryz.f3.params.toList (Tryz.f3.params.toList ++ Rows.journalEncodesSpec.plain.varTypes Tryz.prog ++ Tryz.f3.resultTypes.toList)) = true := by kernel_rfl
set_option maxRecDepth 1000000 in
theorem row_facts3 : joinedFacts Tryz.prog 3 Tryz.f3 Rows.journalEncodesSpec Rows.journalEncodesRow = true := by
  unfold joinedFacts
  refine both ?_ fact3_31
  refine both ?_ fact3_30
  refine both ?_ fact3_29
  refine both ?_ fact3_28
  refine both ?_ fact3_27
  refine both ?_ fact3_26
  refine both ?_ fact3_25
  refine both ?_ fact3_24
  refine both ?_ fact3_23
  refine both ?_ fact3_22
  refine both ?_ fact3_21
  refine both ?_ fact3_20
  refine both ?_ fact3_19
  refine both ?_ fact3_18
  refine both ?_ fact3_17
  refine both ?_ fact3_16
  refine both ?_ fact3_15
  refine both ?_ fact3_14
  refine both ?_ fact3_13
  refine both ?_ fact3_12
  refine both ?_ fact3_11
  refine both ?_ fact3_10
  refine both ?_ fact3_9
  refine both ?_ fact3_8
  refine both ?_ fact3_7
  refine both ?_ fact3_6
  refine both ?_ fact3_5
  refine both ?_ fact3_4
  refine both ?_ fact3_3
  refine both ?_ map_rowed
  refine both ?_ laid_out
  exact fact3_0
end Go.Proofs.YtcinnankefollaaGreatDoor
