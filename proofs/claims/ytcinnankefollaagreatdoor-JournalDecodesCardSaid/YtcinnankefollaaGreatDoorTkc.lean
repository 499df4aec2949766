/- The row's closed facts, joined. -/
import Derived.Test.YtcinnankefollaaGreatDoorTkb
namespace Go.Proofs.YtcinnankefollaaGreatDoor
open Go
theorem laid_out : laidOutB Tryz.prog = true := by
  unfold laidOutB
  rw [types_n, row_fine, glob_fine, Bool.true_and, Bool.true_and, ← Array.all_toList]
  exact par_fine
set_option maxRecDepth 1000000 in
theorem map_rowed : mapsRowed Tryz.prog = true := by
  unfold mapsRowed
  rw [types_n]
  exact map_fine
theorem both {a b : Bool} (h : a = true) (k : b = true) : (a && b) = true := by
  rw [h, k]
  rfl
set_option maxRecDepth 1000000 in
theorem fact_0 : (Rows.journalDecodesRow.wf (OpenSpec.ofChange Rows.journalDecodesSpec)) = true := by kernel_rfl
set_option maxRecDepth 1000000 in
theorem fact_3 : (Tryz.f4.params.all (Tryz.prog.readableRec ·)) = true := by kernel_rfl
set_option maxRecDepth 1000000 in
theorem fact_4 : (namedTie Tryz.prog Rows.journalDecodesRow.named Rows.journalDecodesSpec.vars) = true := by kernel_rfl
set_option maxRecDepth 1000000 in
theorem fact_5 : (Rows.journalDecodesRow.stops == []) = true := by kernel_rfl
set_option maxRecDepth 1000000 in
theorem fact_6 : (Tryz.prog.stops == []) = true := by kernel_rfl
set_option maxRecDepth 1000000 in
theorem fact_7 : (Rows.journalDecodesRow.knobs == []) = true := by kernel_rfl
set_option maxRecDepth 1000000 in
theorem fact_8 : (Tryz.prog.stopKnobs == []) = true := by kernel_rfl
set_option maxRecDepth 1000000 in
theorem fact_9 : (Rows.journalDecodesRow.inPlace == Tryz.prog.inPlace 4) = true := by rw [in_place]
set_option maxRecDepth 1000000 in
theorem fact_10 : (Rows.journalDecodesRow.unfollowed == Tryz.prog.unfollowed 4) = true := by rw [not_followed]
set_option maxRecDepth 1000000 in
theorem fact_11 : (Rows.journalDecodesRow.recurses == Tryz.prog.recurses 4) = true := by rw [recursing]
set_option maxRecDepth 1000000 in
theorem fact_12 : (Rows.journalDecodesRow.named == Tryz.prog.varsNamed 4) = true := by rw [vars_named]
set_option maxRecDepth 1000000 in
theorem fact_13 : (Rows.journalDecodesRow.maps == (Tryz.f4.params.toList ++ Rows.journalDecodesSpec.plain.varTypes Tryz.prog).any (Tryz.prog.mapsRec ·)) = true := by kernel_rfl
set_option maxRecDepth 1000000 in
theorem fact_14 : (Rows.journalDecodesRow.ifaces == (Tryz.f4.params.toList ++ Rows.journalDecodesSpec.plain.varTypes Tryz.prog).any (Tryz.prog.ifacesRec ·)) = true := by kernel_rfl
set_option maxRecDepth 1000000 in
theorem fact_15 : (Rows.journalDecodesRow.mapsOut == Tryz.prog.mapsAmong Tryz.f4.resultTypes.toList) = true := by kernel_rfl
set_option maxRecDepth 1000000 in
theorem fact_16 : (Rows.journalDecodesRow.loops == (Tryz.f4.params.toList ++ Rows.journalDecodesSpec.plain.varTypes Tryz.prog).any (Tryz.prog.loopsFrom ·)) = true := by kernel_rfl
set_option maxRecDepth 1000000 in
theorem fact_17 : (Rows.journalDecodesRow.wideKeys == (Tryz.f4.params.toList ++ Rows.journalDecodesSpec.plain.varTypes Tryz.prog ++ Tryz.f4.resultTypes.toList).any (Tryz.prog.wideKeysFrom ·)) = true := by kernel_rfl
set_option maxRecDepth 1000000 in
theorem fact_18 : (Rows.journalDecodesSpec.vars.all (Tryz.prog.varReadable ·)) = true := by kernel_rfl
set_option maxRecDepth 1000000 in
theorem fact_19 : (Tryz.f4.resultTypes.all (fun t => Tryz.prog.readableRec t && decide (t < Tryz.prog.types.size))) = true := by kernel_rfl
set_option maxRecDepth 1000000 in
theorem fact_20 : (Rows.journalDecodesRow.ifacesOut == Tryz.f4.resultTypes.toList.any (Tryz.prog.ifacesRec ·)) = true := by kernel_rfl
set_option maxRecDepth 1000000 in
theorem fact_21 : (Rows.journalDecodesRow.loopsOut == Tryz.f4.resultTypes.toList.any (Tryz.prog.loopsFrom ·)) = true := by kernel_rfl
set_option maxRecDepth 1000000 in
theorem fact_22 : (Rows.journalDecodesRow.plainKeys == Tryz.prog.plainKeys) = true := by kernel_rfl
set_option maxRecDepth 1000000 in
theorem fact_23 : (Rows.journalDecodesRow.shortTexts.isNone) = true := by kernel_rfl
set_option maxRecDepth 1000000 in
theorem fact_24 : (Tryz.prog.stopsHeard) = true := by kernel_rfl
set_option maxRecDepth 1000000 in
theorem fact_25 : (Tryz.prog.mayEnter) = true := by kernel_rfl
set_option maxRecDepth 1000000 in
theorem fact_26 : (Rows.journalDecodesRow.lifted == Tryz.prog.liftsFinal) = true := by kernel_rfl
set_option maxRecDepth 1000000 in
theorem fact_27 : (Tryz.prog.make == some Rows.journalDecodesRow.make) = true := by kernel_rfl
set_option maxRecDepth 1000000 in
theorem fact_28 : (Rows.journalDecodesRow.kinds == (if Rows.journalDecodesRow.domain.isEmpty then [] else Tryz.f4.params.toList.map fun t => match Tryz.prog.underlying t with | some (.int k) => some k | _ => Option.none)) = true := by kernel_rfl
set_option maxRecDepth 1000000 in
theorem fact_29 : (Rows.journalDecodesRow.pinned == Rows.journalDecodesRow.pinnedBy) = true := by kernel_rfl
set_option maxRecDepth 1000000 in
theorem fact_30 : (Rows.journalDecodesRow.veiled == (Tryz.f4.params.toList ++ Rows.journalDecodesSpec.plain.varTypes Tryz.prog ++ Tryz.f4.resultTypes.toList).any (Tryz.prog.veiledRec ·)) = true := by kernel_rfl
set_option maxRecDepth 1000000 in
theorem fact_31 : (Rows.journalDecodesRow.veiledFits Tryz.prog Tryz.f4.params.toList (Tryz.f4.params.toList ++ Rows.journalDecodesSpec.plain.varTypes Tryz.prog ++ Tryz.f4.resultTypes.toList)) = true := by kernel_rfl
set_option maxRecDepth 1000000 in
theorem row_facts : joinedFacts Tryz.prog 4 Tryz.f4 Rows.journalDecodesSpec Rows.journalDecodesRow = true := by
  unfold joinedFacts
  refine both ?_ fact_31
  refine both ?_ fact_30
  refine both ?_ fact_29
  refine both ?_ fact_28
  refine both ?_ fact_27
  refine both ?_ fact_26
  refine both ?_ fact_25
  refine both ?_ fact_24
  refine both ?_ fact_23
  refine both ?_ fact_22
  refine both ?_ fact_21
  refine both ?_ fact_20
  refine both ?_ fact_19
  refine both ?_ fact_18
  refine both ?_ fact_17
  refine both ?_ fact_16
  refine both ?_ fact_15
  refine both ?_ fact_14
  refine both ?_ fact_13
  refine both ?_ fact_12
  refine both ?_ fact_11
  refine both ?_ fact_10
  refine both ?_ fact_9
  refine both ?_ fact_8
  refine both ?_ fact_7
  refine both ?_ fact_6
  refine both ?_ fact_5
  refine both ?_ fact_4
  refine both ?_ fact_3
  refine both ?_ map_rowed
  refine both ?_ laid_out
  exact fact_0
end Go.Proofs.YtcinnankefollaaGreatDoor
