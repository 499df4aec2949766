/- The row's closed facts, in pieces. -/
import Derived.Test.YtcinnankefollaaGreatDoorTka
namespace Go.Proofs.YtcinnankefollaaGreatDoor
open Go
theorem all_chunks {α : Type} (p : α → Bool) (l : List α) (k : Nat) (h1 : (l.take k).all p = true) (h2 : (l.drop k).all p = true) : l.all p = true := by
  rw [← List.take_append_drop k l, List.all_append, h1, h2]
  rfl
theorem types_n : Tryz.prog.types.size = 983 := by kernel_rfl
set_option maxRecDepth 1000000 in
theorem row_fine_0 : (((List.range 983)).take 40).all (rowFine Tryz.prog) = true := by kernel_rfl
set_option maxRecDepth 1000000 in
theorem row_fine_1 : ((((List.range 983).drop 40)).take 40).all (rowFine Tryz.prog) = true := by kernel_rfl
set_option maxRecDepth 1000000 in
theorem row_fine_2 : (((((List.range 983).drop 40).drop 40)).take 40).all (rowFine Tryz.prog) = true := by kernel_rfl
set_option maxRecDepth 1000000 in
theorem row_fine_3 : ((((((List.range 983).drop 40).drop 40).drop 40)).take 40).all (rowFine Tryz.prog) = true := by kernel_rfl
set_option maxRecDepth 1000000 in
theorem row_fine_4 : (((((((List.range 983).drop 40).drop 40).drop 40).drop 40)).take 40).all (rowFine Tryz.prog) = true := by kernel_rfl
set_option maxRecDepth 1000000 in
theorem row_fine_5 : ((((((((List.range 983).drop 40).drop 40).drop 40).drop 40).drop 40)).take 40).all (rowFine Tryz.prog) = true := by kernel_rfl
set_option maxRecDepth 1000000 in
theorem row_fine_6 : (((((((((List.range 983).drop 40).drop 40).drop 40).drop 40).drop 40).drop 40)).take 40).all (rowFine Tryz.prog) = true := by kernel_rfl
set_option maxRecDepth 1000000 in
theorem row_fine_7 : ((((((((((List.range 983).drop 40).drop 40).drop 40).drop 40).drop 40).drop 40).drop 40)).take 40).all (rowFine Tryz.prog) = true := by kernel_rfl
set_option maxRecDepth 1000000 in
theorem row_fine_8 : (((((((((((List.range 983).drop 40).drop 40).drop 40).drop 40).drop 40).drop 40).drop 40).drop 40)).take 40).all (rowFine Tryz.prog) = true := by kernel_rfl
set_option maxRecDepth 1000000 in
theorem row_fine_9 : ((((((((((((List.range 983).drop 40).drop 40).drop 40).drop 40).drop 40).drop 40).drop 40).drop 40).drop 40)).take 40).all (rowFine Tryz.prog) = true := by kernel_rfl
set_option maxRecDepth 1000000 in
theorem row_fine_10 : (((((((((((((List.range 983).drop 40).drop 40).drop 40).drop 40).drop 40).drop 40).drop 40).drop 40).drop 40).drop 40)).take 40).all (rowFine Tryz.prog) = true := by kernel_rfl
set_option maxRecDepth 1000000 in
theorem row_fine_11 : ((((((((((((((List.range 983).drop 40).drop 40).drop 40).drop 40).drop 40).drop 40).drop 40).drop 40).drop 40).drop 40).drop 40)).take 40).all (rowFine Tryz.prog) = true := by kernel_rfl
set_option maxRecDepth 1000000 in
theorem row_fine_12 : (((((((((((((((List.range 983).drop 40).drop 40).drop 40).drop 40).drop 40).drop 40).drop 40).drop 40).drop 40).drop 40).drop 40).drop 40)).take 40).all (rowFine Tryz.prog) = true := by kernel_rfl
set_option maxRecDepth 1000000 in
theorem row_fine_13 : ((((((((((((((((List.range 983).drop 40).drop 40).drop 40).drop 40).drop 40).drop 40).drop 40).drop 40).drop 40).drop 40).drop 40).drop 40).drop 40)).take 40).all (rowFine Tryz.prog) = true := by kernel_rfl
set_option maxRecDepth 1000000 in
theorem row_fine_14 : (((((((((((((((((List.range 983).drop 40).drop 40).drop 40).drop 40).drop 40).drop 40).drop 40).drop 40).drop 40).drop 40).drop 40).drop 40).drop 40).drop 40)).take 40).all (rowFine Tryz.prog) = true := by kernel_rfl
set_option maxRecDepth 1000000 in
theorem row_fine_15 : ((((((((((((((((((List.range 983).drop 40).drop 40).drop 40).drop 40).drop 40).drop 40).drop 40).drop 40).drop 40).drop 40).drop 40).drop 40).drop 40).drop 40).drop 40)).take 40).all (rowFine Tryz.prog) = true := by kernel_rfl
set_option maxRecDepth 1000000 in
theorem row_fine_16 : (((((((((((((((((((List.range 983).drop 40).drop 40).drop 40).drop 40).drop 40).drop 40).drop 40).drop 40).drop 40).drop 40).drop 40).drop 40).drop 40).drop 40).drop 40).drop 40)).take 40).all (rowFine Tryz.prog) = true := by kernel_rfl
set_option maxRecDepth 1000000 in
theorem row_fine_17 : ((((((((((((((((((((List.range 983).drop 40).drop 40).drop 40).drop 40).drop 40).drop 40).drop 40).drop 40).drop 40).drop 40).drop 40).drop 40).drop 40).drop 40).drop 40).drop 40).drop 40)).take 40).all (rowFine Tryz.prog) = true := by kernel_rfl
set_option maxRecDepth 1000000 in
theorem row_fine_18 : (((((((((((((((((((((List.range 983).drop 40).drop 40).drop 40).drop 40).drop 40).drop 40).drop 40).drop 40).drop 40).drop 40).drop 40).drop 40).drop 40).drop 40).drop 40).drop 40).drop 40).drop 40)).take 40).all (rowFine Tryz.prog) = true := by kernel_rfl
set_option maxRecDepth 1000000 in
theorem row_fine_19 : ((((((((((((((((((((((List.range 983).drop 40).drop 40).drop 40).drop 40).drop 40).drop 40).drop 40).drop 40).drop 40).drop 40).drop 40).drop 40).drop 40).drop 40).drop 40).drop 40).drop 40).drop 40).drop 40)).take 40).all (rowFine Tryz.prog) = true := by kernel_rfl
set_option maxRecDepth 1000000 in
theorem row_fine_20 : (((((((((((((((((((((((List.range 983).drop 40).drop 40).drop 40).drop 40).drop 40).drop 40).drop 40).drop 40).drop 40).drop 40).drop 40).drop 40).drop 40).drop 40).drop 40).drop 40).drop 40).drop 40).drop 40).drop 40)).take 40).all (rowFine Tryz.prog) = true := by kernel_rfl
set_option maxRecDepth 1000000 in
theorem row_fine_21 : ((((((((((((((((((((((((List.range 983).drop 40).drop 40).drop 40).drop 40).drop 40).drop 40).drop 40).drop 40).drop 40).drop 40).drop 40).drop 40).drop 40).drop 40).drop 40).drop 40).drop 40).drop 40).drop 40).drop 40).drop 40)).take 40).all (rowFine Tryz.prog) = true := by kernel_rfl
set_option maxRecDepth 1000000 in
theorem row_fine_22 : (((((((((((((((((((((((((List.range 983).drop 40).drop 40).drop 40).drop 40).drop 40).drop 40).drop 40).drop 40).drop 40).drop 40).drop 40).drop 40).drop 40).drop 40).drop 40).drop 40).drop 40).drop 40).drop 40).drop 40).drop 40).drop 40)).take 40).all (rowFine Tryz.prog) = true := by kernel_rfl
set_option maxRecDepth 1000000 in
theorem row_fine_23 : ((((((((((((((((((((((((((List.range 983).drop 40).drop 40).drop 40).drop 40).drop 40).drop 40).drop 40).drop 40).drop 40).drop 40).drop 40).drop 40).drop 40).drop 40).drop 40).drop 40).drop 40).drop 40).drop 40).drop 40).drop 40).drop 40).drop 40)).take 40).all (rowFine Tryz.prog) = true := by kernel_rfl
set_option maxRecDepth 1000000 in
theorem row_fine_24 : (((((((((((((((((((((((((((List.range 983).drop 40).drop 40).drop 40).drop 40).drop 40).drop 40).drop 40).drop 40).drop 40).drop 40).drop 40).drop 40).drop 40).drop 40).drop 40).drop 40).drop 40).drop 40).drop 40).drop 40).drop 40).drop 40).drop 40).drop 40))).all (rowFine Tryz.prog) = true := by kernel_rfl
theorem row_fine : ((List.range 983)).all (rowFine Tryz.prog) = true := (all_chunks _ _ 40 row_fine_0 (all_chunks _ _ 40 row_fine_1 (all_chunks _ _ 40 row_fine_2 (all_chunks _ _ 40 row_fine_3 (all_chunks _ _ 40 row_fine_4 (all_chunks _ _ 40 row_fine_5 (all_chunks _ _ 40 row_fine_6 (all_chunks _ _ 40 row_fine_7 (all_chunks _ _ 40 row_fine_8 (all_chunks _ _ 40 row_fine_9 (all_chunks _ _ 40 row_fine_10 (all_chunks _ _ 40 row_fine_11 (all_chunks _ _ 40 row_fine_12 (all_chunks _ _ 40 row_fine_13 (all_chunks _ _ 40 row_fine_14 (all_chunks _ _ 40 row_fine_15 (all_chunks _ _ 40 row_fine_16 (all_chunks _ _ 40 row_fine_17 (all_chunks _ _ 40 row_fine_18 (all_chunks _ _ 40 row_fine_19 (all_chunks _ _ 40 row_fine_20 (all_chunks _ _ 40 row_fine_21 (all_chunks _ _ 40 row_fine_22 (all_chunks _ _ 40 row_fine_23 row_fine_24))))))))))))))))))))))))
set_option maxRecDepth 1000000 in
theorem map_fine_0 : (((List.range 983)).take 80).all (fun t => match Tryz.prog.underlying t with | some (.map _ e) => decide (e < Tryz.prog.types.size) | _ => true) = true := by kernel_rfl
set_option maxRecDepth 1000000 in
theorem map_fine_1 : ((((List.range 983).drop 80)).take 80).all (fun t => match Tryz.prog.underlying t with | some (.map _ e) => decide (e < Tryz.prog.types.size) | _ => true) = true := by kernel_rfl
set_option maxRecDepth 1000000 in
theorem map_fine_2 : (((((List.range 983).drop 80).drop 80)).take 80).all (fun t => match Tryz.prog.underlying t with | some (.map _ e) => decide (e < Tryz.prog.types.size) | _ => true) = true := by kernel_rfl
set_option maxRecDepth 1000000 in
theorem map_fine_3 : ((((((List.range 983).drop 80).drop 80).drop 80)).take 80).all (fun t => match Tryz.prog.underlying t with | some (.map _ e) => decide (e < Tryz.prog.types.size) | _ => true) = true := by kernel_rfl
set_option maxRecDepth 1000000 in
theorem map_fine_4 : (((((((List.range 983).drop 80).drop 80).drop 80).drop 80)).take 80).all (fun t => match Tryz.prog.underlying t with | some (.map _ e) => decide (e < Tryz.prog.types.size) | _ => true) = true := by kernel_rfl
set_option maxRecDepth 1000000 in
theorem map_fine_5 : ((((((((List.range 983).drop 80).drop 80).drop 80).drop 80).drop 80)).take 80).all (fun t => match Tryz.prog.underlying t with | some (.map _ e) => decide (e < Tryz.prog.types.size) | _ => true) = true := by kernel_rfl
set_option maxRecDepth 1000000 in
theorem map_fine_6 : (((((((((List.range 983).drop 80).drop 80).drop 80).drop 80).drop 80).drop 80)).take 80).all (fun t => match Tryz.prog.underlying t with | some (.map _ e) => decide (e < Tryz.prog.types.size) | _ => true) = true := by kernel_rfl
set_option maxRecDepth 1000000 in
theorem map_fine_7 : ((((((((((List.range 983).drop 80).drop 80).drop 80).drop 80).drop 80).drop 80).drop 80)).take 80).all (fun t => match Tryz.prog.underlying t with | some (.map _ e) => decide (e < Tryz.prog.types.size) | _ => true) = true := by kernel_rfl
set_option maxRecDepth 1000000 in
theorem map_fine_8 : (((((((((((List.range 983).drop 80).drop 80).drop 80).drop 80).drop 80).drop 80).drop 80).drop 80)).take 80).all (fun t => match Tryz.prog.underlying t with | some (.map _ e) => decide (e < Tryz.prog.types.size) | _ => true) = true := by kernel_rfl
set_option maxRecDepth 1000000 in
theorem map_fine_9 : ((((((((((((List.range 983).drop 80).drop 80).drop 80).drop 80).drop 80).drop 80).drop 80).drop 80).drop 80)).take 80).all (fun t => match Tryz.prog.underlying t with | some (.map _ e) => decide (e < Tryz.prog.types.size) | _ => true) = true := by kernel_rfl
set_option maxRecDepth 1000000 in
theorem map_fine_10 : (((((((((((((List.range 983).drop 80).drop 80).drop 80).drop 80).drop 80).drop 80).drop 80).drop 80).drop 80).drop 80)).take 80).all (fun t => match Tryz.prog.underlying t with | some (.map _ e) => decide (e < Tryz.prog.types.size) | _ => true) = true := by kernel_rfl
set_option maxRecDepth 1000000 in
theorem map_fine_11 : ((((((((((((((List.range 983).drop 80).drop 80).drop 80).drop 80).drop 80).drop 80).drop 80).drop 80).drop 80).drop 80).drop 80)).take 80).all (fun t => match Tryz.prog.underlying t with | some (.map _ e) => decide (e < Tryz.prog.types.size) | _ => true) = true := by kernel_rfl
set_option maxRecDepth 1000000 in
theorem map_fine_12 : (((((((((((((((List.range 983).drop 80).drop 80).drop 80).drop 80).drop 80).drop 80).drop 80).drop 80).drop 80).drop 80).drop 80).drop 80))).all (fun t => match Tryz.prog.underlying t with | some (.map _ e) => decide (e < Tryz.prog.types.size) | _ => true) = true := by kernel_rfl
theorem map_fine : ((List.range 983)).all (fun t => match Tryz.prog.underlying t with | some (.map _ e) => decide (e < Tryz.prog.types.size) | _ => true) = true := (all_chunks _ _ 80 map_fine_0 (all_chunks _ _ 80 map_fine_1 (all_chunks _ _ 80 map_fine_2 (all_chunks _ _ 80 map_fine_3 (all_chunks _ _ 80 map_fine_4 (all_chunks _ _ 80 map_fine_5 (all_chunks _ _ 80 map_fine_6 (all_chunks _ _ 80 map_fine_7 (all_chunks _ _ 80 map_fine_8 (all_chunks _ _ 80 map_fine_9 (all_chunks _ _ 80 map_fine_10 (all_chunks _ _ 80 map_fine_11 map_fine_12))))))))))))
set_option maxRecDepth 1000000 in
theorem par_fine_0 : ((Tryz.prog.funcs.toList).take 120).all (fun f => f.params.all fun t => decide (t < 983)) = true := by kernel_rfl
set_option maxRecDepth 1000000 in
theorem par_fine_1 : (((Tryz.prog.funcs.toList.drop 120)).take 120).all (fun f => f.params.all fun t => decide (t < 983)) = true := by kernel_rfl
set_option maxRecDepth 1000000 in
theorem par_fine_2 : ((((Tryz.prog.funcs.toList.drop 120).drop 120)).take 120).all (fun f => f.params.all fun t => decide (t < 983)) = true := by kernel_rfl
set_option maxRecDepth 1000000 in
theorem par_fine_3 : (((((Tryz.prog.funcs.toList.drop 120).drop 120).drop 120)).take 120).all (fun f => f.params.all fun t => decide (t < 983)) = true := by kernel_rfl
set_option maxRecDepth 1000000 in
theorem par_fine_4 : ((((((Tryz.prog.funcs.toList.drop 120).drop 120).drop 120).drop 120)).take 120).all (fun f => f.params.all fun t => decide (t < 983)) = true := by kernel_rfl
set_option maxRecDepth 1000000 in
theorem par_fine_5 : (((((((Tryz.prog.funcs.toList.drop 120).drop 120).drop 120).drop 120).drop 120)).take 120).all (fun f => f.params.all fun t => decide (t < 983)) = true := by kernel_rfl
set_option maxRecDepth 1000000 in
theorem par_fine_6 : ((((((((Tryz.prog.funcs.toList.drop 120).drop 120).drop 120).drop 120).drop 120).drop 120))).all (fun f => f.params.all fun t => decide (t < 983)) = true := by kernel_rfl
theorem par_fine : (Tryz.prog.funcs.toList).all (fun f => f.params.all fun t => decide (t < 983)) = true := (all_chunks _ _ 120 par_fine_0 (all_chunks _ _ 120 par_fine_1 (all_chunks _ _ 120 par_fine_2 (all_chunks _ _ 120 par_fine_3 (all_chunks _ _ 120 par_fine_4 (all_chunks _ _ 120 par_fine_5 par_fine_6))))))
set_option maxRecDepth 1000000 in
theorem glob_fine : Tryz.prog.globals.all (fun g => decide (g.type < 983)) = true := by kernel_rfl
end Go.Proofs.YtcinnankefollaaGreatDoor
