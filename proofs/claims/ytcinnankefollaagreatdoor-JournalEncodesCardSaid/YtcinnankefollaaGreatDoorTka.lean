/- What the law's functions name, and which are answered in place. -/
import Derived.Test.YtcinnankefollaaGreatDoorTk9
namespace Go.Proofs.YtcinnankefollaaGreatDoor
open Go
def globF (fn : Func) : List Nat := fn.body.elim [] Code.globalsNamed
def nameF (fn : Func) : Option String := if fn.ours || fn.body.isNone || fn.name == "runtime.NumGoroutine" then some fn.name else none
def readF (fn : Func) : Option String := if fn.body.isNone then entryReads.lookup fn.name else none
def glT0 : List (List Nat) := [[],[],[],[],[],[],[],[],[],[],[],[],[],[],[],[],[],[],[],[],[],[],[],[],[],[],[],[],[],[],[],[],[],[],[],[],[],[],[],[],[],[],[],[],[],[],[],[],[],[],[],[],[],[],[],[],[],[],[],[],[],[],[],[],[],[],[],[],[],[],[],[],[],[],[],[],[],[],[],[],[],[],[],[],[],[],[],[],[],[],[],[],[],[],[],[],[],[],[],[]]
def glT1 : List (List Nat) := [[],[],[],[],[],[],[],[],[],[],[],[],[],[],[],[],[],[],[],[],[],[],[],[],[],[],[],[],[],[],[],[],[],[],[],[],[],[],[],[],[],[],[],[],[],[],[],[],[],[],[],[],[],[],[],[],[],[],[],[],[],[],[],[],[],[],[],[],[],[],[],[],[],[],[],[],[],[],[],[],[],[],[],[],[],[],[],[],[],[],[],[],[],[],[],[],[],[],[],[]]
def glT2 : List (List Nat) := [[],[],[],[],[],[],[],[],[],[],[],[],[],[],[],[],[],[],[],[],[],[],[],[],[],[],[],[],[],[],[],[],[],[],[],[],[],[],[],[],[],[],[],[],[],[],[],[],[],[],[],[],[],[],[],[],[],[],[],[],[],[],[1,2],[],[],[],[],[],[],[],[],[],[],[],[],[],[],[],[],[],[],[],[],[],[],[],[],[],[],[],[],[],[],[],[],[],[3],[],[],[]]
def glT3 : List (List Nat) := [[4,3],[3],[],[],[],[],[],[],[],[],[],[5],[],[],[],[],[],[],[],[],[],[],[],[],[],[],[],[],[],[],[],[],[],[],[],[],[],[],[],[],[],[],[],[],[6],[],[],[],[],[],[],[7],[8],[1,2,9],[],[],[],[3],[],[],[],[4,10],[],[],[],[],[],[],[],[],[],[],[],[11],[],[],[],[],[],[],[],[],[],[],[],[],[],[],[],[],[],[],[],[],[],[],[],[],[],[]]
def glT4 : List (List Nat) := [[],[],[],[],[],[],[],[],[],[],[],[],[],[],[],[],[],[],[],[],[],[],[],[],[],[],[],[],[],[],[],[],[],[],[],[],[],[],[],[],[],[],[],[],[],[],[],[3],[],[],[10],[],[],[],[],[],[],[],[],[12,12,13,12,12,14,12,12],[],[],[],[],[],[],[],[],[],[],[],[],[],[],[],[],[],[],[],[],[],[],[],[],[],[],[],[],[],[],[],[],[],[],[],[],[],[],[],[]]
def glT5 : List (List Nat) := [[],[],[],[],[],[],[],[],[],[],[],[],[],[],[],[],[],[],[],[],[],[],[15],[16],[],[],[],[],[],[17],[],[],[],[],[],[],[],[],[],[],[],[],[],[],[],[],[],[],[],[],[],[],[],[],[],[],[],[],[],[],[],[],[],[],[],[],[],[],[],[],[],[],[],[],[],[],[],[],[],[],[],[],[],[],[],[],[],[],[],[],[],[],[],[],[],[],[],[],[],[]]
def glT6 : List (List Nat) := [[],[],[],[],[],[18],[],[],[],[],[],[],[],[],[],[],[],[],[],[],[],[],[],[],[],[],[],[],[],[],[],[],[],[],[],[],[],[],[],[],[],[],[],[],[],[],[],[],[],[],[],[],[],[],[],[],[],[],[],[],[],[],[],[],[],[],[],[],[],[],[],[],[],[],[],[],[],[],[],[],[],[],[],[],[],[],[],[],[],[],[],[],[],[],[],[],[19],[20],[],[]]
def glT7 : List (List Nat) := [[],[],[],[],[],[],[],[],[],[],[],[],[],[],[],[],[],[],[],[],[],[],[],[],[],[],[],[],[],[],[],[],[],[],[],[],[],[],[],[],[],[],[],[],[],[],[],[],[],[],[],[],[],[],[],[],[],[],[],[],[],[],[],[],[],[],[],[],[],[],[],[],[],[],[],[],[],[],[],[],[],[],[],[],[],[],[],[],[],[],[],[],[],[],[],[],[],[],[],[]]
def glT8 : List (List Nat) := [[],[],[],[],[],[],[],[],[],[],[15,16,6,8,20,19,17,7,3,1,2,9,10,4,18,14,13,11,5,12]]
def glT : List (List Nat) := glT0 ++ (glT1 ++ (glT2 ++ (glT3 ++ (glT4 ++ (glT5 ++ (glT6 ++ (glT7 ++ (glT8))))))))
theorem glT_0 : (Tryz.prog.funcs.toList.take 100).map globF = glT0 := by kernel_rfl
theorem glT_1 : ((Tryz.prog.funcs.toList.drop 100).take 100).map globF = glT1 := by kernel_rfl
theorem glT_2 : (((Tryz.prog.funcs.toList.drop 100).drop 100).take 100).map globF = glT2 := by kernel_rfl
theorem glT_3 : ((((Tryz.prog.funcs.toList.drop 100).drop 100).drop 100).take 100).map globF = glT3 := by kernel_rfl
theorem glT_4 : (((((Tryz.prog.funcs.toList.drop 100).drop 100).drop 100).drop 100).take 100).map globF = glT4 := by kernel_rfl
theorem glT_5 : ((((((Tryz.prog.funcs.toList.drop 100).drop 100).drop 100).drop 100).drop 100).take 100).map globF = glT5 := by kernel_rfl
theorem glT_6 : (((((((Tryz.prog.funcs.toList.drop 100).drop 100).drop 100).drop 100).drop 100).drop 100).take 100).map globF = glT6 := by kernel_rfl
theorem glT_7 : ((((((((Tryz.prog.funcs.toList.drop 100).drop 100).drop 100).drop 100).drop 100).drop 100).drop 100).take 100).map globF = glT7 := by kernel_rfl
theorem glT_8 : (((((((((Tryz.prog.funcs.toList.drop 100).drop 100).drop 100).drop 100).drop 100).drop 100).drop 100).drop 100)).map globF = glT8 := by kernel_rfl
theorem glT_all : Tryz.prog.funcs.toList.map globF = glT := (map_chunks _ _ 100 _ _ glT_0 (map_chunks _ _ 100 _ _ glT_1 (map_chunks _ _ 100 _ _ glT_2 (map_chunks _ _ 100 _ _ glT_3 (map_chunks _ _ 100 _ _ glT_4 (map_chunks _ _ 100 _ _ glT_5 (map_chunks _ _ 100 _ _ glT_6 (map_chunks _ _ 100 _ _ glT_7 glT_8))))))))
theorem glob_at (g : Nat) : ((Tryz.prog.funcs[g]?).bind fun x : Func => x.body).elim [] Code.globalsNamed = (glT[g]?).getD [] := by
  rw [← at_tab glT_all g]
  cases Tryz.prog.funcs[g]? <;> rfl
end Go.Proofs.YtcinnankefollaaGreatDoor
