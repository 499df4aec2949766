/- On the way to the law 'JournalDecodes': what the functions that it reaches compute, step by step, and the plain law (JPF14 .. JPF198). Each theorem states its own conditions. -/
import Derived.Test.YtcinnankefollaaGreatDoorWe
import Derived.BigGuardPart
import Derived.Laws.BitsLemmas
import Derived.Laws.Externs
import Derived.Lib.AppendStr
import Derived.Lib.Builder
import Derived.Lib.ConvBytes
import Derived.Lib.Slices
import Derived.Lib.Strings
import Derived.Lib.UnsafeStr
import Derived.Lib.Walk
import Derived.Shelf.RegionOpenPlain
import Derived.Shelf.Strings.Builder1
import Derived.Shelf.Strings.BuilderF
import Derived.Shelf.Strings.BuilderK
import Derived.Shelf.Strings.Search1
import Derived.Test.YtcinnankefollaaGreatDoorProg
import Derived.WalkKit
import Derived.WalkLawsBesides
set_option linter.unusedVariables false
set_option linter.unusedSimpArgs false
section
namespace Go.Proofs.J.Print
open Go.RowKit Go.Proofs.PrintWords Go.Proofs.PrintLast Go.Proofs.PrintMore
def pedigreelaw01_SameCommit.f (k : Nat) (a0_0 : Int) (l0_1 : List (S90)) (l0_2 : List (S90)) (a1_0 : Int) (l1_1 : List (S90)) (l1_2 : List (S90)) : Option (Bool) := if a0_0 = a1_0 then ((pedigreelaw01_SameFacts.f k l0_1 l1_1).bind fun t197 => (if t197 = true then ((pedigreelaw01_SameFacts.f k l0_2 l1_2).bind fun t198 => (some t198)) else (some false))) else (some false)
set_option maxHeartbeats 8000000 in
set_option maxRecDepth 100000 in
theorem pedigreelaw01_SameCommit.calls (k : Nat) (a0_0 : Int) (A0_1 : Option Addr) (c0_1 : Nat) (l0_1 : List (S90)) (A0_2 : Option Addr) (c0_2 : Nat) (l0_2 : List (S90)) (a1_0 : Int) (A1_1 : Option Addr) (c1_1 : Nat) (l1_1 : List (S90)) (A1_2 : Option Addr) (c1_2 : Nat) (l1_2 : List (S90)) (r : Bool) (w : World) (hr0_1 : Kd.C k90 w A0_1 l0_1.length l0_1) (hc0_1 : l0_1.length ≤ c0_1) (hr0_2 : Kd.C k90 w A0_2 l0_2.length l0_2) (hc0_2 : l0_2.length ≤ c0_2) (hr1_1 : Kd.C k90 w A1_1 l1_1.length l1_1) (hc1_1 : l1_1.length ≤ c1_1) (hr1_2 : Kd.C k90 w A1_2 l1_2.length l1_2) (hc1_2 : l1_2.length ≤ c1_2) (h : pedigreelaw01_SameCommit.f k a0_0 l0_1 l0_2 a1_0 l1_1 l1_2 = some r) :
  Calls Tryz.prog 14 #[.agg #[.int .i64 a0_0, .slice A0_1 l0_1.length c0_1, .slice A0_2 l0_2.length c0_2], .agg #[.int .i64 a1_0, .slice A1_1 l1_1.length c1_1, .slice A1_2 l1_2.length c1_2]] w fun e w' => e = .returned (.bool r) ∧ Below w.heap.size w w' := by
 have hu24 := Tryz.underlying24
 have HR0_1 := Aside0.mk hr0_1
 have HC0_1 := Aside0.mk hc0_1
 clear hr0_1 hc0_1
 have HR0_2 := Aside0.mk hr0_2
 have HC0_2 := Aside0.mk hc0_2
 clear hr0_2 hc0_2
 have HR1_1 := Aside0.mk hr1_1
 have HC1_1 := Aside0.mk hc1_1
 clear hr1_1 hc1_1
 have HR1_2 := Aside0.mk hr1_2
 have HC1_2 := Aside0.mk hc1_2
 clear hr1_2 hc1_2
 have HB := Aside0.mk (Below.refl w.heap.size w)
 have H : (if a0_0 = a1_0 then ((pedigreelaw01_SameFacts.f k l0_1 l1_1).bind fun t197 => (if t197 = true then ((pedigreelaw01_SameFacts.f k l0_2 l1_2).bind fun t198 => (some t198)) else (some false))) else (some false)) = some r := h
 clear h
 by_cases c3 : a0_0 = a1_0
 focus
  rw [if_pos c3] at H
  have c3b0 : (a0_0 == a1_0) = true := beq_iff_eq.mpr c3
  have c3b1 : (a0_0 != a1_0) = false := bne_eq_false_iff_eq.mpr c3
  clear c3
  replace H := Option.bind_eq_some_iff.mp H
  obtain ⟨t197, A40, H⟩ := H
  replace H : (if t197 = true then ((pedigreelaw01_SameFacts.f k l0_2 l1_2).bind fun t198 => (some t198)) else (some false)) = some r := H
  have A4 := Aside0.mk A40
  clear A40
  by_cases c5 : t197 = true
  focus
   subst c5
   have H1 : ((pedigreelaw01_SameFacts.f k l0_2 l1_2).bind fun t198 => (some t198)) = some r := by rw [if_pos rfl] at H; exact H
   clear H
   have H := H1
   clear H1
   replace H := Option.bind_eq_some_iff.mp H
   obtain ⟨t198, A60, H⟩ := H
   replace H : (some t198) = some r := H
   have A6 := Aside0.mk A60
   clear A60
   obtain rfl := Option.some.inj H
  rotate_right
  focus
   replace c5 := Bool.eq_false_iff.mpr c5
   subst c5
   have H1 : (some false) = some r := by rw [if_neg (show ¬ (false = true) by decide)] at H; exact H
   clear H
   have H := H1
   clear H1
   obtain rfl := Option.some.inj H
 rotate_right
 focus
  rw [if_neg c3] at H
  have c3b0 : (a0_0 == a1_0) = false := beq_eq_false_iff_ne.mpr c3
  have c3b1 : (a0_0 != a1_0) = true := bne_iff_ne.mpr c3
  obtain rfl := Option.some.inj H
 all_goals (go_enter Tryz.func14, Tryz.ntmps14; go_wp2_with (first | ((with_reducible refine gate_dst (N := 2) rfl ?_); refine boxS 2 #[.int .i64 a0_0, .slice A0_1 l0_1.length c0_1, .slice A0_2 l0_2.length c0_2] 24 ?_; intro gb195 hg wq1 hbox hb; have n0_ := Aside0.mk (below_step (upB HB.out) hb); have n1_ := Aside0.mk (hbox); have n2_ := Aside0.mk (geB hg (upB HB.out) : w.heap.size ≤ gb195); have n3_ := Aside0.mk (geB hg (upB HB.out) : w.heap.size ≤ gb195); clear HB; have HB := n0_; have BK195 := n1_; have GW195 := n2_; have GE195 := n3_; clear n0_ n1_ n2_ n3_; clear hb hbox hg) | ((with_reducible refine gate_dst (N := 3) rfl ?_); refine boxS 3 #[.int .i64 a1_0, .slice A1_1 l1_1.length c1_1, .slice A1_2 l1_2.length c1_2] 24 ?_; intro gb196 hg wq2 hbox hb; have n0_ := Aside0.mk (blk_below (g := gb195) (o := .cells #[.int .i64 a0_0, .slice A0_1 l0_1.length c0_1, .slice A0_2 l0_2.length c0_2] 24 (0, 0)) (upO BK195.out) hb); have n1_ := Aside0.mk (below_step (upB HB.out) hb); have n2_ := Aside0.mk (hbox); have n3_ := Aside0.mk (geB hg (upB HB.out) : w.heap.size ≤ gb196); have n4_ := Aside0.mk (geB hg (upB HB.out) : w.heap.size ≤ gb196); have n5_ := Aside0.mk ((by rw [hg]; exact Nat.ne_of_lt (blk_lt (g := gb195) (o := .cells #[.int .i64 a0_0, .slice A0_1 l0_1.length c0_1, .slice A0_2 l0_2.length c0_2] 24 (0, 0)) (upO BK195.out)) : gb195 ≠ gb196)); have n6_ := Aside0.mk ((by rw [hg]; exact Nat.ne_of_gt (blk_lt (g := gb195) (o := .cells #[.int .i64 a0_0, .slice A0_1 l0_1.length c0_1, .slice A0_2 l0_2.length c0_2] 24 (0, 0)) (upO BK195.out)) : gb196 ≠ gb195)); clear BK195; clear HB; have BK195 := n0_; have HB := n1_; have BK196 := n2_; have GW196 := n3_; have GE196 := n4_; have NB195_196 := n5_; have NB196_195 := n6_; clear n0_ n1_ n2_ n3_ n4_ n5_ n6_; clear hb hbox hg; have hnbq1 := NB195_196.out; have hncq1 := NB196_195.out; have hczq1_0 : wq2.cell? ⟨gb195, 0, none⟩ = some (.int .i64 a0_0) := (blk_cell BK195.out 0).trans rfl; have hczq1_1 : wq2.cell? ⟨gb195, 1, none⟩ = some (.slice A0_1 l0_1.length c0_1) := (blk_cell BK195.out 1).trans rfl; have hczq1_2 : wq2.cell? ⟨gb195, 2, none⟩ = some (.slice A0_2 l0_2.length c0_2) := (blk_cell BK195.out 2).trans rfl; have hfzq1_0 := blk_frozen BK195.out 0; have hfzq1_1 := blk_frozen BK195.out 1; have hfzq1_2 := blk_frozen BK195.out 2; have hczq2_0 : wq2.cell? ⟨gb196, 0, none⟩ = some (.int .i64 a1_0) := (blk_cell BK196.out 0).trans rfl; have hczq2_1 : wq2.cell? ⟨gb196, 1, none⟩ = some (.slice A1_1 l1_1.length c1_1) := (blk_cell BK196.out 1).trans rfl; have hczq2_2 : wq2.cell? ⟨gb196, 2, none⟩ = some (.slice A1_2 l1_2.length c1_2) := (blk_cell BK196.out 2).trans rfl; have hfzq2_0 := blk_frozen BK196.out 0; have hfzq2_1 := blk_frozen BK196.out 1; have hfzq2_2 := blk_frozen BK196.out 2) | (go_at_call 39; (with_reducible refine (pedigreelaw01_SameFacts.calls k _ _ l0_1 _ _ l1_1 true _ ?side1 ?side2 ?side3 ?side4 A4.out).mono ?_); (case side1 => exact upC (Kd.C_below HR0_1.out HB.out)); (case side2 => exact HC0_1.out); (case side3 => exact upC (Kd.C_below HR1_1.out HB.out)); (case side4 => exact HC1_1.out); rintro e wq3 ⟨rfl, hb⟩; have n0_ := Aside0.mk (blk_below (g := gb195) (o := .cells #[.int .i64 a0_0, .slice A0_1 l0_1.length c0_1, .slice A0_2 l0_2.length c0_2] 24 (0, 0)) (upO BK195.out) hb); have n1_ := Aside0.mk (blk_below (g := gb196) (o := .cells #[.int .i64 a1_0, .slice A1_1 l1_1.length c1_1, .slice A1_2 l1_2.length c1_2] 24 (0, 0)) (upO BK196.out) hb); have n2_ := Aside0.mk (below_step (upB HB.out) hb); clear BK195; clear BK196; clear HB; have BK195 := n0_; have BK196 := n1_; have HB := n2_; clear n0_ n1_ n2_; (try clear hb); (try clear hb2); (try clear hk); (try clear hi); have hczq3_0 : wq3.cell? ⟨gb195, 0, none⟩ = some (.int .i64 a0_0) := (blk_cell BK195.out 0).trans rfl; have hczq3_1 : wq3.cell? ⟨gb195, 1, none⟩ = some (.slice A0_1 l0_1.length c0_1) := (blk_cell BK195.out 1).trans rfl; have hczq3_2 : wq3.cell? ⟨gb195, 2, none⟩ = some (.slice A0_2 l0_2.length c0_2) := (blk_cell BK195.out 2).trans rfl; have hfzq3_0 := blk_frozen BK195.out 0; have hfzq3_1 := blk_frozen BK195.out 1; have hfzq3_2 := blk_frozen BK195.out 2; have hczq4_0 : wq3.cell? ⟨gb196, 0, none⟩ = some (.int .i64 a1_0) := (blk_cell BK196.out 0).trans rfl; have hczq4_1 : wq3.cell? ⟨gb196, 1, none⟩ = some (.slice A1_1 l1_1.length c1_1) := (blk_cell BK196.out 1).trans rfl; have hczq4_2 : wq3.cell? ⟨gb196, 2, none⟩ = some (.slice A1_2 l1_2.length c1_2) := (blk_cell BK196.out 2).trans rfl; have hfzq4_0 := blk_frozen BK196.out 0; have hfzq4_1 := blk_frozen BK196.out 1; have hfzq4_2 := blk_frozen BK196.out 2) | (go_at_call 39; (with_reducible refine (pedigreelaw01_SameFacts.calls k _ _ l0_2 _ _ l1_2 t198 _ ?side1 ?side2 ?side3 ?side4 A6.out).mono ?_); (case side1 => exact upC (Kd.C_below HR0_2.out HB.out)); (case side2 => exact HC0_2.out); (case side3 => exact upC (Kd.C_below HR1_2.out HB.out)); (case side4 => exact HC1_2.out); rintro e wq4 ⟨rfl, hb⟩; have n0_ := Aside0.mk (blk_below (g := gb195) (o := .cells #[.int .i64 a0_0, .slice A0_1 l0_1.length c0_1, .slice A0_2 l0_2.length c0_2] 24 (0, 0)) (upO BK195.out) hb); have n1_ := Aside0.mk (blk_below (g := gb196) (o := .cells #[.int .i64 a1_0, .slice A1_1 l1_1.length c1_1, .slice A1_2 l1_2.length c1_2] 24 (0, 0)) (upO BK196.out) hb); have n2_ := Aside0.mk (below_step (upB HB.out) hb); clear BK195; clear BK196; clear HB; have BK195 := n0_; have BK196 := n1_; have HB := n2_; clear n0_ n1_ n2_; (try clear hb); (try clear hb2); (try clear hk); (try clear hi)) | (go_at_call 39; (with_reducible refine (pedigreelaw01_SameFacts.calls k _ _ l0_1 _ _ l1_1 false _ ?side1 ?side2 ?side3 ?side4 A4.out).mono ?_); (case side1 => exact upC (Kd.C_below HR0_1.out HB.out)); (case side2 => exact HC0_1.out); (case side3 => exact upC (Kd.C_below HR1_1.out HB.out)); (case side4 => exact HC1_1.out); rintro e wq3 ⟨rfl, hb⟩; have n0_ := Aside0.mk (blk_below (g := gb195) (o := .cells #[.int .i64 a0_0, .slice A0_1 l0_1.length c0_1, .slice A0_2 l0_2.length c0_2] 24 (0, 0)) (upO BK195.out) hb); have n1_ := Aside0.mk (blk_below (g := gb196) (o := .cells #[.int .i64 a1_0, .slice A1_1 l1_1.length c1_1, .slice A1_2 l1_2.length c1_2] 24 (0, 0)) (upO BK196.out) hb); have n2_ := Aside0.mk (below_step (upB HB.out) hb); clear BK195; clear BK196; clear HB; have BK195 := n0_; have BK196 := n1_; have HB := n2_; clear n0_ n1_ n2_; (try clear hb); (try clear hb2); (try clear hk); (try clear hi))); first | (go_ret; exact ⟨eqE, upB HB.out⟩))
end Go.Proofs.J.Print
end
section
namespace Go.Proofs.J
open Go.RowKit Go.Proofs.PrintWords Go.Proofs.PrintLast Go.Proofs.PrintMore
section
variable {P : Program} {ops : Array Oper} {rest : List Oper} {o : Oper} {a : Act} {Q : Exit → Act → World → Prop} {W : World}
theorem gate_tmp (t : Tmp) {az : Array Operand} {ts : Array TypeId} (_ho : o.op = .call { callee := .value (.tmp t), args := az, argTypes := ts }) (h : wpList P ops Q (o :: rest) a W) : wpList P ops Q (o :: rest) a W := h
theorem goesT_ {rest : List Oper} {oi : Oper} {a : Act} {w : World} (N : Option Tmp) (t : Tmp) (hd : oi.dst = N) (hg : oi.guard = none) {f : FuncId} {fn : Func} {az : Array Operand} {ts : Array TypeId} (hf : P.funcs[f]? = some fn) (hname : (fn.name == "runtime.NumGoroutine") = false) (hb : fn.body.isSome = true) (args : Array Value)
    (hop : oi.op = .call { callee := .value (.tmp t), args := az, argTypes := ts }) (ht : a.eval (.tmp t) = .func (.func f) #[] #[]) (hargs : az.map a.eval = args)
    (h : Calls P f args w fun e w' => ∃ v, e = .returned v ∧ wpList P ops Q rest (a.put N v) w') : wpList P ops Q (oi :: rest) a w := by
  refine wpList_plain hg fun K hK => ?_
  have he := enters_ hf hname hb args w
  have hrun : (execOp a.eval oi).run P w = .ok (.enter f args) w := by
    unfold execOp
    simp [hop, resolve, Deferred.ofValue, invoke, ht, hargs, he]
  unfold Oper.wp
  rw [hrun, Oper.upon_enter]
  refine h.mono fun e w'' hh => ?_
  obtain ⟨v, rfl, hk⟩ := hh
  subst hd
  exact hK _ _ hk
end
end Go.Proofs.J
namespace Go.Proofs.J
open Go.RowKit Go.Proofs.PrintWords Go.Proofs.PrintLast Go.Proofs.PrintMore
theorem str_block {P : Program} {w w' : World} (base : Nat) (t u ty e : TypeId) (i : TypeInfo) (ht : P.underlying t = some (.slice e)) (hu : P.underlying u = some .string) (hi : P.info? e = some i) (hz : i.zero = some (.int .u8 0))
    (hsize : i.size = 1) (hby : i.bytes = 1) (v v' : Value) (n : Nat) (xs : List Value) (hown : w.ownsRow base e 1 v n xs) (s : ByteArray) (hbytes : n + s.size ≤ 140737488355328)
    (hr : (Builtin.append_ #[t, u] ty #[v, .string s]).run P w = .ok v' w') (hnil : v' = .slice none 0 0 ↔ v = .slice none 0 0 ∧ s.size = 0) :
    v'.ownBlock = v.ownBlock ∨ ∃ b, v'.ownBlock = some b ∧ w.heap.size ≤ b := by
  have hxl : xs.length = n := by simpa using hown.1
  rcases hown.2 with ⟨rfl, rfl⟩ | ⟨g, cap, cur, rfl, hbg, hg, hnc, hcm, hcs, htake⟩
  · by_cases hm : s.size = 0
    · exact .inl (by rw [hnil.2 ⟨rfl, hm⟩])
    · have hr2 := run_append_nil_string (P := P) w t u ty e i (.int .u8 0) ht hu hi hz s (by omega) (by omega) (by rw [hby]; omega)
      rw [hr2] at hr
      injection hr with hr _
      subst hr
      exact .inr ⟨_, rfl, Nat.le_refl _⟩
  · by_cases hroom : n + s.size ≤ cap
    · have hcs' : cur.size = cap := by simpa using hcs
      have hr2 := Lib.run_append_room_string (P := P) w t u ty e i ht hu hi hsize g n cap cur hg s hroom (by omega)
      rw [hr2] at hr
      injection hr with hr _
      subst hr
      exact .inl rfl
    · have holds : ∀ j u, xs[j]? = some u → w.cell? ((⟨g, 0, none⟩ : Addr).add j) = some u := hown.cells (g := g) rfl
      have hr2 := Lib.run_append_grow_string (P := P) w t u ty e i (.int .u8 0) ht hu hi hz ⟨g, 0, none⟩ n cap xs (by rw [hsize]; simpa using hxl) holds s (by omega) (by omega) (by rw [hby]; exact growslice_fits (by omega) (by omega))
      rw [hr2] at hr
      injection hr with hr _
      subst hr
      exact .inr ⟨_, rfl, Nat.le_refl _⟩
theorem print_append_str_step {P : Program} {ops : Array Oper} {o : Oper} {a : Act} {K : Act → World → Prop} {Q : Exit → Act → World → Prop} {w0 W : World} (base : Nat) (hw : Region.wanted o (yielded ops a.tmps) = true) (s x : Operand) (t u e : TypeId)
    (ho : o.op = .call { callee := .builtin .append, args := #[s, x], argTypes := #[t, u] })
    (ht : P.underlying t = some (.slice e)) (hu : P.underlying u = some .string) (hinfo : (P.info? e).map (fun i => (i.zero, i.size, i.bytes)) = some (some (.int .u8 0), 1, 1))
    (v : Value) (xs : List Int) (y : ByteArray) (hs : a.eval s = v) (hx : a.eval x = .string y)
    (HO : W.ownsRow base e 1 v xs.length (nums .u8 xs)) (HB : Below base w0 W) (hbase : base ≤ W.heap.size) (hl : xs.length + y.size ≤ 140737488355328)
    (h : ∀ v1 w1, w1.ownsRow base e 1 v1 (xs ++ bytesOf y).length (nums .u8 (xs ++ bytesOf y)) → Below base w0 w1 → W.grownBy w1 v.ownBlock → (v1.ownBlock = v.ownBlock ∨ ∃ b, v1.ownBlock = some b ∧ W.heap.size ≤ b) → K (a.put o.dst v1) w1) :
    if Region.wanted o (yielded ops a.tmps) = true then Oper.wp P o a W K Q else K (a.put o.dst undef) W := by
  obtain ⟨i0, hi, hzz⟩ := Option.map_eq_some_iff.1 hinfo
  simp only [Prod.mk.injEq] at hzz
  obtain ⟨hz0, hz1, hz2⟩ := hzz
  rw [if_pos hw]
  obtain ⟨v1, w1, hr, hown, hg, hnil⟩ := Lib.run_append_own_string (P := P) W base t u o.type e i0 ht hu hi hz0 hz1 hz2 v xs.length (nums .u8 xs) HO y (by simp only [maxLen]; omega) hl hbase
  have hl2 : (xs ++ bytesOf y).length = xs.length + y.size := by rw [List.length_append, bytesOf_length]
  have hc : nums .u8 (xs ++ bytesOf y) = nums .u8 xs ++ Lib.strCells y := by
    rw [nums_append]
    congr 1
    simp [nums, bytesOf, Lib.strCells]
  unfold Oper.wp execOp
  simp only [ho, resolve, invoke, builtin, Sem.run_bind, Sem.run_pure, Result.andThen_ok, List.map_toArray, List.map_cons, List.map_nil, hs, hx, hr]
  exact h v1 w1 (by rw [hl2, hc]; exact hown) (HB.grown hg hbase (own_base HO)) hg (str_block base t u o.type e i0 ht hu hi hz0 hz1 hz2 v v1 xs.length (nums .u8 xs) HO y hl hr hnil)
end Go.Proofs.J
end
section
namespace Go.Proofs.J
open Go.RowKit Go.Proofs.PrintWords Go.Proofs.PrintLast Go.Proofs.PrintMore
section
variable {P : Program} {ops : Array Oper} {Q : Exit → Act → World → Prop}
theorem goesB_ {rest : List Oper} {oi : Oper} {a : Act} {w : World} (N : Option Tmp) (hd : oi.dst = N) (hg : oi.guard = none) {f : FuncId} {fn : Func} {xs : Array Operand} {ts : Array TypeId} (hf : P.funcs[f]? = some fn) (hname : (fn.name == "runtime.NumGoroutine") = false) (hb : fn.body.isSome = true) (args : Array Value)
    (hop : oi.op = .call { callee := .value (.func f), args := xs, argTypes := ts }) (hargs : xs.map a.eval = args)
    (h : Calls P f args w fun e w' => ∃ ch, e = .panicked ch ∧ Q (.panic ch) a w') : wpList P ops Q (oi :: rest) a w := by
  refine wpList_plain hg fun K hK => ?_
  have he := enters_ hf hname hb args w
  have hrun : (execOp a.eval oi).run P w = .ok (.enter f args) w := by
    unfold execOp
    simp [hop, resolve, Deferred.ofValue, invoke, Act.eval, hargs, he]
  unfold Oper.wp
  rw [hrun, Oper.upon_enter]
  refine h.mono fun e w'' hh => ?_
  obtain ⟨ch, rfl, hk⟩ := hh
  exact hk
theorem goesR_ {oi : Oper} {N : Option Tmp} {a : Act} {w : World} {K : Act → World → Prop} {f : FuncId} {fn : Func} {xs : Array Operand} {ts : Array TypeId} (hf : P.funcs[f]? = some fn) (hname : (fn.name == "runtime.NumGoroutine") = false) (hb : fn.body.isSome = true) (args : Array Value)
    (hw : Region.wanted oi (yielded ops a.tmps) = true) (_hN : oi.dst = N) (hop : oi.op = .call { callee := .value (.func f), args := xs, argTypes := ts }) (hargs : xs.map a.eval = args)
    (h : Calls P f args w fun e w' => ∃ ch, e = .panicked ch ∧ Q (.panic ch) a w') : if Region.wanted oi (yielded ops a.tmps) = true then Oper.wp P oi a w K Q else K (a.put N undef) w := by
  rw [if_pos hw]
  have he := enters_ hf hname hb args w
  have hrun : (execOp a.eval oi).run P w = .ok (.enter f args) w := by
    unfold execOp
    simp [hop, resolve, Deferred.ofValue, invoke, Act.eval, hargs, he]
  unfold Oper.wp
  rw [hrun, Oper.upon_enter]
  refine h.mono fun e w'' hh => ?_
  obtain ⟨ch, rfl, hk⟩ := hh
  exact hk
theorem goesP {rest : List Oper} {oi : Oper} {a : Act} {w : World} (N : Option Tmp) {f : FuncId} {fn : Func} {xs : Array Operand} {ts : Array TypeId} (hf : P.funcs[f]? = some fn) (args : Array Value)
    (h : Calls P f args w fun e w' => ∃ ch, e = .panicked ch ∧ Q (.panic ch) a w')
    (hd : oi.dst = N := by rfl) (hg : oi.guard = none := by rfl) (hname : (fn.name == "runtime.NumGoroutine") = false := by kernel_rfl) (hb : fn.body.isSome = true := by rfl)
    (hop : oi.op = .call { callee := .value (.func f), args := xs, argTypes := ts } := by rfl)
    (hargs : xs.map a.eval = args := by (try simp only [List.map_toArray, List.map_cons, List.map_nil]); first | done | rfl | (simp only [List.length_drop, List.length_take]; rfl)) : wpList P ops Q (oi :: rest) a w :=
  goesB_ N hd hg hf hname hb args hop hargs h
def logChain : List PanicEntry := [{ v := .iface 128 (.agg #[.int .i64 290]), recovered := false }]
end
end Go.Proofs.J
end
section
namespace Go.Proofs.J.Print
open Go.RowKit Go.Proofs.PrintWords Go.Proofs.PrintLast Go.Proofs.PrintMore
def IsS103 (w0 W : World) (g : Nat) (f0 : ByteArray) : Prop := W.heap[g]? = some (.cells #[.string f0] 103 (0, 0)) ∧ w0.heap.size ≤ g
theorem IsS103.grown {w0 W : World} {g : Nat} {f0 : ByteArray} {W1 : World} {row : Option Nat} (h : IsS103 w0 W g f0) (hw : W.grownBy W1 row) (hne : some g ≠ row) : IsS103 w0 W1 g f0 := by
 obtain ⟨hb, hg⟩ := h
 exact ⟨blk_grown hb hw hne, hg⟩
theorem IsS103.below {w0 W : World} {g : Nat} {f0 : ByteArray} {W1 : World} (h : IsS103 w0 W g f0) (hw : Below W.heap.size W W1) : IsS103 w0 W1 g f0 := h.grown (grown_of_below hw none) (by simp)
theorem IsS103.drewN {w0 W : World} {g : Nat} {f0 : ByteArray} (h : IsS103 w0 W g f0) (m : Nat) : IsS103 w0 (W.drewN m) g f0 := h
theorem IsS103.drew {w0 W : World} {g : Nat} {f0 : ByteArray} (h : IsS103 w0 W g f0) : IsS103 w0 W.drew g f0 := h
theorem IsS103.apart {w0 W : World} {g : Nat} {f0 : ByteArray} {α : Type} {d : Kd α} {e : Nat} {base : Nat} {ok : Nat → Prop} {v : Value} {xs : List α} (h : IsS103 w0 W g f0) (ho : d.R e W base ok v xs) (ht : ∀ q, q ∈ e :: d.E → q ≠ 103) : d.R e W base (fun k => ok k ∧ k ≠ g) v xs := by
 obtain ⟨hb, hg⟩ := h
 exact Kd.R_types ho hb ht
theorem IsS103.own_ne {w0 W : World} {g : Nat} {f0 : ByteArray} {α : Type} {d : Kd α} {e : Nat} {base : Nat} {ok : Nat → Prop} {v : Value} {xs : List α} (h : IsS103 w0 W g f0) (ho : d.R e W base ok v xs) (ht : e ≠ 103) : some g ≠ v.ownBlock := by
 obtain ⟨hb, hg⟩ := h
 exact Kd.R_ne ho hb ht
theorem IsS103.apartS {w0 W : World} {g : Nat} {f0 : ByteArray} {α : Type} {d : Kd α} {e : Nat} {base : Nat} {ok : Nat → Prop} {v : Value} {xs : List α} (h : IsS103 w0 W g f0) (ho : d.S e W base ok v xs) (ht : ∀ q, q ∈ e :: d.E → q ≠ 103) : d.S e W base (fun k => ok k ∧ k ≠ g) v xs := by
 obtain ⟨hb, hg⟩ := h
 exact Kd.S_types ho hb ht
theorem IsS103.own_neS {w0 W : World} {g : Nat} {f0 : ByteArray} {α : Type} {d : Kd α} {e : Nat} {base : Nat} {ok : Nat → Prop} {v : Value} {xs : List α} (h : IsS103 w0 W g f0) (ho : d.S e W base ok v xs) (ht : e ≠ 103) : some g ≠ v.ownBlock := by
 obtain ⟨hb, hg⟩ := h
 exact Kd.S_ne ho hb ht
theorem IsS103.lt {w0 W : World} {g : Nat} {f0 : ByteArray} (h : IsS103 w0 W g f0) : g < W.heap.size := by
 obtain ⟨hb, hg⟩ := h
 exact blk_lt hb
theorem IsS103.ge {w0 W : World} {g : Nat} {f0 : ByteArray} (h : IsS103 w0 W g f0) : w0.heap.size ≤ g := by
 obtain ⟨hb, hg⟩ := h
 exact hg
theorem IsS103.far {w0 W : World} {g : Nat} {f0 : ByteArray} {p : Addr} (h : IsS103 w0 W g f0) (hne : g ≠ p.block) (u : Value) : IsS103 w0 (W.setCell p u) g f0 := by
 obtain ⟨hb, hg⟩ := h
 exact ⟨blk_far hb hne u, hg⟩
theorem cellS103_0 {W : World} {g : Nat} {f0 : ByteArray} (h : W.heap[g]? = some (.cells #[.string f0] 103 (0, 0))) : W.cell? ⟨g, 0, none⟩ = some (.string f0) := (blk_cell h 0).trans rfl
theorem IsS103.set_0 {w0 W : World} {g : Nat} {f0 : ByteArray} (h : IsS103 w0 W g f0) (x : ByteArray) : IsS103 w0 (W.setCell ⟨g, 0, none⟩ (.string x)) g x := by
 obtain ⟨hb, hg⟩ := h
 exact ⟨by simpa using blk_set hb 0 (.string x), hg⟩
theorem upI {w0 w w1 : World} {g : Nat} {s s1 : ByteArray} (h : IsS103 w0 w g s) (hx : IsS103 w0 w g s → IsS103 w0 w1 g s1 := by (intro h_; repeat (first | (with_reducible first | exact h_ | apply IsS103.alloc | apply IsS103.drewN | apply IsS103.drew | apply IsS103.set_0 | refine IsS103.far ?_ (Aside0.out ‹_›) _) | exact h_))) : IsS103 w0 w1 g s1 := hx h
def journal_reader_take.f (s0_0 : ByteArray) (a1 : Int) : Option (ByteArray × ByteArray) := if a1 > (s0_0.size : Int) then (none) else (if 0 ≤ a1 then (if a1 ≤ (s0_0.size : Int) then (some (s0_0.extract 0 (a1 : Int).toNat, s0_0.extract (a1 : Int).toNat s0_0.size)) else (none)) else (none))
set_option maxHeartbeats 8000000 in
set_option maxRecDepth 100000 in
theorem journal_reader_take.calls (g : Nat) (s0_0 : ByteArray) (a1 : Int) (r1 : ByteArray) (r2 : ByteArray) (w0 w : World) (hI : IsS103 w0 w g s0_0) (hB : Below w0.heap.size w0 w) (h : journal_reader_take.f s0_0 a1 = some (r1, r2)) :
  Calls Tryz.prog 93 #[.pointer (some ⟨g, 0, none⟩), .int .i64 a1] w fun e w' => e = .returned (.string r1) ∧ IsS103 w0 w' g r2 ∧ Below w0.heap.size w0 w' ∧ KeepBut w w' g none := by
 have hu128 := Tryz.underlying128
 have HI0 := Aside0.mk hI
 have HK := Aside0.mk (KeepBut.refl w g none)
 have HL := Aside0.mk hB.size
 clear hI
 have HW0 := Aside0.mk hB.size
 have HB := Aside0.mk hB
 clear hB
 have H : (if a1 > (s0_0.size : Int) then (none) else (if 0 ≤ a1 then (if a1 ≤ (s0_0.size : Int) then (some (s0_0.extract 0 (a1 : Int).toNat, s0_0.extract (a1 : Int).toNat s0_0.size)) else (none)) else (none))) = some (r1, r2) := h
 clear h
 by_cases c3 : a1 > (s0_0.size : Int)
 ·rw [if_pos c3] at H
  exact absurd H (by simp)
 ·rw [if_neg c3] at H
  have c3b0 := decide_eq_false c3
  clear c3
  by_cases c4 : 0 ≤ a1
  ·rw [if_pos c4] at H
   have c4b0 := eq_true c4
   have c4b1 := decide_eq_true c4
   clear c4
   by_cases c5 : a1 ≤ (s0_0.size : Int)
   ·rw [if_pos c5] at H
    have c5b0 := eq_true c5
    have c5b1 := decide_eq_true c5
    clear c5
    have c6b0 := eq_true (of_decide_eq_true byA : 0 ≤ a1)
    have c7b0 := eq_true (of_decide_eq_true byA : a1 ≤ (s0_0.size : Int))
    simp only [Option.some.injEq, Prod.mk.injEq] at H
    obtain ⟨rfl, rfl⟩ := H
    obtain ⟨HGz8, hgz8⟩ := HI0.out
    have hcz8_0 := cellS103_0 HGz8
    have hfz8_0 := blk_frozen HGz8 0
    clear HGz8 hgz8
    go_enter Tryz.func93, Tryz.ntmps93
    go_wp2
    go_ret
    exact ⟨eqE, upI HI0.out, upB HB.out, upK HK.out⟩
   ·rw [if_neg c5] at H
    exact absurd H (by simp)
  ·rw [if_neg c4] at H
   exact absurd H (by simp)
end Go.Proofs.J.Print
end
section
namespace Go.Proofs.J.Print
open Go.RowKit Go.Proofs.PrintWords Go.Proofs.PrintLast Go.Proofs.PrintMore
def journal_get_uint32.l0 : Nat → ByteArray → Int → Int → Int → Option (Int)
 | 0, _, _, _, _ => none
 | k + 1, x0, x5, x7, x8 => if x8 < x7 then (if 0 ≤ x8 then (if x8 < (x0.size : Int) then (if 0 ≤ (wrap64 (8 * x8)) then (journal_get_uint32.l0 k x0 (Go.bits .or .u64 x5 (shl .u64 (IntKind.u64.wrap (bt x0 x8)) (wrap64 (8 * x8)))) x7 (wrap64 (x8 + 1))) else (none)) else (none)) else (none)) else (some ((x5) % 4294967296))
def journal_get_uint32.f (k : Nat) (a0 : ByteArray) (a1 : Int) : Option (Int) := journal_get_uint32.l0 k a0 0 a1 0
set_option maxHeartbeats 8000000 in
set_option maxRecDepth 100000 in
theorem journal_get_uint32.calls (k : Nat) (a0 : ByteArray) (a1 : Int) (r : Int) (w : World) (h : journal_get_uint32.f k a0 a1 = some r) :
  Calls Tryz.prog 214 #[.string a0, .int .i64 a1] w fun e w' => e = .returned (.int .u32 r) ∧ Drawn0 w w' := by
 have H : (journal_get_uint32.l0 k a0 0 a1 0) = some r := h
 clear h
 have H' := Aside0.mk H
 clear H
 go_enter Tryz.func214, Tryz.ntmps214
 go_wp2
 go_loopg [5, 8] k (fun kq v5 v8 w' => ∃ (x5_1 : Int) (x8_1 : Int), v5 = .int .u64 x5_1 ∧ v8 = .int .i64 x8_1 ∧ Aside0 (journal_get_uint32.l0 kq a0 x5_1 a1 x8_1 = some r) ∧ Aside0 (kq ≤ k) ∧ Drawn0 w w')
 case atStart => exact ⟨(0), (0), eqS, eqS, H', ⟨Nat.le_refl _⟩, by repeat (first | exact Drawn0.refl _ | apply Drawn0.step)⟩
 case round =>
  clear H'
  try clear c2
  try clear p2
  obtain ⟨x5_1, x8_1, rfl, rfl, HA, HK1, ⟨m1, rfl⟩⟩ := hrel
  cases gk with
  | zero => exact absurd HA.out (by simp [journal_get_uint32.l0])
  | succ k1 =>
   have H := HA.out
   clear HA
   simp only [journal_get_uint32.l0] at H
   by_cases c3 : x8_1 < a1
   ·rw [if_pos c3] at H
    have c3b0 := decide_eq_true c3
    clear c3
    by_cases c4 : 0 ≤ x8_1
    ·rw [if_pos c4] at H
     have c4b0 := decide_eq_true c4
     clear c4
     by_cases c5 : x8_1 < (a0.size : Int)
     ·rw [if_pos c5] at H
      have c5b0 := decide_eq_true c5
      clear c5
      obtain ⟨ji7, hji7⟩ : ∃ j_ : Int, (wrap64 (8 * x8_1)) = j_ := ⟨_, rfl⟩
      replace H : (if 0 ≤ (ji7) then (journal_get_uint32.l0 k1 a0 (Go.bits .or .u64 x5_1 (shl .u64 (IntKind.u64.wrap (bt a0 x8_1)) (ji7))) a1 (wrap64 (x8_1 + 1))) else (none)) = some r := by first | (rw [hji7] at H; exact H) | (simp only [hji7] at H ⊢; exact H)
      have hji7w : (IntKind.i64.wrap (8 * x8_1)) = ji7 := (i64_w _).trans hji7
      by_cases c8 : 0 ≤ (ji7)
      ·rw [if_pos c8] at H
       have c8b0 := eq_true c8
       have c8b1 := decide_eq_true c8
       clear c8
       obtain ⟨ji9, hji9⟩ : ∃ j_ : Int, (shl .u64 (IntKind.u64.wrap (bt a0 x8_1)) (ji7)) = j_ := ⟨_, rfl⟩
       replace H : (journal_get_uint32.l0 k1 a0 (Go.bits .or .u64 x5_1 (ji9)) a1 (wrap64 (x8_1 + 1))) = some r := by first | (rw [hji9] at H; exact H) | (simp only [hji9] at H ⊢; exact H)
       have hji9_ : (IntKind.u64.wrap ((IntKind.u64.wrap (bt a0 x8_1)) * 2 ^ min (ji7).toNat 64)) = ji9 := hji9
       have hji9z : (ji7) ≤ 64 → (IntKind.u64.wrap ((IntKind.u64.wrap (bt a0 x8_1)) * 2 ^ (ji7).toNat)) = ji9 := shl_small hji9
       have H' := Aside0.mk H
       clear H
       have p6 : 0 ≤ (x8_1 : Int) := of_decide_eq_true byA
       have q6 : x8_1 < (a0.size : Int) := of_decide_eq_true byA
       have hx6 := bt_at a0 x8_1
       replace p6 := eq_true p6
       replace q6 := eq_true q6
       go_wp2
       go_roundg k1
       case measure => have := HK1.out; omega
       case rel => exact ⟨(Go.bits .or .u64 x5_1 (ji9)), (wrap64 (x8_1 + 1)), (by first | rfl | (simp; done) | (simp only [← hji9] <;> (first | rfl | simp)) | (simp [*]; done)), eqS, H', ⟨by have := HK1.out; omega⟩, by repeat (first | exact Drawn0.refl _ | apply Drawn0.step)⟩
      ·rw [if_neg c8] at H
       exact absurd H (by simp)
     ·rw [if_neg c5] at H
      exact absurd H (by simp)
    ·rw [if_neg c4] at H
     exact absurd H (by simp)
   ·rw [if_neg c3] at H
    have c3b0 := decide_eq_false c3
    clear c3
    obtain rfl := Option.some.inj H
    go_wp2
    go_ret
    exact ⟨eqS, by repeat (first | exact Drawn0.refl _ | apply Drawn0.step)⟩
end Go.Proofs.J.Print
end
section
namespace Go.Proofs.J.Print
open Go.RowKit Go.Proofs.PrintWords Go.Proofs.PrintLast Go.Proofs.PrintMore
def journal_get_uint16.l0 : Nat → ByteArray → Int → Int → Int → Option (Int)
 | 0, _, _, _, _ => none
 | k + 1, x0, x5, x7, x8 => if x8 < x7 then (if 0 ≤ x8 then (if x8 < (x0.size : Int) then (if 0 ≤ (wrap64 (8 * x8)) then (journal_get_uint16.l0 k x0 (Go.bits .or .u64 x5 (shl .u64 (IntKind.u64.wrap (bt x0 x8)) (wrap64 (8 * x8)))) x7 (wrap64 (x8 + 1))) else (none)) else (none)) else (none)) else (some (IntKind.u16.wrap (x5)))
def journal_get_uint16.f (k : Nat) (a0 : ByteArray) (a1 : Int) : Option (Int) := journal_get_uint16.l0 k a0 0 a1 0
set_option maxHeartbeats 8000000 in
set_option maxRecDepth 100000 in
theorem journal_get_uint16.calls (k : Nat) (a0 : ByteArray) (a1 : Int) (r : Int) (w : World) (h : journal_get_uint16.f k a0 a1 = some r) :
  Calls Tryz.prog 215 #[.string a0, .int .i64 a1] w fun e w' => e = .returned (.int .u16 r) ∧ Drawn0 w w' := by
 have H : (journal_get_uint16.l0 k a0 0 a1 0) = some r := h
 clear h
 have H' := Aside0.mk H
 clear H
 go_enter Tryz.func215, Tryz.ntmps215
 go_wp2
 go_loopg [5, 8] k (fun kq v5 v8 w' => ∃ (x5_1 : Int) (x8_1 : Int), v5 = .int .u64 x5_1 ∧ v8 = .int .i64 x8_1 ∧ Aside0 (journal_get_uint16.l0 kq a0 x5_1 a1 x8_1 = some r) ∧ Aside0 (kq ≤ k) ∧ Drawn0 w w')
 case atStart => exact ⟨(0), (0), eqS, eqS, H', ⟨Nat.le_refl _⟩, by repeat (first | exact Drawn0.refl _ | apply Drawn0.step)⟩
 case round =>
  clear H'
  try clear c2
  try clear p2
  obtain ⟨x5_1, x8_1, rfl, rfl, HA, HK1, ⟨m1, rfl⟩⟩ := hrel
  cases gk with
  | zero => exact absurd HA.out (by simp [journal_get_uint16.l0])
  | succ k1 =>
   have H := HA.out
   clear HA
   simp only [journal_get_uint16.l0] at H
   by_cases c3 : x8_1 < a1
   ·rw [if_pos c3] at H
    have c3b0 := decide_eq_true c3
    clear c3
    by_cases c4 : 0 ≤ x8_1
    ·rw [if_pos c4] at H
     have c4b0 := decide_eq_true c4
     clear c4
     by_cases c5 : x8_1 < (a0.size : Int)
     ·rw [if_pos c5] at H
      have c5b0 := decide_eq_true c5
      clear c5
      obtain ⟨ji7, hji7⟩ : ∃ j_ : Int, (wrap64 (8 * x8_1)) = j_ := ⟨_, rfl⟩
      replace H : (if 0 ≤ (ji7) then (journal_get_uint16.l0 k1 a0 (Go.bits .or .u64 x5_1 (shl .u64 (IntKind.u64.wrap (bt a0 x8_1)) (ji7))) a1 (wrap64 (x8_1 + 1))) else (none)) = some r := by first | (rw [hji7] at H; exact H) | (simp only [hji7] at H ⊢; exact H)
      have hji7w : (IntKind.i64.wrap (8 * x8_1)) = ji7 := (i64_w _).trans hji7
      by_cases c8 : 0 ≤ (ji7)
      ·rw [if_pos c8] at H
       have c8b0 := eq_true c8
       have c8b1 := decide_eq_true c8
       clear c8
       obtain ⟨ji9, hji9⟩ : ∃ j_ : Int, (shl .u64 (IntKind.u64.wrap (bt a0 x8_1)) (ji7)) = j_ := ⟨_, rfl⟩
       replace H : (journal_get_uint16.l0 k1 a0 (Go.bits .or .u64 x5_1 (ji9)) a1 (wrap64 (x8_1 + 1))) = some r := by first | (rw [hji9] at H; exact H) | (simp only [hji9] at H ⊢; exact H)
       have hji9_ : (IntKind.u64.wrap ((IntKind.u64.wrap (bt a0 x8_1)) * 2 ^ min (ji7).toNat 64)) = ji9 := hji9
       have hji9z : (ji7) ≤ 64 → (IntKind.u64.wrap ((IntKind.u64.wrap (bt a0 x8_1)) * 2 ^ (ji7).toNat)) = ji9 := shl_small hji9
       have H' := Aside0.mk H
       clear H
       have p6 : 0 ≤ (x8_1 : Int) := of_decide_eq_true byA
       have q6 : x8_1 < (a0.size : Int) := of_decide_eq_true byA
       have hx6 := bt_at a0 x8_1
       replace p6 := eq_true p6
       replace q6 := eq_true q6
       go_wp2
       go_roundg k1
       case measure => have := HK1.out; omega
       case rel => exact ⟨(Go.bits .or .u64 x5_1 (ji9)), (wrap64 (x8_1 + 1)), (by first | rfl | (simp; done) | (simp only [← hji9] <;> (first | rfl | simp)) | (simp [*]; done)), eqS, H', ⟨by have := HK1.out; omega⟩, by repeat (first | exact Drawn0.refl _ | apply Drawn0.step)⟩
      ·rw [if_neg c8] at H
       exact absurd H (by simp)
     ·rw [if_neg c5] at H
      exact absurd H (by simp)
    ·rw [if_neg c4] at H
     exact absurd H (by simp)
   ·rw [if_neg c3] at H
    have c3b0 := decide_eq_false c3
    clear c3
    obtain rfl := Option.some.inj H
    go_wp2
    go_ret
    exact ⟨eqS, by repeat (first | exact Drawn0.refl _ | apply Drawn0.step)⟩
end Go.Proofs.J.Print
end
section
namespace Go.Proofs.J.Print
open Go.RowKit Go.Proofs.PrintWords Go.Proofs.PrintLast Go.Proofs.PrintMore
mutual
def journal_Sum.l0 : Nat → ByteArray → Int → Int → Int → Option (Int)
 | 0, _, _, _, _ => none
 | k + 1, x0, x3, x7, x8 => if x8 < x7 then (if 0 ≤ x8 then (if x8 < (x0.size : Int) then (journal_Sum.l1 k x0 (Go.bits .xor .u16 x3 (IntKind.u16.wrap ((IntKind.u16.wrap (bt x0 x8)) * 256))) x7 x8 0) else (none)) else (none)) else (some x3)
def journal_Sum.l1 : Nat → ByteArray → Int → Int → Int → Int → Option (Int)
 | 0, _, _, _, _, _ => none
 | k + 1, x0, x3, x7, x8, x18 => if x18 < 8 then (if (Go.bits .and .u16 x3 32768) = 0 then (journal_Sum.l1 k x0 (IntKind.u16.wrap (x3 * 2)) x7 x8 (wrap64 (x18 + 1))) else (journal_Sum.l1 k x0 (Go.bits .xor .u16 (IntKind.u16.wrap (x3 * 2)) 4129) x7 x8 (wrap64 (x18 + 1)))) else (journal_Sum.l0 k x0 x3 x7 (wrap64 (x8 + 1)))
end
def journal_Sum.f (k : Nat) (a0 : ByteArray) : Option (Int) := journal_Sum.l0 k a0 65535 (a0.size : Int) 0
set_option maxHeartbeats 8000000 in
set_option maxRecDepth 100000 in
theorem journal_Sum.calls (k : Nat) (a0 : ByteArray) (r : Int) (w : World) (h : journal_Sum.f k a0 = some r) :
  Calls Tryz.prog 32 #[.string a0] w fun e w' => e = .returned (.int .u16 r) ∧ Drawn0 w w' := by
 have H : (journal_Sum.l0 k a0 65535 (a0.size : Int) 0) = some r := h
 clear h
 have H' := Aside0.mk H
 clear H
 go_enter Tryz.func32, Tryz.ntmps32
 go_wp2
 go_loopg [3, 8] k (fun kq v3 v8 w' => ∃ (x3_1 : Int) (x8_1 : Int), v3 = .int .u16 x3_1 ∧ v8 = .int .i64 x8_1 ∧ Aside0 (journal_Sum.l0 kq a0 x3_1 (a0.size : Int) x8_1 = some r) ∧ Aside0 (kq ≤ k) ∧ Drawn0 w w')
 case atStart => exact ⟨(65535), (0), eqS, eqS, H', ⟨Nat.le_refl _⟩, by repeat (first | exact Drawn0.refl _ | apply Drawn0.step)⟩
 case round =>
  clear H'
  obtain ⟨x3_1, x8_1, rfl, rfl, HA, HK1, ⟨m1, rfl⟩⟩ := hrel
  cases gk with
  | zero => exact absurd HA.out (by simp [journal_Sum.l0])
  | succ k1 =>
   have H := HA.out
   clear HA
   simp only [journal_Sum.l0] at H
   by_cases c2 : x8_1 < (a0.size : Int)
   ·rw [if_pos c2] at H
    have c2b0 := decide_eq_true c2
    clear c2
    by_cases c3 : 0 ≤ x8_1
    ·rw [if_pos c3] at H
     have c3b0 := decide_eq_true c3
     clear c3
     by_cases c4 : x8_1 < (a0.size : Int)
     ·rw [if_pos c4] at H
      have c4b0 := decide_eq_true c4
      clear c4
      have H' := Aside0.mk H
      clear H
      have p5 : 0 ≤ (x8_1 : Int) := of_decide_eq_true byA
      have q5 : x8_1 < (a0.size : Int) := of_decide_eq_true byA
      have hx5 := bt_at a0 x8_1
      replace p5 := eq_true p5
      replace q5 := eq_true q5
      go_wp2
      go_loopg [3, 18] k1 (fun kq v3 v18 w' => ∃ (x3_2 : Int) (x18_2 : Int), v3 = .int .u16 x3_2 ∧ v18 = .int .i64 x18_2 ∧ Aside0 (journal_Sum.l1 kq a0 x3_2 (a0.size : Int) x8_1 x18_2 = some r) ∧ Aside0 (kq ≤ k1) ∧ Drawn0 w w')
      case atStart => exact ⟨(Go.bits .xor .u16 x3_1 (IntKind.u16.wrap ((IntKind.u16.wrap (bt a0 x8_1)) * 256))), (0), eqS, eqS, H', ⟨Nat.le_refl _⟩, by repeat (first | exact Drawn0.refl _ | apply Drawn0.step)⟩
      case round =>
       clear H'
       try clear c2
       try clear c2b0
       try clear p2
       try clear c3
       try clear c3b0
       try clear c4
       try clear c4b0
       try clear p5
       try clear q5
       try clear hx5
       try clear p5
       try clear q5
       obtain ⟨x3_2, x18_2, rfl, rfl, HA, HK2, ⟨m2, rfl⟩⟩ := hrel
       cases gk with
       | zero => exact absurd HA.out (by simp [journal_Sum.l1])
       | succ k2 =>
        have H := HA.out
        clear HA
        simp only [journal_Sum.l1] at H
        by_cases c6 : x18_2 < 8
        ·rw [if_pos c6] at H
         have c6b0 := decide_eq_true c6
         clear c6
         by_cases c7 : (Go.bits .and .u16 x3_2 32768) = 0
         ·rw [if_pos c7] at H
          have c7b0 : ((Go.bits .and .u16 x3_2 32768) == 0) = true := beq_iff_eq.mpr c7
          have c7b1 : ((Go.bits .and .u16 x3_2 32768) != 0) = false := bne_eq_false_iff_eq.mpr c7
          clear c7
          have H' := Aside0.mk H
          clear H
          go_wp2
          go_roundg k2
          case measure => have := HK1.out; have := HK2.out; omega
          case rel => exact ⟨(IntKind.u16.wrap (x3_2 * 2)), (wrap64 (x18_2 + 1)), eqS, eqS, H', ⟨by have := HK1.out; have := HK2.out; omega⟩, by repeat (first | exact Drawn0.refl _ | apply Drawn0.step)⟩
         ·rw [if_neg c7] at H
          have c7b0 : ((Go.bits .and .u16 x3_2 32768) == 0) = false := beq_eq_false_iff_ne.mpr c7
          have c7b1 : ((Go.bits .and .u16 x3_2 32768) != 0) = true := bne_iff_ne.mpr c7
          have H' := Aside0.mk H
          clear H
          go_wp2
          go_roundg k2
          case measure => have := HK1.out; have := HK2.out; omega
          case rel => exact ⟨(Go.bits .xor .u16 (IntKind.u16.wrap (x3_2 * 2)) 4129), (wrap64 (x18_2 + 1)), eqS, eqS, H', ⟨by have := HK1.out; have := HK2.out; omega⟩, by repeat (first | exact Drawn0.refl _ | apply Drawn0.step)⟩
        ·rw [if_neg c6] at H
         have c6b0 := decide_eq_false c6
         clear c6
         have H' := Aside0.mk H
         clear H
         go_wp2
         go_roundg k2
         case measure => have := HK1.out; have := HK2.out; omega
         case rel => exact ⟨(x3_2), (wrap64 (x8_1 + 1)), eqS, eqS, H', ⟨by have := HK1.out; have := HK2.out; omega⟩, by repeat (first | exact Drawn0.refl _ | apply Drawn0.step)⟩
     ·rw [if_neg c4] at H
      exact absurd H (by simp)
    ·rw [if_neg c3] at H
     exact absurd H (by simp)
   ·rw [if_neg c2] at H
    have c2b0 := decide_eq_false c2
    clear c2
    obtain rfl := Option.some.inj H
    go_wp2
    go_ret
    exact ⟨eqS, by repeat (first | exact Drawn0.refl _ | apply Drawn0.step)⟩
end Go.Proofs.J.Print
end
section
namespace Go.Proofs.J.Print
open Go.RowKit Go.Proofs.PrintWords Go.Proofs.PrintLast Go.Proofs.PrintMore
set_option maxHeartbeats 8000000 in
set_option maxRecDepth 100000 in
theorem take_panics (g : Nat) (s0_0 : ByteArray) (a1 : Int) (w0 w : World) (hI : IsS103 w0 w g s0_0) (h : (s0_0.size : Int) < a1) :
  Calls Tryz.prog 93 #[.pointer (some ⟨g, 0, none⟩), .int .i64 a1] w fun e w' => e = .panicked logChain ∧ w' = w := by
 have hu128 := Tryz.underlying128
 obtain ⟨HGz8, hgz8⟩ := hI
 have hcz8_0 := cellS103_0 HGz8
 have hfz8_0 := blk_frozen HGz8 0
 have c3b0 := decide_eq_true h
 clear HGz8 hgz8
 go_enter Tryz.func93, Tryz.ntmps93
 go_wp2
 exact ⟨rfl, rfl, rfl⟩
def bindP {α β : Type} (x : Option α) (f : α → Option (Option β)) : Option (Option β) := match x with | none => some none | some a => f a
theorem bindP_none {α β : Type} (f : α → Option (Option β)) : bindP none f = some none := rfl
theorem bindP_some {α β : Type} (a : α) (f : α → Option (Option β)) : bindP (some a) f = f a := rfl
theorem bindP_mono {α β : Type} {x : Option α} {f g : α → Option (Option β)} (h : ∀ a, LeO (f a) (g a)) : LeO (bindP x f) (bindP x g) := by
 cases x with
 | none => exact LeO.refl _
 | some a => exact h a
def tk (s : ByteArray) (n : Nat) : Option (ByteArray × ByteArray) := if n ≤ s.size then some (s.extract 0 n, s.extract n s.size) else none
theorem tk_some {s : ByteArray} {n : Nat} {t s' : ByteArray} (h : tk s n = some (t, s')) (m : Int) (hm : m = (n : Int)) : journal_reader_take.f s m = some (t, s') := by
 subst hm
 unfold tk at h
 split at h
 ·rename_i hn
  unfold journal_reader_take.f
  rw [if_neg (by omega), if_pos (by omega), if_pos (by omega)]
  simpa using h
 ·cases h
theorem tk_none {s : ByteArray} {n : Nat} (h : tk s n = none) (m : Int) (hm : m = (n : Int)) : (s.size : Int) < m := by
 subst hm
 unfold tk at h
 split at h
 ·cases h
 ·omega
def Ends {α : Type} (val : α → Value) (w0 w : World) (g : Nat) (r : Option (α × ByteArray)) (e : Ending) (w' : World) : Prop :=
 (match r with | some (v, s') => e = .returned (val v) ∧ IsS103 w0 w' g s' | none => e = .panicked logChain ∧ ∃ s', IsS103 w0 w' g s') ∧ Below w0.heap.size w0 w' ∧ KeepBut w w' g none
def body.f (k : Nat) (s : ByteArray) : Option (Option (ByteArray × ByteArray)) :=
 bindP (tk s 4) fun p1 => (journal_get_uint32.f k p1.1 4).bind fun n => bindP (tk p1.2 4) fun p2 => (journal_get_uint32.f k p2.1 4).bind fun c =>
  if c = Go.bits .xor .u32 4294967295 n then (if n > 16777216 then some none else (if n < 0 then none else bindP (tk p2.2 n.toNat) fun p3 => bindP (tk p3.2 2) fun p4 => (journal_get_uint16.f k p4.1 2).bind fun m => (journal_Sum.f k p3.1).bind fun m' => if m = m' then some (some (p3.1, p4.2)) else some none)) else some none
set_option maxHeartbeats 8000000 in
set_option maxRecDepth 100000 in
theorem body.calls (k : Nat) (g : Nat) (s : ByteArray) (r : Option (ByteArray × ByteArray)) (w0 w : World) (hI : IsS103 w0 w g s) (hB : Below w0.heap.size w0 w) (h : body.f k s = some r) :
  Calls Tryz.prog 96 #[.pointer (some ⟨g, 0, none⟩)] w (Ends Value.string w0 w g r) := by
 have hu128 := Tryz.underlying128
 have HI0 := Aside0.mk hI
 have HK := Aside0.mk (KeepBut.refl w g none)
 clear hI
 have hsg : IntKind.u32.signed = false := rfl
 have HB := Aside0.mk hB
 clear hB
 unfold body.f at h
 unfold Ends
 rcases At1 : tk s 4 with _ | pt1
 focus
  simp only [At1, bindP, Option.some.injEq] at h
  subst h
  have A1 := Aside0.mk (tk_none At1 4 (by simp))
  clear At1
 rotate_right
 focus
  obtain ⟨t1, s1⟩ := pt1
  simp only [At1, bindP] at h
  have A1 := Aside0.mk (tk_some At1 4 (by simp))
  clear At1
  replace h := Option.bind_eq_some_iff.mp h
  obtain ⟨n, A20, h⟩ := h
  have A2 := Aside0.mk A20
  clear A20
  rcases At2 : tk s1 4 with _ | pt2
  focus
   simp only [At2, bindP, Option.some.injEq] at h
   subst h
   have A3 := Aside0.mk (tk_none At2 4 (by simp))
   clear At2
  rotate_right
  focus
   obtain ⟨t2, s2⟩ := pt2
   simp only [At2, bindP] at h
   have A3 := Aside0.mk (tk_some At2 4 (by simp))
   clear At2
   replace h := Option.bind_eq_some_iff.mp h
   obtain ⟨c, A40, h⟩ := h
   have A4 := Aside0.mk A40
   clear A40
   by_cases c8 : c = Go.bits .xor .u32 4294967295 n
   case' neg =>
    rw [if_neg c8] at h
    have c8b1 : (c != Go.bits .xor .u32 IntKind.u32.max n) = true := bne_iff_ne.mpr c8
    replace c8 : (c = Go.bits .xor .u32 IntKind.u32.max n) = False := eq_false c8
    simp only [Option.some.injEq] at h
    subst h
   rotate_right
   focus
    rw [if_pos c8] at h
    have c8b1 : (c != Go.bits .xor .u32 IntKind.u32.max n) = false := bne_eq_false_iff_eq.mpr c8
    replace c8 : (c = Go.bits .xor .u32 IntKind.u32.max n) = True := eq_true c8
    by_cases c9 : n > 16777216
    case' pos =>
     rw [if_pos c9] at h
     have c9b1 := decide_eq_true c9
     have c9b2 : (n ≤ 16777216) = False := eq_false (by omega)
     simp only [Option.some.injEq] at h
     subst h
    rotate_right
    focus
     rw [if_neg c9] at h
     have c9b1 := decide_eq_false c9
     have c9b2 : (n ≤ 16777216) = True := eq_true (by omega)
     by_cases c10 : n < 0
     case pos =>
      rw [if_pos c10] at h
      cases h
     rw [if_neg c10] at h
     have hnn := Aside0.mk (show n = ((n.toNat : Nat) : Int) by omega)
     rcases At3 : tk s2 n.toNat with _ | pt3
     focus
      simp only [At3, bindP, Option.some.injEq] at h
      subst h
      have A5 := Aside0.mk (tk_none At3 n hnn.out)
      clear At3
     rotate_right
     focus
      obtain ⟨t3, s3⟩ := pt3
      simp only [At3, bindP] at h
      have A5 := Aside0.mk (tk_some At3 n hnn.out)
      clear At3
      rcases At4 : tk s3 2 with _ | pt4
      focus
       simp only [At4, bindP, Option.some.injEq] at h
       subst h
       have A6 := Aside0.mk (tk_none At4 2 (by simp))
       clear At4
      rotate_right
      focus
       obtain ⟨t4, s4⟩ := pt4
       simp only [At4, bindP] at h
       have A6 := Aside0.mk (tk_some At4 2 (by simp))
       clear At4
       replace h := Option.bind_eq_some_iff.mp h
       obtain ⟨m, A70, h⟩ := h
       have A7 := Aside0.mk A70
       clear A70
       replace h := Option.bind_eq_some_iff.mp h
       obtain ⟨m', A80, h⟩ := h
       have A8 := Aside0.mk A80
       clear A80
       by_cases c11 : m = m'
       case' neg =>
        rw [if_neg c11] at h
        have c11b1 : (m != m') = true := bne_iff_ne.mpr c11
        clear c11
        simp only [Option.some.injEq] at h
        subst h
       rotate_right
       focus
        rw [if_pos c11] at h
        have c11b1 : (m != m') = false := bne_eq_false_iff_eq.mpr c11
        clear c11
        simp only [Option.some.injEq] at h
        subst h
 all_goals (go_enter Tryz.func96, Tryz.ntmps96; go_wp2_with (first | ((with_reducible refine gate_callee (f := 93) rfl ?_); refine goesS (some 23) Tryz.func93 #[.pointer (some ⟨g, 0, none⟩), .int .i64 n] ?_; (with_reducible refine (journal_reader_take.calls g s2 n t3 s3 w0 _ ?side1 ?side2 A5.out).mono ?_); (case side1 => exact upI HI0.out); (case side2 => exact upB HB.out); rintro e w_t3 ⟨rfl, hi, hb, hk⟩; refine ⟨_, rfl, ?_⟩; have n0_ := Aside0.mk (KeepBut.trans (upK HK.out) hk (.inl rfl)); have n1_ := Aside0.mk (hb); have n2_ := Aside0.mk (hi); clear HK; clear HB; clear HI0; have HK := n0_; have HB := n1_; have HI0 := n2_; clear n0_ n1_ n2_; (try clear hb); (try clear hb2); (try clear hk); (try clear hi)) | ((with_reducible refine gate_callee (f := 93) rfl ?_); refine goesS (some 25) Tryz.func93 #[.pointer (some ⟨g, 0, none⟩), .int .i64 2] ?_; (with_reducible refine (journal_reader_take.calls g s3 2 t4 s4 w0 _ ?side1 ?side2 A6.out).mono ?_); (case side1 => exact upI HI0.out); (case side2 => exact upB HB.out); rintro e w_t4 ⟨rfl, hi, hb, hk⟩; refine ⟨_, rfl, ?_⟩; have n0_ := Aside0.mk (KeepBut.trans (upK HK.out) hk (.inl rfl)); have n1_ := Aside0.mk (hb); have n2_ := Aside0.mk (hi); clear HK; clear HB; clear HI0; have HK := n0_; have HB := n1_; have HI0 := n2_; clear n0_ n1_ n2_; (try clear hb); (try clear hb2); (try clear hk); (try clear hi)) | ((with_reducible refine gate_callee (f := 93) rfl ?_); refine goesS (some 9) Tryz.func93 #[.pointer (some ⟨g, 0, none⟩), .int .i64 4] ?_; (with_reducible refine (journal_reader_take.calls g s1 4 t2 s2 w0 _ ?side1 ?side2 A3.out).mono ?_); (case side1 => exact upI HI0.out); (case side2 => exact upB HB.out); rintro e w_t2 ⟨rfl, hi, hb, hk⟩; refine ⟨_, rfl, ?_⟩; have n0_ := Aside0.mk (KeepBut.trans (upK HK.out) hk (.inl rfl)); have n1_ := Aside0.mk (hb); have n2_ := Aside0.mk (hi); clear HK; clear HB; clear HI0; have HK := n0_; have HB := n1_; have HI0 := n2_; clear n0_ n1_ n2_; (try clear hb); (try clear hb2); (try clear hk); (try clear hi)) | ((with_reducible refine gate_callee (f := 93) rfl ?_); refine goesS (some 6) Tryz.func93 #[.pointer (some ⟨g, 0, none⟩), .int .i64 4] ?_; (with_reducible refine (journal_reader_take.calls g s 4 t1 s1 w0 _ ?side1 ?side2 A1.out).mono ?_); (case side1 => exact upI HI0.out); (case side2 => exact upB HB.out); rintro e w_t1 ⟨rfl, hi, hb, hk⟩; refine ⟨_, rfl, ?_⟩; have n0_ := Aside0.mk (KeepBut.trans (upK HK.out) hk (.inl rfl)); have n1_ := Aside0.mk (hb); have n2_ := Aside0.mk (hi); clear HK; clear HB; clear HI0; have HK := n0_; have HB := n1_; have HI0 := n2_; clear n0_ n1_ n2_; (try clear hb); (try clear hb2); (try clear hk); (try clear hi)) | ((with_reducible refine gate_callee (f := 93) rfl ?_); refine goesP (some 23) Tryz.func93 #[.pointer (some ⟨g, 0, none⟩), .int .i64 n] ?_; (with_reducible refine (take_panics g s2 n w0 _ ?side1 A5.out).mono ?_); (case side1 => exact upI HI0.out); rintro e w_ ⟨rfl, hw⟩; refine ⟨_, rfl, ?_⟩; subst hw) | ((with_reducible refine gate_callee (f := 93) rfl ?_); refine goesP (some 25) Tryz.func93 #[.pointer (some ⟨g, 0, none⟩), .int .i64 2] ?_; (with_reducible refine (take_panics g s3 2 w0 _ ?side1 A6.out).mono ?_); (case side1 => exact upI HI0.out); rintro e w_ ⟨rfl, hw⟩; refine ⟨_, rfl, ?_⟩; subst hw) | ((with_reducible refine gate_callee (f := 93) rfl ?_); refine goesP (some 9) Tryz.func93 #[.pointer (some ⟨g, 0, none⟩), .int .i64 4] ?_; (with_reducible refine (take_panics g s1 4 w0 _ ?side1 A3.out).mono ?_); (case side1 => exact upI HI0.out); rintro e w_ ⟨rfl, hw⟩; refine ⟨_, rfl, ?_⟩; subst hw) | ((with_reducible refine gate_callee (f := 93) rfl ?_); refine goesP (some 6) Tryz.func93 #[.pointer (some ⟨g, 0, none⟩), .int .i64 4] ?_; (with_reducible refine (take_panics g s 4 w0 _ ?side1 A1.out).mono ?_); (case side1 => exact upI HI0.out); rintro e w_ ⟨rfl, hw⟩; refine ⟨_, rfl, ?_⟩; subst hw) | ((with_reducible refine gate_callee (f := 214) rfl ?_); refine goesS (some 10) Tryz.func214 #[.string t2, .int .i64 4] ?_; (with_reducible refine (journal_get_uint32.calls k t2 4 c _ A4.out).mono ?_); rintro e w' ⟨rfl, ⟨nd_c, rfl⟩⟩; refine ⟨_, rfl, ?_⟩) | ((with_reducible refine gate_callee (f := 214) rfl ?_); refine goesS (some 7) Tryz.func214 #[.string t1, .int .i64 4] ?_; (with_reducible refine (journal_get_uint32.calls k t1 4 n _ A2.out).mono ?_); rintro e w' ⟨rfl, ⟨nd_n, rfl⟩⟩; refine ⟨_, rfl, ?_⟩) | ((with_reducible refine gate_callee (f := 215) rfl ?_); refine goesS (some 26) Tryz.func215 #[.string t4, .int .i64 2] ?_; (with_reducible refine (journal_get_uint16.calls k t4 2 m _ A7.out).mono ?_); rintro e w' ⟨rfl, ⟨nd_m, rfl⟩⟩; refine ⟨_, rfl, ?_⟩) | ((with_reducible refine gate_callee (f := 32) rfl ?_); refine goesS (some 28) Tryz.func32 #[.string t3] ?_; (with_reducible refine (journal_Sum.calls k t3 m' _ A8.out).mono ?_); rintro e w' ⟨rfl, ⟨nd_s, rfl⟩⟩; refine ⟨_, rfl, ?_⟩)); first | (exact ⟨rfl, ⟨rfl, _, (upI HI0.out)⟩, (upB HB.out), (upK HK.out)⟩) | (go_ret; exact ⟨⟨by first | rfl | simp, (upI HI0.out)⟩, (upB HB.out), (upK HK.out)⟩))
end Go.Proofs.J.Print
end
section
namespace Go.Proofs.J.Print
open Go.RowKit Go.Proofs.PrintWords Go.Proofs.PrintLast Go.Proofs.PrintMore
def value_Check.f (a0_0 : Int) (a0_1 : Int) (a0_2 : ByteArray) : Option (Int) := if a0_0 = 1 then (if a0_2.toList = ([] : List UInt8) then (some 0) else (some 10)) else (if a0_0 = 2 then (if a0_1 = 0 then (if (a0_2.size : Int) ≤ 200 then (some 0) else (some 10)) else (some 10)) else (some 10))
set_option maxHeartbeats 8000000 in
set_option maxRecDepth 100000 in
theorem value_Check.calls (a0_0 : Int) (a0_1 : Int) (a0_2 : ByteArray) (r : Int) (w : World) (h : value_Check.f a0_0 a0_1 a0_2 = some r) :
  Calls Tryz.prog 199 #[.agg #[.int .i8 a0_0, .int .i64 a0_1, .string a0_2]] w fun e w' => e = .returned (.int .i64 r) ∧ Below w.heap.size w w' := by
 have hu85 := Tryz.underlying85
 have HB := Aside0.mk (Below.refl w.heap.size w)
 have H : (if a0_0 = 1 then (if a0_2.toList = ([] : List UInt8) then (some 0) else (some 10)) else (if a0_0 = 2 then (if a0_1 = 0 then (if (a0_2.size : Int) ≤ 200 then (some 0) else (some 10)) else (some 10)) else (some 10))) = some r := h
 clear h
 by_cases c2 : a0_0 = 1
 focus
  rw [if_pos c2] at H
  have c2b0 : (a0_0 == 1) = true := beq_iff_eq.mpr c2
  have c2b1 : (a0_0 != 1) = false := bne_eq_false_iff_eq.mpr c2
  clear c2
  by_cases c3 : a0_2.toList = ([] : List UInt8)
  focus
   rw [if_pos c3] at H
   have c3b0 : (a0_2.toList == ([] : List UInt8)) = true := beq_iff_eq.mpr c3
   have c3b1 : (a0_2.toList != ([] : List UInt8)) = false := bne_eq_false_iff_eq.mpr c3
   clear c3
   obtain rfl := Option.some.inj H
  rotate_right
  focus
   rw [if_neg c3] at H
   have c3b0 : (a0_2.toList == ([] : List UInt8)) = false := beq_eq_false_iff_ne.mpr c3
   have c3b1 : (a0_2.toList != ([] : List UInt8)) = true := bne_iff_ne.mpr c3
   obtain rfl := Option.some.inj H
 rotate_right
 focus
  rw [if_neg c2] at H
  have c2b0 : (a0_0 == 1) = false := beq_eq_false_iff_ne.mpr c2
  have c2b1 : (a0_0 != 1) = true := bne_iff_ne.mpr c2
  by_cases c8 : a0_0 = 2
  focus
   rw [if_pos c8] at H
   have c8b0 : (a0_0 == 2) = true := beq_iff_eq.mpr c8
   have c8b1 : (a0_0 != 2) = false := bne_eq_false_iff_eq.mpr c8
   clear c8
   by_cases c9 : a0_1 = 0
   focus
    rw [if_pos c9] at H
    have c9b0 : (a0_1 == 0) = true := beq_iff_eq.mpr c9
    have c9b1 : (a0_1 != 0) = false := bne_eq_false_iff_eq.mpr c9
    clear c9
    by_cases c10 : (a0_2.size : Int) ≤ 200
    focus
     rw [if_pos c10] at H
     have c10b0 := decide_eq_true c10
     have c10b1 : decide (a0_2.size ≤ 200) = true := decide_eq_true (by omega)
     clear c10
     obtain rfl := Option.some.inj H
    rotate_right
    focus
     rw [if_neg c10] at H
     have c10b0 := decide_eq_false c10
     have c10b1 : decide (a0_2.size ≤ 200) = false := decide_eq_false (by omega)
     clear c10
     obtain rfl := Option.some.inj H
   rotate_right
   focus
    rw [if_neg c9] at H
    have c9b0 : (a0_1 == 0) = false := beq_eq_false_iff_ne.mpr c9
    have c9b1 : (a0_1 != 0) = true := bne_iff_ne.mpr c9
    obtain rfl := Option.some.inj H
  rotate_right
  focus
   rw [if_neg c8] at H
   have c8b0 : (a0_0 == 2) = false := beq_eq_false_iff_ne.mpr c8
   have c8b1 : (a0_0 != 2) = true := bne_iff_ne.mpr c8
   obtain rfl := Option.some.inj H
 all_goals (go_enter Tryz.func199, Tryz.ntmps199; go_wp2_with (first | ((with_reducible refine gate_dst (N := 1) rfl ?_); (try (refine gate_guard (by rfl) ?_; dsimp only)); refine boxS 1 #[.int .i8 a0_0, .int .i64 a0_1, .string a0_2] 85 ?_; intro gb221 hg wq1 hbox hb; have n0_ := Aside0.mk (below_step (upB HB.out) hb); have n1_ := Aside0.mk (hbox); have n2_ := Aside0.mk (geB hg (upB HB.out) : w.heap.size ≤ gb221); have n3_ := Aside0.mk (geB hg (upB HB.out) : w.heap.size ≤ gb221); clear HB; have HB := n0_; have BK221 := n1_; have GW221 := n2_; have GE221 := n3_; clear n0_ n1_ n2_ n3_; clear hb hbox hg; have hczq1_0 : wq1.cell? ⟨gb221, 0, none⟩ = some (.int .i8 a0_0) := (blk_cell BK221.out 0).trans rfl; have hczq1_1 : wq1.cell? ⟨gb221, 1, none⟩ = some (.int .i64 a0_1) := (blk_cell BK221.out 1).trans rfl; have hczq1_2 : wq1.cell? ⟨gb221, 2, none⟩ = some (.string a0_2) := (blk_cell BK221.out 2).trans rfl; have hfzq1_0 := blk_frozen BK221.out 0; have hfzq1_1 := blk_frozen BK221.out 1; have hfzq1_2 := blk_frozen BK221.out 2)); first | (go_ret; exact ⟨eqE, upB HB.out⟩))
end Go.Proofs.J.Print
end
section
namespace Go.Proofs.J.Print
open Go.RowKit Go.Proofs.PrintWords Go.Proofs.PrintLast Go.Proofs.PrintMore
def strconv_FormatInt.f (a0 a1 : Int) : Option ByteArray := none
theorem strconv_FormatInt.calls (a0 a1 : Int) (r : ByteArray) (w : World) (h : strconv_FormatInt.f a0 a1 = some r) :
    Calls Tryz.prog 251 #[.int .i64 a0, .int .i64 a1] w fun e w' => e = .returned (.string r) ∧ Drawn0 w w' := by
  exact absurd h (by simp [strconv_FormatInt.f])
end Go.Proofs.J.Print
end
section
namespace Go.Proofs.J.Print
open Go.RowKit Go.Proofs.PrintWords Go.Proofs.PrintLast Go.Proofs.PrintMore
def lettB (c : Int) : Bool := decide (97 ≤ c) && decide (c ≤ 122) || decide (65 ≤ c) && decide (c ≤ 90) || decide (48 ≤ c) && decide (c ≤ 57) || c == 95
def allLett (s : ByteArray) (k : Nat) : Prop := ∀ j : Nat, j < k → lettB (bt s j) = true
def keyB (l : List UInt8) : Bool := l == [110, 111, 116] || l == [99, 111, 117, 110, 116] || l == [115, 117, 109] || l == [109, 105, 110] || l == [109, 97, 120] || l == [108, 101, 110] || l == [99, 104, 97, 114, 115] || l == [98, 97, 99, 107]
def lettsB (s : ByteArray) : Bool := (List.range s.size).all fun j => lettB (bt s j)
def nameB (s : ByteArray) : Bool := decide (0 < s.size) && (decide (s.size ≤ 120) && (decide (97 ≤ bt s 0) && (decide (bt s 0 ≤ 122) && (lettsB s && !keyB s.toList))))
def value_name.f (a0 : ByteArray) : Option Bool := some (nameB a0)
theorem lett_no {c : Int} (h1 : c < 97 ∨ 122 < c) (h2 : c < 65 ∨ 90 < c) (h3 : c < 48 ∨ 57 < c) (h4 : (c != 95) = true) : lettB c = false := by
  have h4' : (c == 95) = false := by simpa using h4
  unfold lettB
  rw [h4']
  simp only [Bool.or_false, Bool.or_eq_false_iff, Bool.and_eq_false_iff, decide_eq_false_iff_not]
  omega
theorem lett_yes {c : Int} (h : (97 ≤ c ∧ c ≤ 122) ∨ (65 ≤ c ∧ c ≤ 90) ∨ (48 ≤ c ∧ c ≤ 57) ∨ c = 95) : lettB c = true := by
  unfold lettB
  simp only [Bool.or_eq_true, Bool.and_eq_true, decide_eq_true_eq, beq_iff_eq]
  omega
theorem letters_read (w : World) (s : ByteArray) : ∀ k : Nat, k < s.size → (Lib.bytesWorld w 5 s).cell? ⟨w.heap.size, k, none⟩ = some (.int .u8 (bt s k)) := fun k hk => by
  rw [Lib.bytesWorld_cell w 5 s k hk]
  simp [bt, List.getD_eq_getElem?_getD, hk]
  rfl
theorem ret_bool {a b : Bool} (h : a = b) : Ending.returned (.bool a) = .returned (.bool b) := by rw [h]
theorem key_not {l : List UInt8} (h1 : (l == [110, 111, 116]) = false) (h2 : (l == [99, 111, 117, 110, 116]) = false) (h3 : (l == [115, 117, 109]) = false) (h4 : (l == [109, 105, 110]) = false) (h5 : (l == [109, 97, 120]) = false) (h6 : (l == [108, 101, 110]) = false) (h7 : (l == [99, 104, 97, 114, 115]) = false) (h8 : (l == [98, 97, 99, 107]) = false) : keyB l = false := by
  unfold keyB
  rw [h1, h2, h3, h4, h5, h6, h7, h8]; rfl
set_option maxHeartbeats 2000000 in
set_option maxRecDepth 100000 in
theorem name_main (s : ByteArray) (w : World) (h0 : 0 < s.size) (h1 : s.size ≤ 120) (h2 : 97 ≤ bt s 0) (h3 : bt s 0 ≤ 122) (r : Bool)
    (hno : Aside0 (∀ k : Nat, k < s.size → lettB (bt s k) = false → r = false)) (hyes : Aside0 (allLett s s.size → r = !keyB s.toList)) :
    Calls Tryz.prog 252 #[.string s] w fun e w' => e = .returned (.bool r) ∧ Below w.heap.size w w' := by
  have c0 : ((s.size : Int) == 0) = false := by rw [beq_eq_false_iff_ne]; omega
  have c1 : (s.size == 0) = false := by rw [beq_eq_false_iff_ne]; omega
  have c2 : decide (122 < bt s 0) = false := decide_eq_false (by omega)
  have hx : ∀ h : 0 < s.size, ((s[0]'h).toNat : Int) = bt s 0 := bt_at s 0
  have kb := fun W => print_bytes (P := Tryz.prog) 9 78 5 Tryz.underlying9 Tryz.underlying78 Tryz.underlying5 s W
  have hb := Aside0.mk (bytes_below (Below.refl w.heap.size w) (Nat.le_refl _) 5 s)
  have hl := letters_read w s
  go_enter Tryz.func252, Tryz.ntmps252
  go_wp2
  generalize Lib.bytesWorld w 5 s = W at *
  clear kb hx c0 c1 c2
  go_loop [26] (fun i => ∃ k : Nat, k ≤ s.size ∧ i = .int .i64 k ∧ Aside0 (allLett s k)) (fun i => s.size - (intOf i).toNat)
  case atStart => exact ⟨0, Nat.zero_le _, rfl, ⟨fun j hj => by omega⟩⟩
  case round =>
    obtain ⟨k, hk, rfl, hall⟩ := hrel
    by_cases hlt : k < s.size
    · have hc := hl k hlt
      have hr := bt_range s k
      obtain ⟨c, hx⟩ : ∃ c, Aside0 (bt s k = c) := ⟨_, ⟨rfl⟩⟩
      rw [hx.out] at hc hr
      clear hl hyes
      go_wp2
      all_goals first
        | (refine ⟨⟨k + 1, by omega, by go_num, ⟨fun j hj => ?_⟩⟩, by simp [intOf]; omega⟩
           by_cases e : j < k
           · exact hall.out j e
           · obtain rfl : j = k := by omega
             rw [hx.out]
             refine lett_yes ?_
             first | omega | exact .inr (.inr (.inr (by simp_all))))
        | (obtain rfl := hno.out k hlt (by rw [hx.out]; exact lett_no (by omega) (by omega) (by omega) (by assumption))
           go_ret
           exact ⟨rfl, hb.out⟩)
    · obtain rfl : k = s.size := by omega
      have hr := Aside0.mk (hyes.out hall.out)
      clear hl hyes hno hall
      go_wp2
      all_goals first
        | (exfalso; simp_all; done)
        | (go_ret
           refine ⟨ret_bool ?_, hb.out⟩
           rw [hr.out]
           first
             | (rw [key_not (by assumption) (by assumption) (by assumption) (by assumption) (by assumption) (by assumption) (by assumption) (by assumption)]; rfl)
             | (simp [keyB, *]; done))
set_option maxHeartbeats 1000000 in
set_option maxRecDepth 100000 in
theorem name_empty (s : ByteArray) (w : World) (h : s.size = 0) :
    Calls Tryz.prog 252 #[.string s] w fun e w' => e = .returned (.bool false) ∧ Below w.heap.size w w' := by
  have c0 : ((s.size : Int) == 0) = true := by rw [h]; rfl
  have c1 : (s.size == 0) = true := by rw [h]; rfl
  clear h
  go_enter Tryz.func252, Tryz.ntmps252
  go_wp2
  go_ret
  exact ⟨rfl, Below.refl _ _⟩
set_option maxHeartbeats 1000000 in
set_option maxRecDepth 100000 in
theorem name_long (s : ByteArray) (w : World) (h : 120 < s.size) :
    Calls Tryz.prog 252 #[.string s] w fun e w' => e = .returned (.bool false) ∧ Below w.heap.size w w' := by
  have c0 : ((s.size : Int) == 0) = false := by rw [beq_eq_false_iff_ne]; omega
  have c1 : (s.size == 0) = false := by rw [beq_eq_false_iff_ne]; omega
  go_enter Tryz.func252, Tryz.ntmps252
  go_wp2
  go_ret
  exact ⟨rfl, Below.refl _ _⟩
set_option maxHeartbeats 1000000 in
set_option maxRecDepth 100000 in
theorem name_low (s : ByteArray) (w : World) (h0 : 0 < s.size) (h1 : s.size ≤ 120) (h2 : bt s 0 < 97) :
    Calls Tryz.prog 252 #[.string s] w fun e w' => e = .returned (.bool false) ∧ Below w.heap.size w w' := by
  have c0 : ((s.size : Int) == 0) = false := by rw [beq_eq_false_iff_ne]; omega
  have c1 : (s.size == 0) = false := by rw [beq_eq_false_iff_ne]; omega
  have hx : ∀ h : 0 < s.size, ((s[0]'h).toNat : Int) = bt s 0 := bt_at s 0
  go_enter Tryz.func252, Tryz.ntmps252
  go_wp2
  go_ret
  exact ⟨rfl, Below.refl _ _⟩
set_option maxHeartbeats 1000000 in
set_option maxRecDepth 100000 in
theorem name_high (s : ByteArray) (w : World) (h0 : 0 < s.size) (h1 : s.size ≤ 120) (h2 : 122 < bt s 0) :
    Calls Tryz.prog 252 #[.string s] w fun e w' => e = .returned (.bool false) ∧ Below w.heap.size w w' := by
  have c0 : ((s.size : Int) == 0) = false := by rw [beq_eq_false_iff_ne]; omega
  have c1 : (s.size == 0) = false := by rw [beq_eq_false_iff_ne]; omega
  have c3 : decide (bt s 0 < 97) = false := decide_eq_false (by omega)
  have hx : ∀ h : 0 < s.size, ((s[0]'h).toNat : Int) = bt s 0 := bt_at s 0
  go_enter Tryz.func252, Tryz.ntmps252
  go_wp2
  go_ret
  exact ⟨rfl, Below.refl _ _⟩
theorem value_name.calls (a0 : ByteArray) (r : Bool) (w : World) (h : value_name.f a0 = some r) :
    Calls Tryz.prog 252 #[.string a0] w fun e w' => e = .returned (.bool r) ∧ Below w.heap.size w w' := by
  obtain rfl := Option.some.inj h
  unfold nameB
  by_cases h0 : 0 < a0.size
  · by_cases h1 : a0.size ≤ 120
    · by_cases h2 : 97 ≤ bt a0 0
      · by_cases h3 : bt a0 0 ≤ 122
        · rw [decide_eq_true h0, decide_eq_true h1, decide_eq_true h2, decide_eq_true h3]
          simp only [Bool.true_and]
          refine name_main a0 w h0 h1 h2 h3 _ ⟨fun k hk hl => ?_⟩ ⟨fun ha => ?_⟩
          · have : lettsB a0 = false := by
              unfold lettsB
              rw [List.all_eq_false]
              exact ⟨k, List.mem_range.2 hk, by rw [hl]; simp⟩
            rw [this]; rfl
          · have : lettsB a0 = true := by
              unfold lettsB
              rw [List.all_eq_true]
              exact fun j hj => ha j (List.mem_range.1 hj)
            rw [this]; rfl
        · rw [decide_eq_false h3]
          simp only [Bool.false_and, Bool.and_false]
          exact name_high a0 w h0 h1 (by omega)
      · rw [decide_eq_false h2]
        simp only [Bool.false_and, Bool.and_false]
        exact name_low a0 w h0 h1 (by omega)
    · rw [decide_eq_false h1]
      simp only [Bool.false_and, Bool.and_false]
      exact name_long a0 w (by omega)
  · rw [decide_eq_false h0]
    simp only [Bool.false_and]
    exact name_empty a0 w (by omega)
end Go.Proofs.J.Print
end
section
namespace Go.Proofs.J.Print
open Go.RowKit Go.Proofs.PrintWords Go.Proofs.PrintLast Go.Proofs.PrintMore
theorem sizeBuilder : (Tryz.prog.info? 379).map (·.size) = some 2 := by kernel_rfl
theorem liesBuilder : liesAt Tryz.prog Tryz.prog.depth 379 (2 / Tryz.prog.cellsOf 379) 0 379 1 = true := by kernel_rfl
theorem infoByte : (Tryz.prog.info? 5).map (fun i => (i.zero, i.size, i.bytes)) = some (some (.int .u8 0), 1, 1) := by kernel_rfl
set_option maxHeartbeats 1000000 in
set_option maxRecDepth 100000 in
theorem Bld_copyCheck_used (b : Nat) (w : World) (h0 : w.cell? ⟨b, 0, none⟩ = some (.pointer (some ⟨b, 0, none⟩))) :
    Calls Tryz.prog 347 #[.pointer (some ⟨b, 0, none⟩)] w fun e w' => e = .returned (.tuple #[]) ∧ w' = w := by
  obtain ⟨j, hj, _⟩ := Option.map_eq_some_iff.1 sizeBuilder
  go_enter Tryz.func347, Tryz.ntmps347
  go_wp2
  rw [Lib.run_neq_ptr_same w _ Tryz.underlying377 hj]
  go_wp2
  go_end0
  exact ⟨rfl, rfl⟩
set_option maxHeartbeats 1000000 in
set_option maxRecDepth 100000 in
theorem Bld_copyCheck_fresh (b : Nat) (w : World) (h0 : w.cell? ⟨b, 0, none⟩ = some (.pointer none)) (hsh : w.shape? b = some (379, 2)) (hfz : w.frozen? ⟨b, 0, none⟩ = false) :
    Calls Tryz.prog 347 #[.pointer (some ⟨b, 0, none⟩)] w fun e w' => e = .returned (.tuple #[]) ∧ w' = w.setCell ⟨b, 0, none⟩ (.pointer (some ⟨b, 0, none⟩)) := by
  obtain ⟨j, hj, hjs⟩ := Option.map_eq_some_iff.1 sizeBuilder
  go_enter Tryz.func347, Tryz.ntmps347
  go_wp2
  rw [Lib.run_to_unsafe w ⟨b, 0, none⟩ Tryz.underlying377 Tryz.underlying574 hj (by rw [hjs]; decide) hsh (Nat.zero_lt_succ 1)]
  simp only [Result.andThen]
  rw [Oper.upon_value]
  go_wp2
  rw [run_callFunc_extern Tryz.func434 (by kernel_rfl) (by kernel_rfl) (by kernel_rfl) (e := Extern.AbiNoEscape.same) (by kernel_rfl)]
  rw [Lib.run_noEscape]
  simp only [Result.andThen]
  rw [Oper.upon_value]
  go_wp2
  rw [Lib.run_from_unsafe w ⟨b, 0, none⟩ Tryz.underlying574 Tryz.underlying377 hj hsh liesBuilder]
  simp only [Result.andThen]
  rw [Oper.upon_value]
  go_wp2
  go_end0
  exact ⟨rfl, rfl⟩
theorem Bld_copyCheck (B b : Nat) (bs : List Value) (w : World) (h : Lib.IsBuilder 379 5 B b bs w) :
    Calls Tryz.prog 347 #[.pointer (some ⟨b, 0, none⟩)] w fun e w' => e = .returned (.tuple #[]) ∧ (Lib.BuilderAt 379 5 B b (.pointer (some ⟨b, 0, none⟩)) bs w' ∧ Below B w w') := by
  rcases h with h | h
  · refine (Bld_copyCheck_fresh b w h.cell0 h.shape h.frozen0).mono ?_
    rintro e w' ⟨rfl, rfl⟩
    exact ⟨rfl, h.used _, (Below.refl B w).setCell (p := ⟨b, 0, none⟩) h.1 _⟩
  · refine (Bld_copyCheck_used b w h.cell0).mono ?_
    rintro e w' ⟨rfl, rfl⟩
    exact ⟨rfl, h, Below.refl B _⟩
set_option maxHeartbeats 2000000 in
set_option maxRecDepth 100000 in
theorem Bld_WriteByte (B b : Nat) (bs : List Value) (c : Int) (w : World) (h : Lib.IsBuilder 379 5 B b bs w) (hlen : bs.length + 1 ≤ 140737488355328) (hBw : B ≤ w.heap.size) :
    Calls Tryz.prog 288 #[.pointer (some ⟨b, 0, none⟩), .int .u8 c] w fun e w' => e = .returned .nilIface ∧ (Lib.BuilderAt 379 5 B b (.pointer (some ⟨b, 0, none⟩)) (bs ++ [.int .u8 c]) w' ∧ Below B w w') := by
  obtain ⟨i0, hi, hz0, hz1, hz2⟩ := info_parts infoByte
  go_enter Tryz.func288, Tryz.ntmps288
  go_wp2_with (go_at_call 347; refine (Bld_copyCheck B b bs _ h).mono ?_)
  rintro e w1 ⟨rfl, h1, hb1⟩
  obtain ⟨hB, v, hbk, hown, hne⟩ := h1
  have c0 : w1.cell? ⟨b, 0, none⟩ = some (.pointer (some ⟨b, 0, none⟩)) := by rw [Lib.cell_of_heap hbk]; rfl
  have c1 : w1.cell? ⟨b, 1, none⟩ = some v := by rw [Lib.cell_of_heap hbk]; rfl
  go_wp2_with (at_builtin; refine wpList_append_own _ rfl _ _ 78 rfl B 5 i0 (.int .u8 0) 1 1 Tryz.underlying78 hi hz0 hz1 hz2 rfl (by decide) _ _ _ rfl (hown.alloc _) ⟨w1.heap.size, 0, none⟩ 1 1 [.int .u8 c] rfl rfl ?c1 ?c2 ?c3 ?c4 ?c5 ?_)
  case c1 =>
    intro j u hj
    match j, hj with
    | 0, hj => simp at hj; subst hj; simp [Addr.add]
  case c2 => intro u hu; simp at hu; subst hu; rfl
  case c3 => unfold maxLen; omega
  case c4 => omega
  case c5 => have := hb1.size; simp; omega
  intro v' w2 hown' hgrow _
  have hlt : b < w1.heap.size := by
    rcases Nat.lt_or_ge b w1.heap.size with h' | h'
    · exact h'
    · simp [Array.getElem?_eq_none h'] at hbk
  have hb2 : w2.heap[b]? = some (.cells #[.pointer (some ⟨b, 0, none⟩), v] 379 (0, 0)) := by
    rw [hgrow.block b (by simp; omega) (fun e => hne e.symm), Lib.alloc_old w1 _ b hlt]
    exact hbk
  have d0 : w2.cell? ⟨b, 0, none⟩ = some (.pointer (some ⟨b, 0, none⟩)) := by rw [Lib.cell_of_heap hb2]; rfl
  have d1 : w2.cell? ⟨b, 1, none⟩ = some v := by rw [Lib.cell_of_heap hb2]; rfl
  have f1 : w2.frozen? ⟨b, 1, none⟩ = false := Lib.frozen_of_heap hb2 1
  obtain ⟨g, cap, rfl⟩ : ∃ g cap, v' = .slice (some ⟨g, 0, none⟩) (bs.length + 1) cap := by
    rcases hown'.2 with ⟨_, h0⟩ | ⟨g, cap, cur, hv, _⟩
    · omega
    · exact ⟨g, cap, hv⟩
  go_wp2
  go_ret
  refine ⟨rfl, ?_, ?_⟩
  · exact Lib.BuilderAt.put (T := 379) (e := 5) hB hb2 (bs' := bs ++ [.int .u8 c]) (by simpa using hown') (by decide)
  · exact ((hb1.alloc (by have := hb1.size; omega) _).grown hgrow (by have := hb1.size; simp; omega) (fun k hk => (hown.lt k hk).1)).setCell (p := ⟨b, 1, none⟩) hB _
end Go.Proofs.J.Print
end
section
namespace Go.Proofs.J.Print
open Go.RowKit Go.Proofs.PrintWords Go.Proofs.PrintLast Go.Proofs.PrintMore
def BldG (B b g : Nat) (bs : List Value) (w : World) : Prop :=
  B ≤ b ∧ g ≠ b ∧ g < w.heap.size ∧ ∃ v, w.heap[b]? = some (.cells #[.pointer (some ⟨b, 0, none⟩), v] 379 (0, 0)) ∧ w.ownsRow B 5 1 v bs.length bs ∧ v.ownBlock ≠ some b ∧ v.ownBlock ≠ some g
theorem BldG.is {B b g : Nat} {bs : List Value} {w : World} (h : BldG B b g bs w) : Lib.IsBuilder 379 5 B b bs w := by
  obtain ⟨hB, _, _, v, hb, ho, hne, _⟩ := h
  exact .inr ⟨hB, v, hb, ho, hne⟩
set_option maxHeartbeats 2000000 in
set_option maxRecDepth 100000 in
theorem BldG_WriteByte (B b g : Nat) (bs : List Value) (c : Int) (w : World) (h : BldG B b g bs w) (hlen : bs.length + 1 ≤ 140737488355328) (hBw : B ≤ w.heap.size) :
    Calls Tryz.prog 288 #[.pointer (some ⟨b, 0, none⟩), .int .u8 c] w fun e w' => e = .returned .nilIface ∧ (BldG B b g (bs ++ [.int .u8 c]) w' ∧ Below B w w' ∧ w'.heap[g]? = w.heap[g]?) := by
  obtain ⟨i0, hi, hz0, hz1, hz2⟩ := info_parts infoByte
  obtain ⟨hB, hgb, hgl, v, hbk, hown, hne, hng⟩ := h
  have hlt : b < w.heap.size := by
    rcases Nat.lt_or_ge b w.heap.size with h' | h'
    · exact h'
    · simp [Array.getElem?_eq_none h'] at hbk
  have c0 : w.cell? ⟨b, 0, none⟩ = some (.pointer (some ⟨b, 0, none⟩)) := by rw [Lib.cell_of_heap hbk]; rfl
  have c1 : w.cell? ⟨b, 1, none⟩ = some v := by rw [Lib.cell_of_heap hbk]; rfl
  go_enter Tryz.func288, Tryz.ntmps288
  go_wp2_with (go_at_call 347; refine (Bld_copyCheck_used b w c0).mono ?_)
  rintro e w1 ⟨rfl, hw1⟩
  subst hw1
  go_wp2_with (at_builtin; refine wpList_append_own_at _ rfl _ _ 78 rfl B 5 i0 (.int .u8 0) 1 1 Tryz.underlying78 hi hz0 hz1 hz2 rfl (by decide) _ _ _ rfl (hown.alloc _) ⟨w1.heap.size, 0, none⟩ 1 1 [.int .u8 c] rfl rfl ?c1 ?c2 ?c3 ?c4 ?c5 ?_)
  case c1 =>
    intro j u hj
    match j, hj with
    | 0, hj => simp at hj; subst hj; simp [Addr.add]
  case c2 => intro u hu; simp at hu; subst hu; rfl
  case c3 => unfold maxLen; omega
  case c4 => omega
  case c5 => simp; omega
  intro v' w2 hown' hgrow _ hat
  have hb2 : w2.heap[b]? = some (.cells #[.pointer (some ⟨b, 0, none⟩), v] 379 (0, 0)) := by
    rw [hgrow.block b (by simp; omega) (fun e => hne e.symm), Lib.alloc_old w1 _ b hlt]
    exact hbk
  have hg2 : w2.heap[g]? = w1.heap[g]? := by
    rw [hgrow.block g (by simp; omega) (fun e => hng e.symm), Lib.alloc_old w1 _ g hgl]
  have hsz : w1.heap.size < w2.heap.size := by have := hgrow.size; simp at this; omega
  have hng' : v'.ownBlock ≠ some g := by
    rcases hat with hat | hat
    · rw [hat]; exact hng
    · rw [hat]; simp; omega
  have d0 : w2.cell? ⟨b, 0, none⟩ = some (.pointer (some ⟨b, 0, none⟩)) := by rw [Lib.cell_of_heap hb2]; rfl
  have d1 : w2.cell? ⟨b, 1, none⟩ = some v := by rw [Lib.cell_of_heap hb2]; rfl
  have f1 : w2.frozen? ⟨b, 1, none⟩ = false := Lib.frozen_of_heap hb2 1
  obtain ⟨ao, n', cap, rfl⟩ : ∃ ao n' cap, v' = .slice ao n' cap := by
    rcases hown'.2 with ⟨hv, _⟩ | ⟨g, cap, cur, hv, _⟩
    · exact ⟨_, _, _, hv⟩
    · exact ⟨_, _, _, hv⟩
  go_wp2
  go_ret
  have hput := Lib.BuilderAt.put (p := .pointer (some ⟨b, 0, none⟩)) (T := 379) (e := 5) hB hb2 (bs' := bs ++ [.int .u8 c]) (by simpa using hown') (by decide)
  obtain ⟨_, v3, hb3, ho3, hn3⟩ := hput
  refine ⟨rfl, ⟨hB, hgb, by simp [World.setCell]; omega, v3, hb3, ho3, hn3, ?_⟩, ?_, ?_⟩
  · have : v3 = .slice ao n' cap := by
      have z := Lib.cell_of_heap hb3 1
      simp [World.setCell, World.cell?, Array.getElem?_modify, hb2] at z
      exact z.symm
    rw [this]; exact hng'
  · exact (((Below.refl B w1).alloc hBw _).grown hgrow (by simp; omega) (fun k hk => (hown.lt k hk).1)).setCell (p := ⟨b, 1, none⟩) hB _
  · rw [Below.heap_setCell _ _ _ _ (by simpa using hgb)]; exact hg2
set_option maxHeartbeats 2000000 in
set_option maxRecDepth 100000 in
theorem BldG_WriteString (B b g : Nat) (bs : List Value) (s : ByteArray) (w : World) (h : BldG B b g bs w) (hfr : ∃ cs n, w.heap[g]? = some (.cells cs 5 (n, n + 1))) (hlen : bs.length + s.size ≤ 140737488355328) (hBw : B ≤ w.heap.size) :
    Calls Tryz.prog 289 #[.pointer (some ⟨b, 0, none⟩), .string s] w fun e w' => e = .returned (.tuple #[.int .i64 s.size, .nilIface]) ∧ (BldG B b g (bs ++ Lib.strCells s) w' ∧ Below B w w' ∧ w'.heap[g]? = w.heap[g]?) := by
  obtain ⟨i0, hi, hz0, hz1, hz2⟩ := info_parts infoByte
  obtain ⟨hB, hgb, hgl, v, hbk, hown, hne, hng⟩ := h
  have hlt : b < w.heap.size := by
    rcases Nat.lt_or_ge b w.heap.size with h' | h'
    · exact h'
    · simp [Array.getElem?_eq_none h'] at hbk
  have c0 : w.cell? ⟨b, 0, none⟩ = some (.pointer (some ⟨b, 0, none⟩)) := by rw [Lib.cell_of_heap hbk]; rfl
  have c1 : w.cell? ⟨b, 1, none⟩ = some v := by rw [Lib.cell_of_heap hbk]; rfl
  go_enter Tryz.func289, Tryz.ntmps289
  go_wp2_with (go_at_call 347; refine (Bld_copyCheck_used b w c0).mono ?_)
  rintro e w1 ⟨rfl, hw1⟩
  subst hw1
  go_wp2_with (at_builtin; refine Lib.wpList_append_own_string _ rfl _ _ 78 9 rfl B 5 i0 Tryz.underlying78 Tryz.underlying9 hi hz0 hz1 hz2 _ _ _ rfl hown s rfl ?c3 ?c4 ?c5 ?_)
  case c3 => unfold maxLen; omega
  case c4 => omega
  case c5 => omega
  intro v' w2 hown' hgrow hat
  have hb2 : w2.heap[b]? = some (.cells #[.pointer (some ⟨b, 0, none⟩), v] 379 (0, 0)) := by
    rw [hgrow.block b hlt (fun e => hne e.symm)]
    exact hbk
  have hg2 : w2.heap[g]? = w1.heap[g]? := by
    rw [hgrow.block g hgl (fun e => hng e.symm)]
  have hsz : w1.heap.size ≤ w2.heap.size := hgrow.size
  have hng' : v'.ownBlock ≠ some g := by
    obtain ⟨cs, n, hc⟩ := hfr
    rw [← hg2] at hc
    intro hv
    rcases hown'.2 with ⟨rfl, _⟩ | ⟨g', cap, cur, rfl, _, hh, _⟩
    · simp [Value.ownBlock] at hv
    · simp [Value.ownBlock] at hv
      subst hv
      rw [hh] at hc
      injection hc with hc
      injection hc with _ _ hc
      injection hc with h1 h2
      omega
  have d0 : w2.cell? ⟨b, 0, none⟩ = some (.pointer (some ⟨b, 0, none⟩)) := by rw [Lib.cell_of_heap hb2]; rfl
  have d1 : w2.cell? ⟨b, 1, none⟩ = some v := by rw [Lib.cell_of_heap hb2]; rfl
  have f1 : w2.frozen? ⟨b, 1, none⟩ = false := Lib.frozen_of_heap hb2 1
  obtain ⟨ao, n', cap, rfl⟩ : ∃ ao n' cap, v' = .slice ao n' cap := by
    rcases hown'.2 with ⟨hv, _⟩ | ⟨g, cap, cur, hv, _⟩
    · exact ⟨_, _, _, hv⟩
    · exact ⟨_, _, _, hv⟩
  go_wp2
  go_ret2
  have hput := Lib.BuilderAt.put (p := .pointer (some ⟨b, 0, none⟩)) (T := 379) (e := 5) hB hb2 (bs' := bs ++ Lib.strCells s) (by simpa [Lib.strCells_length] using hown') (by decide)
  obtain ⟨_, v3, hb3, ho3, hn3⟩ := hput
  refine ⟨rfl, ⟨hB, hgb, by simp [World.setCell]; omega, v3, hb3, ho3, hn3, ?_⟩, ?_, ?_⟩
  · have : v3 = .slice ao n' cap := by
      have z := Lib.cell_of_heap hb3 1
      simp [World.setCell, World.cell?, Array.getElem?_modify, hb2] at z
      exact z.symm
    rw [this]; exact hng'
  · exact ((Below.refl B w1).grown hgrow hBw (fun k hk => (hown.lt k hk).1)).setCell (p := ⟨b, 1, none⟩) hB _
  · rw [Below.heap_setCell _ _ _ _ (by simpa using hgb)]; exact hg2
end Go.Proofs.J.Print
end
section
namespace Go.Proofs
open Go.Shelf
def Tryz.lays169_ren : Go.Shelf.Ren := ⟨fun | 169 => 266 | n => n, fun | 70 => 377 | 9 => 9 | 0 => 0 | 72 => 379 | 37 => 78 | 127 => 446 | 3 => 3 | 5 => 5 | n => n, fun | n => n⟩
theorem Tryz.lays169 : Go.Proofs.Lays.n169 Tryz.prog Tryz.lays169_ren := {
  mixed := by kernel_rfl
  f169 := Tryz.func266.trans (congrArg some (by kernel_rfl))
  t0 := Tryz.underlying0
  a0 := Tryz.isAgg0
  z0 := Tryz.sizeOf0
  v0 := Tryz.zeroValue0
  t3 := Tryz.underlying3
  a3 := Tryz.isAgg3
  z3 := Tryz.sizeOf3
  v3 := Tryz.zeroValue3
  t9 := Tryz.underlying9
  a9 := Tryz.isAgg9
  z9 := Tryz.sizeOf9
  v9 := Tryz.zeroValue9
  t37 := Tryz.underlying78
  a37 := Tryz.isAgg78
  z37 := Tryz.sizeOf78
  v37 := Tryz.zeroValue78
  t70 := Tryz.underlying377
  a70 := Tryz.isAgg377
  z70 := Tryz.sizeOf377
  v70 := Tryz.zeroValue377
  t72 := Tryz.underlying379
  a72 := Tryz.isAgg379
  z72 := Tryz.sizeOf379
  v72 := Tryz.zeroValue379
  t127 := Tryz.underlying446
  a127 := Tryz.isAgg446
  z127 := Tryz.sizeOf446
  v127 := Tryz.zeroValue446 }
theorem Tryz.Builder_Extra_169 : Builder.Extra Tryz.prog Tryz.lays169_ren := {
  sizeBuilder := by kernel_rfl
  liesBuilder := by kernel_rfl
  t5 := Tryz.underlying5
  a5 := Tryz.isAgg5
  z5 := Tryz.sizeOf5
  v5 := Tryz.zeroValue5
  infoByte := by kernel_rfl
  cellsByte := by kernel_rfl
  sizeByte := by kernel_rfl
  neB5 := by decide }
open Go.RowKit in
theorem Tryz.Builder_String_any (B b : Nat) (l : List UInt8) (w : World) (h : Lib.IsBuilder 379 5 B b (Lib.byteCells l) w) (hBw : B ≤ w.heap.size) :
    Calls Tryz.prog 266 #[.pointer (some ⟨b, 0, none⟩)] w fun e w' => e = .returned (.string ⟨l.toArray⟩) ∧ Below B w w' := Any.Builder_String_any Tryz.lays169 Tryz.Builder_Extra_169 B b l w h hBw
open Go.RowKit in
theorem Tryz.Builder_String_any_f (B b : Nat) (l : List UInt8) (w : World) (h : Lib.IsBuilderF 379 5 B b (Lib.byteCells l) w) (hBw : B ≤ w.heap.size) :
    Calls Tryz.prog 266 #[.pointer (some ⟨b, 0, none⟩)] w fun e w' => e = .returned (.string ⟨l.toArray⟩) ∧ (Lib.IsBuilderF 379 5 B b (Lib.byteCells l) w' ∧ Below B w w') := Any.Builder_String_any_f Tryz.lays169 Tryz.Builder_Extra_169 B b l w h hBw
open Go.RowKit in
theorem Tryz.Builder_String_any_k (B b : Nat) (l : List UInt8) (w : World) (h : Lib.IsBuilderF 379 5 B b (Lib.byteCells l) w) (hBw : B ≤ w.heap.size) :
    Calls Tryz.prog 266 #[.pointer (some ⟨b, 0, none⟩)] w fun e w' => e = .returned (.string ⟨l.toArray⟩) ∧ (Lib.IsBuilderF 379 5 B b (Lib.byteCells l) w' ∧ Below B w w' ∧ Lib.OthersKept 5 (some b) w w') := Any.Builder_String_any_k Tryz.lays169 Tryz.Builder_Extra_169 B b l w h hBw
end Go.Proofs
end
section
namespace Go.Proofs.J.Print
open Go.RowKit Go.Proofs.PrintWords Go.Proofs.PrintLast Go.Proofs.PrintMore
def hexI (d : Int) : Int := if d < 10 then 48 + d else 87 + d
def escI (c : Int) : List Int := if c = 10 then [92, 110] else if c = 34 then [92, c] else if c = 92 then [92, c] else if c < 32 then [92, 120, hexI (c / 16), hexI (c % 16)] else if 126 < c then [92, 120, hexI (c / 16), hexI (c % 16)] else [c]
def escs (s : ByteArray) (k : Nat) : List Int := (List.range k).flatMap fun (j : Nat) => escI (bt s j)
def quoteI (s : ByteArray) : List Int := (34 :: escs s s.size) ++ [34]
def value_quoted.f (a0 : ByteArray) : Option ByteArray := if a0.size ≤ 1000000 then some (strOfNums (quoteI a0)) else none
theorem escs_succ (s : ByteArray) (k : Nat) : escs s (k + 1) = escs s k ++ escI (bt s k) := by
  unfold escs
  rw [List.range_succ, List.flatMap_append]
  simp
theorem hexI_range {d : Int} (h0 : 0 ≤ d) (h1 : d < 16) : 0 ≤ hexI d ∧ hexI d ≤ 255 := by unfold hexI; split <;> omega
theorem escI_range {c : Int} (h0 : 0 ≤ c) (h1 : c ≤ 255) : ∀ x ∈ escI c, 0 ≤ x ∧ x ≤ 255 := by
  have ha := hexI_range (d := c / 16) (by omega) (by omega)
  have hb := hexI_range (d := c % 16) (by omega) (by omega)
  intro x hx
  unfold escI at hx
  repeat' split at hx
  all_goals simp only [List.mem_cons, List.not_mem_nil, or_false] at hx
  all_goals (rcases hx with rfl | rfl | rfl | rfl) <;> omega
theorem escs_range (s : ByteArray) (k : Nat) : ∀ x ∈ escs s k, 0 ≤ x ∧ x ≤ 255 := by
  intro x hx
  unfold escs at hx
  rw [List.mem_flatMap] at hx
  obtain ⟨j, _, hx⟩ := hx
  have := bt_range s j
  exact escI_range this.1 this.2 x hx
theorem quoteI_range (s : ByteArray) : ∀ x ∈ quoteI s, 0 ≤ x ∧ x ≤ 255 := by
  intro x hx
  unfold quoteI at hx
  simp only [List.cons_append, List.mem_cons, List.mem_append, List.not_mem_nil, or_false] at hx
  rcases hx with rfl | hx | rfl
  · omega
  · exact escs_range s _ x hx
  · omega
theorem cells_of_nums (xs : List Int) (h : ∀ x ∈ xs, 0 ≤ x ∧ x ≤ 255) : nums .u8 xs = Lib.byteCells (strOfNums xs).data.toList := by
  rw [strOfNums_data]
  unfold nums Lib.byteCells
  rw [List.map_map]
  apply List.map_congr_left
  intro x hx
  have := h x hx
  simp
  omega
def hexs : ByteArray := ⟨#[48, 49, 50, 51, 52, 53, 54, 55, 56, 57, 97, 98, 99, 100, 101, 102]⟩
theorem hex_at (d : Int) (h0 : 0 ≤ d) (h1 : d < 16) : bt hexs d = hexI d := by
  obtain ⟨n, rfl⟩ := Int.eq_ofNat_of_zero_le h0
  have hn : n < 16 := by omega
  have : ∀ m : Fin 16, bt hexs (m.val : Int) = hexI (m.val : Int) := by decide
  exact this ⟨n, hn⟩
def BytesAt (g : Nat) (s : ByteArray) (w : World) : Prop := (∃ cs n, w.heap[g]? = some (.cells cs 5 (n, n + 1))) ∧ ∀ k : Nat, k < s.size → w.cell? ⟨g, k, none⟩ = some (.int .u8 (bt s k))
theorem BytesAt.step {g : Nat} {s : ByteArray} {w w' : World} (h : BytesAt g s w) (hg : w'.heap[g]? = w.heap[g]?) : BytesAt g s w' := by
  refine ⟨by rw [hg]; exact h.1, fun k hk => ?_⟩
  rw [← h.2 k hk]
  simp [World.cell?, hg]
theorem bytesAt_new (w : World) (s : ByteArray) : BytesAt w.heap.size s (Lib.bytesWorld w 5 s) := ⟨⟨_, _, Lib.bytesWorld_at_new w 5 s⟩, letters_read w s⟩
structure QInv (B b g : Nat) (s : ByteArray) (k : Nat) (bs : List Value) (w0 w : World) : Prop where
  bld : BldG B b g bs w
  says : bs = nums .u8 (34 :: escs s k)
  byt : BytesAt g s w
  bel : Below B w0 w
  le : B ≤ w.heap.size
theorem QInv.next {B b g : Nat} {s : ByteArray} {k : Nat} {bs bs' : List Value} {w0 w w' : World} (h : QInv B b g s k bs w0 w) (hb : BldG B b g bs' w') (hs : bs' = bs ++ nums .u8 (escI (bt s k))) (hB : Below B w w') (hg : w'.heap[g]? = w.heap[g]?) : QInv B b g s (k + 1) bs' w0 w' := by
  refine ⟨hb, ?_, h.byt.step hg, h.bel.trans hB, Nat.le_trans h.le hB.size⟩
  rw [hs, h.says, escs_succ, ← nums_append]
  rfl
set_option maxHeartbeats 4000000 in
set_option maxRecDepth 100000 in
theorem quoted_main (s : ByteArray) (w : World) (hs : s.size ≤ 1000000) :
    Calls Tryz.prog 253 #[.string s] w fun e w' => e = .returned (.string (strOfNums (quoteI s))) ∧ Below w.heap.size w w' := by
  have kb := fun W => print_bytes (P := Tryz.prog) 9 78 5 Tryz.underlying9 Tryz.underlying78 Tryz.underlying5 s W
  go_enter Tryz.func253, Tryz.ntmps253
  go_wp2_with fail
  refine (Bld_WriteByte w.heap.size w.heap.size [] 34 _ (Lib.fresh_isBuilder 379 5 w) (by simp) (by simp)).mono ?_
  rintro e w1 ⟨rfl, hb1, hbel1⟩
  have hinv := Aside0.mk (show QInv w.heap.size w.heap.size w1.heap.size s 0 [.int .u8 34] w (Lib.bytesWorld w1 5 s) by
    obtain ⟨hB, v, hbk, hown, hne⟩ := hb1
    have hlt : w.heap.size < w1.heap.size := by
      rcases Nat.lt_or_ge w.heap.size w1.heap.size with h' | h'
      · exact h'
      · simp [Array.getElem?_eq_none h'] at hbk
    have hbel : Below w.heap.size w (Lib.bytesWorld w1 5 s) := bytes_below (((Below.refl _ w).alloc (Nat.le_refl _) _).trans hbel1) (by omega) 5 s
    refine ⟨⟨hB, by omega, by rw [Lib.bytesWorld_size]; omega, v, ?_, ?_, hne, fun hv => ?_⟩, by simp [nums, escs], bytesAt_new w1 s, hbel, hbel.size⟩
    · rw [Lib.bytesWorld_at_old w1 5 s _ hlt]; exact hbk
    · exact pw_own_below (by simpa using hown) (bytes_below (Below.refl w1.heap.size w1) (Nat.le_refl _) 5 s)
    · have := own_lt hown _ hv; omega)
  clear hb1 hbel1
  go_wp2_with fail
  clear kb
  generalize w1.heap.size = g at *
  generalize Lib.bytesWorld w1 5 s = W at *
  go_loopw [10] (fun i wr => ∃ k : Nat, ∃ bs : List Value, k ≤ s.size ∧ i = .int .i64 k ∧ bs.length ≤ 4 * k + 1 ∧ Aside0 (QInv w.heap.size w.heap.size g s k bs w wr)) (fun i _ => s.size - (intOf i).toNat)
  case atStart => exact ⟨0, _, Nat.zero_le _, rfl, by simp, hinv⟩
  case round =>
    clear hinv
    obtain ⟨k, bs, hk, rfl, hlen, hq⟩ := hrel
    have hle := hq.out.le
    by_cases hlt : k < s.size
    · have hc := hq.out.byt.2 k hlt
      obtain ⟨c, hx⟩ : ∃ c, Aside0 (bt s k = c) := ⟨_, ⟨rfl⟩⟩
      have hr := bt_range s k
      rw [hx.out] at hc hr
      by_cases h10 : c = 10
      · have e10 : (c == 10) = true := by simpa using h10
        have H10 := Aside0.mk h10
        clear h10
        go_wp2_with fail
        refine (BldG_WriteString _ _ _ _ ⟨#[92, 110]⟩ _ hq.out.bld hq.out.byt.1 (by simp [ByteArray.size]; omega) hle).mono ?_
        rintro e w2 ⟨rfl, hb2, hbel2, hg2⟩
        have hn := Aside0.mk (hq.out.next hb2 (by rw [hx.out, H10.out]; rfl) hbel2 hg2)
        clear hb2 hbel2 hg2
        go_wp2_with fail
        go_roundw
        case rel => exact ⟨k + 1, _, by omega, by go_num, by simp [Lib.strCells]; omega, hn⟩
        case measure => simp [intOf]; omega
      have e10 : (c == 10) = false := by simpa using h10
      by_cases h34 : c = 34
      · have e34 : (c == 34) = true := by simpa using h34
        have H34 := Aside0.mk h34
        clear h34 h10
        go_wp2_with fail
        refine (BldG_WriteByte _ _ _ _ 92 _ hq.out.bld (by omega) hle).mono ?_
        rintro e w2 ⟨rfl, hb2, hbel2, hg2⟩
        go_wp2_with fail
        refine (BldG_WriteByte _ _ _ _ c _ hb2 (by simp; omega) (Nat.le_trans hle hbel2.size)).mono ?_
        rintro e w3 ⟨rfl, hb3, hbel3, hg3⟩
        have hn := Aside0.mk (hq.out.next hb3 (by rw [hx.out, H34.out]; simp [escI, nums]) (hbel2.trans hbel3) (hg3.trans hg2))
        clear hb2 hbel2 hg2 hb3 hbel3 hg3
        go_wp2_with fail
        go_roundw
        case rel => exact ⟨k + 1, _, by omega, by go_num, by simp; omega, hn⟩
        case measure => simp [intOf]; omega
      have e34 : (c == 34) = false := by simpa using h34
      by_cases h92 : c = 92
      · have e92 : (c == 92) = true := by simpa using h92
        have H92 := Aside0.mk h92
        clear h92 h34 h10
        go_wp2_with fail
        refine (BldG_WriteByte _ _ _ _ 92 _ hq.out.bld (by omega) hle).mono ?_
        rintro e w2 ⟨rfl, hb2, hbel2, hg2⟩
        go_wp2_with fail
        refine (BldG_WriteByte _ _ _ _ c _ hb2 (by simp; omega) (Nat.le_trans hle hbel2.size)).mono ?_
        rintro e w3 ⟨rfl, hb3, hbel3, hg3⟩
        have hn := Aside0.mk (hq.out.next hb3 (by rw [hx.out, H92.out]; simp [escI, nums]) (hbel2.trans hbel3) (hg3.trans hg2))
        clear hb2 hbel2 hg2 hb3 hbel3 hg3
        go_wp2_with fail
        go_roundw
        case rel => exact ⟨k + 1, _, by omega, by go_num, by simp; omega, hn⟩
        case measure => simp [intOf]; omega
      have e92 : (c == 92) = false := by simpa using h92
      have hesc : Aside0 (¬ c = 10 ∧ ¬ c = 34 ∧ ¬ c = 92) := ⟨h10, h34, h92⟩
      clear h10 h34 h92
      by_cases hodd : c < 32 ∨ 126 < c
      · have hE : Aside0 (escI c = [92, 120, hexI (c / 16), hexI (c % 16)]) := ⟨by
          unfold escI
          rw [if_neg hesc.out.1, if_neg hesc.out.2.1, if_neg hesc.out.2.2]
          rcases hodd with h | h
          · rw [if_pos h]
          · rw [if_neg (by omega), if_pos h]⟩
        have hlo1 : decide (c < 32) = true ∨ (decide (c < 32) = false ∧ decide (126 < c) = true) := by
          rcases hodd with h | h
          · exact .inl (decide_eq_true h)
          · exact .inr ⟨decide_eq_false (by omega), decide_eq_true h⟩
        clear hodd
        rcases hlo1 with hlo | ⟨hlo, hhi⟩
        all_goals
          have hx1 : ∀ h : (c / 16).toNat < (⟨#[48, 49, 50, 51, 52, 53, 54, 55, 56, 57, 97, 98, 99, 100, 101, 102]⟩ : ByteArray).size, ((((⟨#[48, 49, 50, 51, 52, 53, 54, 55, 56, 57, 97, 98, 99, 100, 101, 102]⟩ : ByteArray)[(c / 16).toNat]'h)).toNat : Int) = hexI (c / 16) := fun h => (bt_at hexs (c / 16) h).trans (hex_at (c / 16) (by omega) (by omega))
          have hr1 := hexI_range (d := c / 16) (by omega) (by omega)
          go_wp2_with fail
          refine (BldG_WriteString _ _ _ _ ⟨#[92, 120]⟩ _ hq.out.bld hq.out.byt.1 (by simp [ByteArray.size]; omega) hle).mono ?_
          rintro e w2 ⟨rfl, hb2, hbel2, hg2⟩
          go_wp2_with fail
          refine (BldG_WriteByte _ _ _ _ (hexI (c / 16)) _ hb2 (by simp [Lib.strCells]; omega) (Nat.le_trans hle hbel2.size)).mono ?_
          rintro e w3 ⟨rfl, hb3, hbel3, hg3⟩
          clear hx1
          have hx2 : ∀ h : (c % 16).toNat < (⟨#[48, 49, 50, 51, 52, 53, 54, 55, 56, 57, 97, 98, 99, 100, 101, 102]⟩ : ByteArray).size, ((((⟨#[48, 49, 50, 51, 52, 53, 54, 55, 56, 57, 97, 98, 99, 100, 101, 102]⟩ : ByteArray)[(c % 16).toNat]'h)).toNat : Int) = hexI (c % 16) := fun h => (bt_at hexs (c % 16) h).trans (hex_at (c % 16) (by omega) (by omega))
          go_wp2_with fail
          refine (BldG_WriteByte _ _ _ _ (hexI (c % 16)) _ hb3 (by simp [Lib.strCells]; omega) (Nat.le_trans (Nat.le_trans hle hbel2.size) hbel3.size)).mono ?_
          rintro e w4 ⟨rfl, hb4, hbel4, hg4⟩
          clear hx2
          have hn := Aside0.mk (hq.out.next hb4 (by rw [hx.out, hE.out]; simp [nums, Lib.strCells]) ((hbel2.trans hbel3).trans hbel4) (hg4.trans (hg3.trans hg2)))
          clear hb2 hbel2 hg2 hb3 hbel3 hg3 hb4 hbel4 hg4
          go_wp2_with fail
          go_roundw
          case rel => exact ⟨k + 1, _, by omega, by go_num, by simp [Lib.strCells]; omega, hn⟩
          case measure => simp [intOf]; omega
      · have hE : Aside0 (escI c = [c]) := ⟨by
          unfold escI
          rw [if_neg hesc.out.1, if_neg hesc.out.2.1, if_neg hesc.out.2.2, if_neg (by omega), if_neg (by omega)]⟩
        have hlo : decide (c < 32) = false := decide_eq_false (by omega)
        have hhi : decide (126 < c) = false := decide_eq_false (by omega)
        clear hodd
        go_wp2_with fail
        refine (BldG_WriteByte _ _ _ _ c _ hq.out.bld (by omega) hle).mono ?_
        rintro e w2 ⟨rfl, hb2, hbel2, hg2⟩
        have hn := Aside0.mk (hq.out.next hb2 (by rw [hx.out, hE.out]; simp [nums]) hbel2 hg2)
        clear hb2 hbel2 hg2
        go_wp2_with fail
        go_roundw
        case rel => exact ⟨k + 1, _, by omega, by go_num, by simp; omega, hn⟩
        case measure => simp [intOf]; omega
    · obtain rfl : k = s.size := by omega
      have hcells := Aside0.mk (cells_of_nums (quoteI s) (quoteI_range s))
      go_wp2_with fail
      refine (BldG_WriteByte _ _ _ _ 34 _ hq.out.bld (by omega) hle).mono ?_
      rintro e w2 ⟨rfl, hb2, hbel2, hg2⟩
      have hs2 : bs ++ [Value.int .u8 34] = Lib.byteCells (strOfNums (quoteI s)).data.toList := by
        rw [← hcells.out, hq.out.says]
        unfold quoteI
        rw [nums_append]
        rfl
      rw [hs2] at hb2
      have hfin := Aside0.mk (hq.out.bel.trans hbel2)
      have hle2 := Nat.le_trans hle hbel2.size
      clear hs2 hcells hbel2 hg2 hq
      go_wp2_with fail
      refine (Tryz.Builder_String_any _ _ _ _ hb2.is hle2).mono ?_
      rintro e w3 ⟨rfl, hbel3⟩
      have hfin2 := Aside0.mk (hfin.out.trans hbel3)
      clear hb2 hbel3 hfin
      go_wp2_with fail
      go_ret
      exact ⟨by simp, hfin2.out⟩
theorem value_quoted.calls (a0 : ByteArray) (r : ByteArray) (w : World) (h : value_quoted.f a0 = some r) :
    Calls Tryz.prog 253 #[.string a0] w fun e w' => e = .returned (.string r) ∧ Below w.heap.size w w' := by
  unfold value_quoted.f at h
  split at h
  · rename_i hs
    obtain rfl := Option.some.inj h
    exact quoted_main a0 w hs
  · exact absurd h (by simp)
end Go.Proofs.J.Print
end
section
namespace Go.Proofs.J.Print
open Go.RowKit Go.Proofs.PrintWords Go.Proofs.PrintLast Go.Proofs.PrintMore
def value_Show.f (a0_0 : Int) (a0_1 : Int) (a0_2 : ByteArray) : Option (ByteArray × Int) := (value_Check.f a0_0 a0_1 a0_2).bind fun t223 => (if t223 = 0 then (if a0_0 = 1 then ((strconv_FormatInt.f a0_1 10).bind fun t224 => (some (t224, 0))) else ((value_name.f a0_2).bind fun t225 => (if t225 = true then (some (a0_2, 0)) else ((value_quoted.f a0_2).bind fun t226 => (some (t226, 0)))))) else (some ((⟨#[]⟩ : ByteArray), t223)))
set_option maxHeartbeats 8000000 in
set_option maxRecDepth 100000 in
theorem value_Show.calls (a0_0 : Int) (a0_1 : Int) (a0_2 : ByteArray) (r1 : ByteArray) (r2 : Int) (w : World) (h : value_Show.f a0_0 a0_1 a0_2 = some (r1, r2)) :
  Calls Tryz.prog 198 #[.agg #[.int .i8 a0_0, .int .i64 a0_1, .string a0_2]] w fun e w' => e = .returned (.tuple #[.string r1, .int .i64 r2]) ∧ Below w.heap.size w w' := by
 have hu85 := Tryz.underlying85
 have HB := Aside0.mk (Below.refl w.heap.size w)
 have H : ((value_Check.f a0_0 a0_1 a0_2).bind fun t223 => (if t223 = 0 then (if a0_0 = 1 then ((strconv_FormatInt.f a0_1 10).bind fun t224 => (some (t224, 0))) else ((value_name.f a0_2).bind fun t225 => (if t225 = true then (some (a0_2, 0)) else ((value_quoted.f a0_2).bind fun t226 => (some (t226, 0)))))) else (some ((⟨#[]⟩ : ByteArray), t223)))) = some (r1, r2) := h
 clear h
 replace H := Option.bind_eq_some_iff.mp H
 obtain ⟨t223, A20, H⟩ := H
 replace H : (if t223 = 0 then (if a0_0 = 1 then ((strconv_FormatInt.f a0_1 10).bind fun t224 => (some (t224, 0))) else ((value_name.f a0_2).bind fun t225 => (if t225 = true then (some (a0_2, 0)) else ((value_quoted.f a0_2).bind fun t226 => (some (t226, 0)))))) else (some ((⟨#[]⟩ : ByteArray), t223))) = some (r1, r2) := H
 have A2 := Aside0.mk A20
 clear A20
 by_cases c3 : t223 = 0
 focus
  rw [if_pos c3] at H
  have c3b0 : (t223 == 0) = true := beq_iff_eq.mpr c3
  have c3b1 : (t223 != 0) = false := bne_eq_false_iff_eq.mpr c3
  clear c3
  by_cases c4 : a0_0 = 1
  focus
   rw [if_pos c4] at H
   have c4b0 : (a0_0 == 1) = true := beq_iff_eq.mpr c4
   have c4b1 : (a0_0 != 1) = false := bne_eq_false_iff_eq.mpr c4
   clear c4
   replace H := Option.bind_eq_some_iff.mp H
   obtain ⟨t224, A50, H⟩ := H
   replace H : (some (t224, 0)) = some (r1, r2) := H
   have A5 := Aside0.mk A50
   clear A50
   simp only [Option.some.injEq, Prod.mk.injEq] at H
   obtain ⟨rfl, rfl⟩ := H
  rotate_right
  focus
   rw [if_neg c4] at H
   have c4b0 : (a0_0 == 1) = false := beq_eq_false_iff_ne.mpr c4
   have c4b1 : (a0_0 != 1) = true := bne_iff_ne.mpr c4
   replace H := Option.bind_eq_some_iff.mp H
   obtain ⟨t225, A100, H⟩ := H
   replace H : (if t225 = true then (some (a0_2, 0)) else ((value_quoted.f a0_2).bind fun t226 => (some (t226, 0)))) = some (r1, r2) := H
   have A10 := Aside0.mk A100
   clear A100
   by_cases c11 : t225 = true
   focus
    subst c11
    have H1 : (some (a0_2, 0)) = some (r1, r2) := by rw [if_pos rfl] at H; exact H
    clear H
    have H := H1
    clear H1
    simp only [Option.some.injEq, Prod.mk.injEq] at H
    obtain ⟨rfl, rfl⟩ := H
   rotate_right
   focus
    replace c11 := Bool.eq_false_iff.mpr c11
    subst c11
    have H1 : ((value_quoted.f a0_2).bind fun t226 => (some (t226, 0))) = some (r1, r2) := by rw [if_neg (show ¬ (false = true) by decide)] at H; exact H
    clear H
    have H := H1
    clear H1
    replace H := Option.bind_eq_some_iff.mp H
    obtain ⟨t226, A180, H⟩ := H
    replace H : (some (t226, 0)) = some (r1, r2) := H
    have A18 := Aside0.mk A180
    clear A180
    simp only [Option.some.injEq, Prod.mk.injEq] at H
    obtain ⟨rfl, rfl⟩ := H
 rotate_right
 focus
  rw [if_neg c3] at H
  have c3b0 : (t223 == 0) = false := beq_eq_false_iff_ne.mpr c3
  have c3b1 : (t223 != 0) = true := bne_iff_ne.mpr c3
  simp only [Option.some.injEq, Prod.mk.injEq] at H
  obtain ⟨rfl, rfl⟩ := H
 all_goals (go_enter Tryz.func198, Tryz.ntmps198; go_wp2_with (first | ((with_reducible refine gate_dst (N := 1) rfl ?_); refine boxS 1 #[.int .i8 a0_0, .int .i64 a0_1, .string a0_2] 85 ?_; intro gb222 hg wq1 hbox hb; have n0_ := Aside0.mk (below_step (upB HB.out) hb); have n1_ := Aside0.mk (hbox); have n2_ := Aside0.mk (geB hg (upB HB.out) : w.heap.size ≤ gb222); have n3_ := Aside0.mk (geB hg (upB HB.out) : w.heap.size ≤ gb222); clear HB; have HB := n0_; have BK222 := n1_; have GW222 := n2_; have GE222 := n3_; clear n0_ n1_ n2_ n3_; clear hb hbox hg; have hczq1_0 : wq1.cell? ⟨gb222, 0, none⟩ = some (.int .i8 a0_0) := (blk_cell BK222.out 0).trans rfl; have hczq1_1 : wq1.cell? ⟨gb222, 1, none⟩ = some (.int .i64 a0_1) := (blk_cell BK222.out 1).trans rfl; have hczq1_2 : wq1.cell? ⟨gb222, 2, none⟩ = some (.string a0_2) := (blk_cell BK222.out 2).trans rfl; have hfzq1_0 := blk_frozen BK222.out 0; have hfzq1_1 := blk_frozen BK222.out 1; have hfzq1_2 := blk_frozen BK222.out 2) | ((with_reducible refine gate_callee (f := 199) rfl ?_); refine goesS (some 6) Tryz.func199 #[.agg #[.int .i8 a0_0, .int .i64 a0_1, .string a0_2]] ?_; (with_reducible refine (value_Check.calls a0_0 a0_1 a0_2 t223 _ A2.out).mono ?_); rintro e wq2 ⟨rfl, hb⟩; refine ⟨_, rfl, ?_⟩; have n0_ := Aside0.mk (blk_below (g := gb222) (o := .cells #[.int .i8 a0_0, .int .i64 a0_1, .string a0_2] 85 (0, 0)) (upO BK222.out) hb); have n1_ := Aside0.mk (below_step (upB HB.out) hb); clear BK222; clear HB; have BK222 := n0_; have HB := n1_; clear n0_ n1_; (try clear hb); (try clear hb2); (try clear hk); (try clear hi); have hczq2_0 : wq2.cell? ⟨gb222, 0, none⟩ = some (.int .i8 a0_0) := (blk_cell BK222.out 0).trans rfl; have hczq2_1 : wq2.cell? ⟨gb222, 1, none⟩ = some (.int .i64 a0_1) := (blk_cell BK222.out 1).trans rfl; have hczq2_2 : wq2.cell? ⟨gb222, 2, none⟩ = some (.string a0_2) := (blk_cell BK222.out 2).trans rfl; have hfzq2_0 := blk_frozen BK222.out 0; have hfzq2_1 := blk_frozen BK222.out 1; have hfzq2_2 := blk_frozen BK222.out 2) | ((with_reducible refine gate_callee (f := 199) rfl ?_); refine goesS (some 6) Tryz.func199 #[.agg #[.int .i8 a0_0, .int .i64 a0_1, .string a0_2]] ?_; (with_reducible refine (value_Check.calls a0_0 a0_1 a0_2 t223 _ A2.out).mono ?_); rintro e wq2 ⟨rfl, hb⟩; refine ⟨_, rfl, ?_⟩; have n0_ := Aside0.mk (blk_below (g := gb222) (o := .cells #[.int .i8 a0_0, .int .i64 a0_1, .string a0_2] 85 (0, 0)) (upO BK222.out) hb); have n1_ := Aside0.mk (below_step (upB HB.out) hb); clear BK222; clear HB; have BK222 := n0_; have HB := n1_; clear n0_ n1_; (try clear hb); (try clear hb2); (try clear hk); (try clear hi)) | ((with_reducible refine gate_callee (f := 251) rfl ?_); refine goesS (some 15) Tryz.func251 #[.int .i64 a0_1, .int .i64 10] ?_; (with_reducible refine (strconv_FormatInt.calls a0_1 10 t224 _ A5.out).mono ?_); rintro e w' ⟨rfl, ⟨nd, rfl⟩⟩; refine ⟨_, rfl, ?_⟩) | ((with_reducible refine gate_callee (f := 252) rfl ?_); refine goesS (some 18) Tryz.func252 #[.string a0_2] ?_; (with_reducible refine (value_name.calls a0_2 false _ A10.out).mono ?_); rintro e wq3 ⟨rfl, hb⟩; refine ⟨_, rfl, ?_⟩; have n0_ := Aside0.mk (blk_below (g := gb222) (o := .cells #[.int .i8 a0_0, .int .i64 a0_1, .string a0_2] 85 (0, 0)) (upO BK222.out) hb); have n1_ := Aside0.mk (below_step (upB HB.out) hb); clear BK222; clear HB; have BK222 := n0_; have HB := n1_; clear n0_ n1_; (try clear hb); (try clear hb2); (try clear hk); (try clear hi); have hczq3_0 : wq3.cell? ⟨gb222, 0, none⟩ = some (.int .i8 a0_0) := (blk_cell BK222.out 0).trans rfl; have hczq3_1 : wq3.cell? ⟨gb222, 1, none⟩ = some (.int .i64 a0_1) := (blk_cell BK222.out 1).trans rfl; have hczq3_2 : wq3.cell? ⟨gb222, 2, none⟩ = some (.string a0_2) := (blk_cell BK222.out 2).trans rfl; have hfzq3_0 := blk_frozen BK222.out 0; have hfzq3_1 := blk_frozen BK222.out 1; have hfzq3_2 := blk_frozen BK222.out 2) | ((with_reducible refine gate_callee (f := 252) rfl ?_); refine goesS (some 18) Tryz.func252 #[.string a0_2] ?_; (with_reducible refine (value_name.calls a0_2 true _ A10.out).mono ?_); rintro e wq3 ⟨rfl, hb⟩; refine ⟨_, rfl, ?_⟩; have n0_ := Aside0.mk (blk_below (g := gb222) (o := .cells #[.int .i8 a0_0, .int .i64 a0_1, .string a0_2] 85 (0, 0)) (upO BK222.out) hb); have n1_ := Aside0.mk (below_step (upB HB.out) hb); clear BK222; clear HB; have BK222 := n0_; have HB := n1_; clear n0_ n1_; (try clear hb); (try clear hb2); (try clear hk); (try clear hi); have hczq3_0 : wq3.cell? ⟨gb222, 0, none⟩ = some (.int .i8 a0_0) := (blk_cell BK222.out 0).trans rfl; have hczq3_1 : wq3.cell? ⟨gb222, 1, none⟩ = some (.int .i64 a0_1) := (blk_cell BK222.out 1).trans rfl; have hczq3_2 : wq3.cell? ⟨gb222, 2, none⟩ = some (.string a0_2) := (blk_cell BK222.out 2).trans rfl; have hfzq3_0 := blk_frozen BK222.out 0; have hfzq3_1 := blk_frozen BK222.out 1; have hfzq3_2 := blk_frozen BK222.out 2) | ((with_reducible refine gate_callee (f := 253) rfl ?_); refine goesS (some 23) Tryz.func253 #[.string a0_2] ?_; (with_reducible refine (value_quoted.calls a0_2 t226 _ A18.out).mono ?_); rintro e wq4 ⟨rfl, hb⟩; refine ⟨_, rfl, ?_⟩; have n0_ := Aside0.mk (blk_below (g := gb222) (o := .cells #[.int .i8 a0_0, .int .i64 a0_1, .string a0_2] 85 (0, 0)) (upO BK222.out) hb); have n1_ := Aside0.mk (below_step (upB HB.out) hb); clear BK222; clear HB; have BK222 := n0_; have HB := n1_; clear n0_ n1_; (try clear hb); (try clear hb2); (try clear hk); (try clear hi))); first | (go_ret2; exact ⟨eqE, upB HB.out⟩))
end Go.Proofs.J.Print
end
