/- On the way to the law 'JournalEncodes': what the functions that it reaches compute, step by step, and the plain law (JGp .. JSg). Each theorem states its own conditions. -/
import Derived.Test.YtcinnankefollaaGreatDoorWj
import Derived.BigRegion
import Derived.Defers
import Derived.Laws.BitsLemmas
import Derived.Laws.Pointers
import Derived.Lib.Strings
import Derived.Recover
set_option linter.unusedVariables false
set_option linter.unusedSimpArgs false
section
namespace Go.Proofs.J.Print
open Go.RowKit Go.Proofs.PrintWords Go.Proofs.PrintLast Go.Proofs.PrintMore
set_option maxHeartbeats 8000000 in
set_option maxRecDepth 100000 in
theorem settled_nil (w : World) : Calls Tryz.prog 37 #[.nilIface] w fun e w' => e = .returned (.int .i64 0) ∧ w' = w := by
  have hu128 := Tryz.underlying128
  go_enter Tryz.func37, Tryz.ntmps37
  go_wp2
  go_ret
  exact ⟨rfl, rfl⟩
set_option maxHeartbeats 8000000 in
set_option maxRecDepth 100000 in
theorem settled_log (w : World) : Calls Tryz.prog 37 #[.iface 128 (.agg #[.int .i64 290])] w fun e w' => e = .returned (.int .i64 290) ∧ Below w.heap.size w w' := by
  have hu128 := Tryz.underlying128
  have hta : ∀ w, (Instr.typeAssert (Value.iface 128 (.agg #[.int .i64 290])) 20 128 true).run Tryz.prog w = .ok (.tuple #[.agg #[.int .i64 290], .bool true]) w := fun _ => by kernel_rfl
  go_enter Tryz.func37, Tryz.ntmps37
  go_wp2
  go_ret
  exact ⟨rfl, by first | exact below_alloc (Below.refl _ _) _ | exact below_set (below_alloc (Below.refl _ _) _) (Nat.le_refl _)⟩
end Go.Proofs.J.Print
end
section
namespace Go.Proofs.J.Print
open Go.RowKit Go.Proofs.PrintWords Go.Proofs.PrintLast Go.Proofs.PrintMore
set_option maxHeartbeats 8000000 in
set_option maxRecDepth 100000 in
theorem closure_idle (p1 p2 p3 : Addr) (w : World) :
    CallsD Tryz.prog 36 #[.pointer (some p1), .pointer (some p2), .pointer (some p3)] .returning w fun e u' w' => e = .returned (.tuple #[]) ∧ u' = .returning ∧ w' = w := by
  refine callsD_of_wpS Tryz.func36 rfl fun c₀ cs hu => ?_
  apply wpS_seq
  apply wpS_region
  simp [wpOpsS, go_sem, recoverD, hu, Tryz.ntmps36, Exit.thenS]
  refine (settled_nil w).mono ?_
  rintro e w' ⟨rfl, rfl⟩
  apply wpS_seq
  apply wpS_region
  simp [wpOpsS, go_sem, Exit.thenS]
  refine wpS_cond (t := false) (by simp [Act.eval, Array.replicate]) ?_
  simp only [Bool.false_eq_true, if_false]
  refine wpS_of_wp (wp_skip ?_)
  cases c₀
  simp_all [bodyPostS, results, Tryz.results36]
set_option maxHeartbeats 8000000 in
set_option maxRecDepth 100000 in
theorem closure_panicking (g1 g2 g3 : Nat) (c0 c1 c2 d0 d1 : Value) (older : List PanicEntry) (w : World)
    (h1 : w.heap[g1]? = some (.cells #[c0, c1, c2] 24 (0, 0))) (h2 : w.heap[g2]? = some (.cells #[d0] 3 (0, 0))) (h3 : w.heap[g3]? = some (.cells #[d1] 26 (0, 0))) (h12 : g1 ≠ g2) (h13 : g1 ≠ g3) (h23 : g2 ≠ g3) :
    CallsD Tryz.prog 36 #[.pointer (some ⟨g1, 0, none⟩), .pointer (some ⟨g2, 0, none⟩), .pointer (some ⟨g3, 0, none⟩)] (.panicking ({ v := .iface 128 (.agg #[.int .i64 290]), recovered := false } :: older)) w fun e u' w' =>
      e = .returned (.tuple #[]) ∧ u' = .panicking ({ v := .iface 128 (.agg #[.int .i64 290]), recovered := true } :: older) ∧ ∃ w1, Below w.heap.size w w1 ∧ w' = (((w1.setCell ⟨g1, 0, none⟩ (.int .i64 0)).setCell ⟨g1, 1, none⟩ (.slice none 0 0)).setCell ⟨g1, 2, none⟩ (.slice none 0 0) |>.setCell ⟨g2, 0, none⟩ (.int .i64 0)).setCell ⟨g3, 0, none⟩ (.int .i64 290) := by
  have hu24 := Tryz.underlying24
  refine callsD_of_wpS Tryz.func36 rfl fun c₀ cs hu => ?_
  apply wpS_seq
  apply wpS_region
  simp [wpOpsS, go_sem, recoverD, hu, Tryz.ntmps36, Exit.thenS]
  refine (settled_log w).mono ?_
  rintro e w1 ⟨rfl, hb⟩
  have b1 := blk_below h1 hb
  have b2 := blk_below h2 hb
  have b3 := blk_below h3 hb
  have e10 : w1.cell? ⟨g1, 0, none⟩ = some c0 := (blk_cell b1 0).trans rfl
  have e11 : w1.cell? ⟨g1, 1, none⟩ = some c1 := (blk_cell b1 1).trans rfl
  have e12 : w1.cell? ⟨g1, 2, none⟩ = some c2 := (blk_cell b1 2).trans rfl
  have e20 : w1.cell? ⟨g2, 0, none⟩ = some d0 := (blk_cell b2 0).trans rfl
  have e30 : w1.cell? ⟨g3, 0, none⟩ = some d1 := (blk_cell b3 0).trans rfl
  have f10 := blk_frozen b1 0
  have f11 := blk_frozen b1 1
  have f12 := blk_frozen b1 2
  have f20 := blk_frozen b2 0
  have f30 := blk_frozen b3 0
  apply wpS_seq
  apply wpS_region
  simp [wpOpsS, go_sem, Exit.thenS]
  refine wpS_cond (t := true) (by simp [Act.eval, Array.replicate]) ?_
  simp only [if_true]
  apply wpS_region
  simp [wpOpsS, go_sem, e10, e11, e12, e20, e30, f10, f11, f12, f20, f30, bodyPostS, results, Tryz.results36, h12, h13, h23, h12.symm, h13.symm, h23.symm, hu24]
  exact ⟨w1, hb, rfl⟩
end Go.Proofs.J.Print
end
section
namespace Go.Proofs.J.Print
open Go.RowKit Go.Proofs.PrintWords Go.Proofs.PrintLast Go.Proofs.PrintMore
set_option maxHeartbeats 8000000 in
set_option maxRecDepth 100000 in
theorem decode_panics (k : Nat) (b : ByteArray) (w : World) (h : commitP.f k b = some none) :
    Calls Tryz.prog 13 #[.string b] w fun e w' => e = .returned (.tuple #[.agg #[.int .i64 0, .slice none 0 0, .slice none 0 0], .int .i64 0, .int .i64 290]) ∧ Below w.heap.size w w' := by
  have hu24 := Tryz.underlying24
  have hu103 := Tryz.underlying103
  have A1 := Aside0.mk h
  clear h
  have HB1 := Aside0.mk (Below.refl w.heap.size w)
  have hmf : ∀ (fn : Fn) (first cap : Array Value) (w : World), (Instr.makeFunc fn first cap).run Tryz.prog w = .ok (.func fn first cap) w := fun _ _ _ _ => rfl
  go_enter_defers Tryz.func13, Tryz.ntmps13
  go_wp2_with (first | ((with_reducible refine gate_dst (N := 2) rfl ?_); refine boxS 2 #[.int .i64 0, .slice none 0 0, .slice none 0 0] 24 ?_; intro g2 hg W2 hbox hb; have HB2 := Aside0.mk (below_step HB1.out hb); have L2 := Aside0.mk (by rw [hg]; exact HB1.out.size : w.heap.size ≤ g2); have B2 := Aside0.mk hbox; clear hb hbox hg) | ((with_reducible refine gate_dst (N := 3) rfl ?_); refine boxS 3 #[.int .i64 0] 3 ?_; intro g3 hg W3 hbox hb; have HB3 := Aside0.mk (below_step HB2.out hb); have L3 := Aside0.mk (by rw [hg]; exact HB2.out.size : w.heap.size ≤ g3); have NE2_3 := Aside0.mk (by rw [hg]; exact Nat.ne_of_lt (blk_lt B2.out) : g2 ≠ g3); have n_ := Aside0.mk (blk_below B2.out hb); clear B2; have B2 := n_; clear n_; have B3 := Aside0.mk hbox; clear hb hbox hg) | ((with_reducible refine gate_dst (N := 4) rfl ?_); refine boxS 4 #[.int .i64 0] 26 ?_; intro g4 hg W4 hbox hb; have HB4 := Aside0.mk (below_step HB3.out hb); have L4 := Aside0.mk (by rw [hg]; exact HB3.out.size : w.heap.size ≤ g4); have NE2_4 := Aside0.mk (by rw [hg]; exact Nat.ne_of_lt (blk_lt B2.out) : g2 ≠ g4); have NE3_4 := Aside0.mk (by rw [hg]; exact Nat.ne_of_lt (blk_lt B3.out) : g3 ≠ g4); have n_ := Aside0.mk (blk_below B2.out hb); clear B2; have B2 := n_; clear n_; have n_ := Aside0.mk (blk_below B3.out hb); clear B3; have B3 := n_; clear n_; have B4 := Aside0.mk hbox; clear hb hbox hg) | ((with_reducible refine gate_dst (N := 5) rfl ?_); refine boxS 5 #[.string (⟨#[]⟩ : ByteArray)] 103 ?_; intro g5 hg W5 hbox hb; have HB5 := Aside0.mk (below_step HB4.out hb); have L5 := Aside0.mk (by rw [hg]; exact HB4.out.size : w.heap.size ≤ g5); have NE2_5 := Aside0.mk (by rw [hg]; exact Nat.ne_of_lt (blk_lt B2.out) : g2 ≠ g5); have NE3_5 := Aside0.mk (by rw [hg]; exact Nat.ne_of_lt (blk_lt B3.out) : g3 ≠ g5); have NE4_5 := Aside0.mk (by rw [hg]; exact Nat.ne_of_lt (blk_lt B4.out) : g4 ≠ g5); have n_ := Aside0.mk (blk_below B2.out hb); clear B2; have B2 := n_; clear n_; have n_ := Aside0.mk (blk_below B3.out hb); clear B3; have B3 := n_; clear n_; have n_ := Aside0.mk (blk_below B4.out hb); clear B4; have B4 := n_; clear n_; have B5 := Aside0.mk hbox; clear hb hbox hg; have hc5 : W5.cell? ⟨g5, 0, none⟩ = some (.string (⟨#[]⟩ : ByteArray)) := (blk_cell B5.out 0).trans rfl; have hf5 := blk_frozen B5.out 0) | ((with_reducible refine gate_callee (f := 38) rfl ?_); refine goesP (some 9) Tryz.func38 #[.pointer (some ⟨g5, 0, none⟩)] ?_; (with_reducible refine (commitP.calls k g5 b _ w _ ?side1 ?side2 A1.out).mono ?_); (case side1 => exact (show IsS103 w (W5.setCell ⟨g5, 0, none⟩ (.string b)) g5 b from ⟨by simpa using blk_set B5.out 0 (.string b), L5.out⟩)); (case side2 => exact below_set HB5.out L5.out); rintro e wC ⟨⟨rfl, s', hi⟩, hb, hk⟩; refine ⟨_, rfl, ?_⟩; have n_ := Aside0.mk (KeepBut.blk hk (g' := g2) (o := .cells #[.int .i64 0, .slice none 0 0, .slice none 0 0] 24 (0, 0)) (blk_far B2.out NE2_5.out _) NE2_5.out (by simp)); clear B2; have B2 := n_; clear n_; have n_ := Aside0.mk (KeepBut.blk hk (g' := g3) (o := .cells #[.int .i64 0] 3 (0, 0)) (blk_far B3.out NE3_5.out _) NE3_5.out (by simp)); clear B3; have B3 := n_; clear n_; have n_ := Aside0.mk (KeepBut.blk hk (g' := g4) (o := .cells #[.int .i64 0] 26 (0, 0)) (blk_far B4.out NE4_5.out _) NE4_5.out (by simp)); clear B4; have B4 := n_; clear n_; have HBC := Aside0.mk hb; clear hb hk hi))
  unfold logChain
  refine leaves_cons (f := 36) (args := #[.pointer (some ⟨g2, 0, none⟩), .pointer (some ⟨g3, 0, none⟩), .pointer (some ⟨g4, 0, none⟩)]) (by simp) (by simp [go_sem]) ?_
  refine (closure_panicking g2 g3 g4 _ _ _ _ _ [] _ B2.out B3.out B4.out NE2_3.out NE2_4.out NE3_4.out).mono ?_
  rintro e u' w'' ⟨rfl, rfl, w1, hb, rfl⟩
  have b1 := blk_below B2.out hb
  have b3 := blk_below B3.out hb
  have b4 := blk_below B4.out hb
  have c2 : ((((w1.setCell ⟨g2, 0, none⟩ (.int .i64 0)).setCell ⟨g2, 1, none⟩ (.slice none 0 0)).setCell ⟨g2, 2, none⟩ (.slice none 0 0)).setCell ⟨g3, 0, none⟩ (.int .i64 0) |>.setCell ⟨g4, 0, none⟩ (.int .i64 290)).heap[g2]? = some (.cells #[.int .i64 0, .slice none 0 0, .slice none 0 0] 24 (0, 0)) := blk_far (blk_far (blk_put (blk_put (blk_put b1 0 _ rfl) 1 _ rfl) 2 _ rfl) NE2_3.out _) NE2_4.out _
  have c3 : ((((w1.setCell ⟨g2, 0, none⟩ (.int .i64 0)).setCell ⟨g2, 1, none⟩ (.slice none 0 0)).setCell ⟨g2, 2, none⟩ (.slice none 0 0)).setCell ⟨g3, 0, none⟩ (.int .i64 0) |>.setCell ⟨g4, 0, none⟩ (.int .i64 290)).heap[g3]? = some (.cells #[.int .i64 0] 3 (0, 0)) := blk_far (blk_put (blk_far (blk_far (blk_far b3 (Ne.symm NE2_3.out) _) (Ne.symm NE2_3.out) _) (Ne.symm NE2_3.out) _) 0 _ rfl) NE3_4.out _
  have c4 : ((((w1.setCell ⟨g2, 0, none⟩ (.int .i64 0)).setCell ⟨g2, 1, none⟩ (.slice none 0 0)).setCell ⟨g2, 2, none⟩ (.slice none 0 0)).setCell ⟨g3, 0, none⟩ (.int .i64 0) |>.setCell ⟨g4, 0, none⟩ (.int .i64 290)).heap[g4]? = some (.cells #[.int .i64 290] 26 (0, 0)) := blk_put (blk_far (blk_far (blk_far (blk_far b4 (Ne.symm NE2_4.out) _) (Ne.symm NE2_4.out) _) (Ne.symm NE2_4.out) _) (Ne.symm NE3_4.out) _) 0 _ rfl
  have hfin : Below w.heap.size w ((((w1.setCell ⟨g2, 0, none⟩ (.int .i64 0)).setCell ⟨g2, 1, none⟩ (.slice none 0 0)).setCell ⟨g2, 2, none⟩ (.slice none 0 0)).setCell ⟨g3, 0, none⟩ (.int .i64 0) |>.setCell ⟨g4, 0, none⟩ (.int .i64 290)) := below_set (below_set (below_set (below_set (below_set (below_step HBC.out hb) L2.out) L2.out) L2.out) L3.out) L4.out
  generalize ((((w1.setCell ⟨g2, 0, none⟩ (.int .i64 0)).setCell ⟨g2, 1, none⟩ (.slice none 0 0)).setCell ⟨g2, 2, none⟩ (.slice none 0 0)).setCell ⟨g3, 0, none⟩ (.int .i64 0) |>.setCell ⟨g4, 0, none⟩ (.int .i64 290)) = W2 at c2 c3 c4 hfin ⊢
  have e0 : W2.cell? ⟨g2, 0, none⟩ = some (.int .i64 0) := (blk_cell c2 0).trans rfl
  have e1 : W2.cell? ⟨g2, 1, none⟩ = some (.slice none 0 0) := (blk_cell c2 1).trans rfl
  have e2 : W2.cell? ⟨g2, 2, none⟩ = some (.slice none 0 0) := (blk_cell c2 2).trans rfl
  have e3 : W2.cell? ⟨g3, 0, none⟩ = some (.int .i64 0) := (blk_cell c3 0).trans rfl
  have e4 : W2.cell? ⟨g4, 0, none⟩ = some (.int .i64 290) := (blk_cell c4 0).trans rfl
  simp [Leaves, settle, results, Tryz.results13, go_sem, e0, e1, e2, e3, e4, hu24]
  trace_state
  exact hfin
end Go.Proofs.J.Print
end
section
namespace Go.Proofs.J.Print
open Go.RowKit Go.Proofs.PrintWords Go.Proofs.PrintLast Go.Proofs.PrintMore
set_option maxHeartbeats 8000000 in
set_option maxRecDepth 100000 in
theorem decode_returns (k : Nat) (b : ByteArray) (n : Int) (l1 l2 : List S90) (s' : ByteArray) (w : World) (h : commitP.f k b = some (some ((n, l1, l2), s'))) :
    Calls Tryz.prog 13 #[.string b] w fun e w' => ∃ v1_ v2_ : Value, e = .returned (.tuple #[.agg #[.int .i64 n, v1_, v2_], .int .i64 (wrap64 ((b.size : Int) - (s'.size : Int))), .int .i64 0]) ∧ Kd.S k90 90 w' w.heap.size (fun k_ => some k_ ≠ v2_.ownBlock) v1_ l1 ∧ Kd.S k90 90 w' w.heap.size (fun k_ => some k_ ≠ v1_.ownBlock) v2_ l2 ∧ Below w.heap.size w w' := by
  have hu24 := Tryz.underlying24
  have hu103 := Tryz.underlying103
  have A1 := Aside0.mk h
  clear h
  have HB1 := Aside0.mk (Below.refl w.heap.size w)
  have hmf : ∀ (fn : Fn) (first cap : Array Value) (w : World), (Instr.makeFunc fn first cap).run Tryz.prog w = .ok (.func fn first cap) w := fun _ _ _ _ => rfl
  go_enter_defers Tryz.func13, Tryz.ntmps13
  go_wp2_with (first | ((with_reducible refine gate_dst (N := 2) rfl ?_); refine boxS 2 #[.int .i64 0, .slice none 0 0, .slice none 0 0] 24 ?_; intro g2 hg W2 hbox hb; have HB2 := Aside0.mk (below_step HB1.out hb); have L2 := Aside0.mk (by rw [hg]; exact HB1.out.size : w.heap.size ≤ g2); have B2 := Aside0.mk hbox; clear hb hbox hg) | ((with_reducible refine gate_dst (N := 3) rfl ?_); refine boxS 3 #[.int .i64 0] 3 ?_; intro g3 hg W3 hbox hb; have HB3 := Aside0.mk (below_step HB2.out hb); have L3 := Aside0.mk (by rw [hg]; exact HB2.out.size : w.heap.size ≤ g3); have NE2_3 := Aside0.mk (by rw [hg]; exact Nat.ne_of_lt (blk_lt B2.out) : g2 ≠ g3); have n_ := Aside0.mk (blk_below B2.out hb); clear B2; have B2 := n_; clear n_; have B3 := Aside0.mk hbox; clear hb hbox hg) | ((with_reducible refine gate_dst (N := 4) rfl ?_); refine boxS 4 #[.int .i64 0] 26 ?_; intro g4 hg W4 hbox hb; have HB4 := Aside0.mk (below_step HB3.out hb); have L4 := Aside0.mk (by rw [hg]; exact HB3.out.size : w.heap.size ≤ g4); have NE2_4 := Aside0.mk (by rw [hg]; exact Nat.ne_of_lt (blk_lt B2.out) : g2 ≠ g4); have NE3_4 := Aside0.mk (by rw [hg]; exact Nat.ne_of_lt (blk_lt B3.out) : g3 ≠ g4); have n_ := Aside0.mk (blk_below B2.out hb); clear B2; have B2 := n_; clear n_; have n_ := Aside0.mk (blk_below B3.out hb); clear B3; have B3 := n_; clear n_; have B4 := Aside0.mk hbox; clear hb hbox hg) | ((with_reducible refine gate_dst (N := 5) rfl ?_); refine boxS 5 #[.string (⟨#[]⟩ : ByteArray)] 103 ?_; intro g5 hg W5 hbox hb; have HB5 := Aside0.mk (below_step HB4.out hb); have L5 := Aside0.mk (by rw [hg]; exact HB4.out.size : w.heap.size ≤ g5); have NE2_5 := Aside0.mk (by rw [hg]; exact Nat.ne_of_lt (blk_lt B2.out) : g2 ≠ g5); have NE3_5 := Aside0.mk (by rw [hg]; exact Nat.ne_of_lt (blk_lt B3.out) : g3 ≠ g5); have NE4_5 := Aside0.mk (by rw [hg]; exact Nat.ne_of_lt (blk_lt B4.out) : g4 ≠ g5); have n_ := Aside0.mk (blk_below B2.out hb); clear B2; have B2 := n_; clear n_; have n_ := Aside0.mk (blk_below B3.out hb); clear B3; have B3 := n_; clear n_; have n_ := Aside0.mk (blk_below B4.out hb); clear B4; have B4 := n_; clear n_; have B5 := Aside0.mk hbox; clear hb hbox hg; have hc5 : W5.cell? ⟨g5, 0, none⟩ = some (.string (⟨#[]⟩ : ByteArray)) := (blk_cell B5.out 0).trans rfl; have hf5 := blk_frozen B5.out 0) | ((with_reducible refine gate_callee (f := 38) rfl ?_); refine goesS (some 9) Tryz.func38 #[.pointer (some ⟨g5, 0, none⟩)] ?_; (with_reducible refine (commitP.calls k g5 b _ w _ ?side1 ?side2 A1.out).mono ?_); (case side1 => exact (show IsS103 w (W5.setCell ⟨g5, 0, none⟩ (.string b)) g5 b from ⟨by simpa using blk_set B5.out 0 (.string b), L5.out⟩)); (case side2 => exact below_set HB5.out L5.out); rintro e wC ⟨⟨v1, v2, rfl, hs1, hs2, hi⟩, hb, hk⟩; refine ⟨_, rfl, ?_⟩; have n_ := Aside0.mk (KeepBut.blk hk (g' := g2) (o := .cells #[.int .i64 0, .slice none 0 0, .slice none 0 0] 24 (0, 0)) (blk_far B2.out NE2_5.out _) NE2_5.out (by simp)); clear B2; have B2 := n_; clear n_; have n_ := Aside0.mk (KeepBut.blk hk (g' := g3) (o := .cells #[.int .i64 0] 3 (0, 0)) (blk_far B3.out NE3_5.out _) NE3_5.out (by simp)); clear B3; have B3 := n_; clear n_; have n_ := Aside0.mk (KeepBut.blk hk (g' := g4) (o := .cells #[.int .i64 0] 26 (0, 0)) (blk_far B4.out NE4_5.out _) NE4_5.out (by simp)); clear B4; have B4 := n_; clear n_; have HBC := Aside0.mk hb; have HS1 := Aside0.mk hs1; have HS2 := Aside0.mk hs2; have HI5 := Aside0.mk hi; obtain ⟨Ao1, co1, eo1⟩ := Kd.S_slice HS1.out; subst eo1; obtain ⟨Ao2, co2, eo2⟩ := Kd.S_slice HS2.out; subst eo2; clear hb hk hi hs1 hs2; have hc2_0 : wC.cell? ⟨g2, 0, none⟩ = some (.int .i64 0) := (blk_cell B2.out 0).trans rfl; have hf2_0 := blk_frozen B2.out 0; have hc2_1 : wC.cell? ⟨g2, 1, none⟩ = some (.slice none 0 0) := (blk_cell B2.out 1).trans rfl; have hf2_1 := blk_frozen B2.out 1; have hc2_2 : wC.cell? ⟨g2, 2, none⟩ = some (.slice none 0 0) := (blk_cell B2.out 2).trans rfl; have hf2_2 := blk_frozen B2.out 2; have hc3_0 : wC.cell? ⟨g3, 0, none⟩ = some (.int .i64 0) := (blk_cell B3.out 0).trans rfl; have hf3_0 := blk_frozen B3.out 0; have hc4_0 : wC.cell? ⟨g4, 0, none⟩ = some (.int .i64 0) := (blk_cell B4.out 0).trans rfl; have hf4_0 := blk_frozen B4.out 0; have hc5_0 : wC.cell? ⟨g5, 0, none⟩ = some (.string s') := (blk_cell HI5.out.1 0).trans rfl; have hf5_0 := blk_frozen HI5.out.1 0; have hn23 := NE2_3.out; have hm23 := Ne.symm NE2_3.out; have hn24 := NE2_4.out; have hm24 := Ne.symm NE2_4.out; have hn34 := NE3_4.out; have hm34 := Ne.symm NE3_4.out; have hn25 := NE2_5.out; have hm25 := Ne.symm NE2_5.out; have hn35 := NE3_5.out; have hm35 := Ne.symm NE3_5.out; have hn45 := NE4_5.out; have hm45 := Ne.symm NE4_5.out))
  have b2 : (((wC.setCell ⟨g2, 0, none⟩ (.int .i64 n)).setCell ⟨g2, 1, none⟩ (.slice Ao1 l1.length co1)).setCell ⟨g2, 2, none⟩ (.slice Ao2 l2.length co2)).heap[g2]? = some (.cells #[.int .i64 n, .slice Ao1 l1.length co1, .slice Ao2 l2.length co2] 24 (0, 0)) := blk_put (blk_put (blk_put B2.out 0 _ rfl) 1 _ rfl) 2 _ rfl
  have b3 : (((wC.setCell ⟨g2, 0, none⟩ (.int .i64 n)).setCell ⟨g2, 1, none⟩ (.slice Ao1 l1.length co1)).setCell ⟨g2, 2, none⟩ (.slice Ao2 l2.length co2)).heap[g3]? = some (.cells #[.int .i64 0] 3 (0, 0)) := blk_far (blk_far (blk_far B3.out hm23 _) hm23 _) hm23 _
  have b4 : (((wC.setCell ⟨g2, 0, none⟩ (.int .i64 n)).setCell ⟨g2, 1, none⟩ (.slice Ao1 l1.length co1)).setCell ⟨g2, 2, none⟩ (.slice Ao2 l2.length co2)).heap[g4]? = some (.cells #[.int .i64 0] 26 (0, 0)) := blk_far (blk_far (blk_far B4.out hm24 _) hm24 _) hm24 _
  have b5 : (((wC.setCell ⟨g2, 0, none⟩ (.int .i64 n)).setCell ⟨g2, 1, none⟩ (.slice Ao1 l1.length co1)).setCell ⟨g2, 2, none⟩ (.slice Ao2 l2.length co2)).heap[g5]? = some (.cells #[.string s'] 103 (0, 0)) := blk_far (blk_far (blk_far HI5.out.1 hm25 _) hm25 _) hm25 _
  have HBW : Below w.heap.size w (((wC.setCell ⟨g2, 0, none⟩ (.int .i64 n)).setCell ⟨g2, 1, none⟩ (.slice Ao1 l1.length co1)).setCell ⟨g2, 2, none⟩ (.slice Ao2 l2.length co2)) := below_set (below_set (below_set HBC.out L2.out) L2.out) L2.out
  have S1 : Kd.S k90 90 (((wC.setCell ⟨g2, 0, none⟩ (.int .i64 n)).setCell ⟨g2, 1, none⟩ (.slice Ao1 l1.length co1)).setCell ⟨g2, 2, none⟩ (.slice Ao2 l2.length co2)) w.heap.size (fun k_ => some k_ ≠ (.slice Ao2 l2.length co2 : Value).ownBlock) (.slice Ao1 l1.length co1) l1 :=
    Kd.S_set (Kd.S_set (Kd.S_set (Kd.S_lower HS1.out (below_size (below_set HB5.out L5.out))) B2.out (by decide) 0 _) (blk_put B2.out 0 (.int .i64 n) rfl) (by decide) 1 _) (blk_put (blk_put B2.out 0 (.int .i64 n) rfl) 1 (.slice Ao1 l1.length co1) rfl) (by decide) 2 _
  have S2 : Kd.S k90 90 (((wC.setCell ⟨g2, 0, none⟩ (.int .i64 n)).setCell ⟨g2, 1, none⟩ (.slice Ao1 l1.length co1)).setCell ⟨g2, 2, none⟩ (.slice Ao2 l2.length co2)) w.heap.size (fun k_ => some k_ ≠ (.slice Ao1 l1.length co1 : Value).ownBlock) (.slice Ao2 l2.length co2) l2 :=
    Kd.S_set (Kd.S_set (Kd.S_set (Kd.S_lower HS2.out (below_size (below_set HB5.out L5.out))) B2.out (by decide) 0 _) (blk_put B2.out 0 (.int .i64 n) rfl) (by decide) 1 _) (blk_put (blk_put B2.out 0 (.int .i64 n) rfl) 1 (.slice Ao1 l1.length co1) rfl) (by decide) 2 _
  generalize (((wC.setCell ⟨g2, 0, none⟩ (.int .i64 n)).setCell ⟨g2, 1, none⟩ (.slice Ao1 l1.length co1)).setCell ⟨g2, 2, none⟩ (.slice Ao2 l2.length co2)) = W3 at b2 b3 b4 b5 HBW S1 S2 ⊢
  clear hc2_0 hf2_0 hc2_1 hf2_1 hc2_2 hf2_2 hc3_0 hf3_0 hc4_0 hf4_0 hc5_0 hf5_0
  have hc2_0 : W3.cell? ⟨g2, 0, none⟩ = some (.int .i64 n) := (blk_cell b2 0).trans rfl
  have hc2_1 : W3.cell? ⟨g2, 1, none⟩ = some (.slice Ao1 l1.length co1) := (blk_cell b2 1).trans rfl
  have hc2_2 : W3.cell? ⟨g2, 2, none⟩ = some (.slice Ao2 l2.length co2) := (blk_cell b2 2).trans rfl
  have hc3_0 : W3.cell? ⟨g3, 0, none⟩ = some (.int .i64 0) := (blk_cell b3 0).trans rfl
  have hc4_0 : W3.cell? ⟨g4, 0, none⟩ = some (.int .i64 0) := (blk_cell b4 0).trans rfl
  have hc5_0 : W3.cell? ⟨g5, 0, none⟩ = some (.string s') := (blk_cell b5 0).trans rfl
  have hf2_0 := blk_frozen b2 0
  have hf2_1 := blk_frozen b2 1
  have hf2_2 := blk_frozen b2 2
  have hf3_0 := blk_frozen b3 0
  have hf4_0 := blk_frozen b4 0
  have hf5_0 := blk_frozen b5 0
  have HBX := Aside0.mk HBW
  have HSX1 := Aside0.mk S1
  have HSX2 := Aside0.mk S2
  have BX2 := Aside0.mk b2
  have BX3 := Aside0.mk b3
  have BX4 := Aside0.mk b4
  clear b2 b3 b4 b5 HBW S1 S2 B2 B3 B4 HI5 HS1 HS2 HBC
  go_region
  go_wp2
  refine leaves_cons (f := 36) (args := #[.pointer (some ⟨g2, 0, none⟩), .pointer (some ⟨g3, 0, none⟩), .pointer (some ⟨g4, 0, none⟩)]) (by simp) (by simp [go_sem]) ?_
  refine (closure_idle _ _ _ _).mono ?_
  rintro e u' w'' ⟨rfl, rfl, rfl⟩
  have d2 : ((((((W3.setCell ⟨g2, 0, none⟩ (.int .i64 n)).setCell ⟨g2, 1, none⟩ (.slice Ao1 l1.length co1)).setCell ⟨g2, 2, none⟩ (.slice Ao2 l2.length co2)).setCell ⟨g3, 0, none⟩ (.int .i64 (wrap64 ((b.size : Int) - (s'.size : Int))))).setCell ⟨g4, 0, none⟩ (.int .i64 0)).drew).heap[g2]? = some (.cells #[.int .i64 n, .slice Ao1 l1.length co1, .slice Ao2 l2.length co2] 24 (0, 0)) := blk_drew (blk_far (blk_far (blk_put (blk_put (blk_put BX2.out 0 _ rfl) 1 _ rfl) 2 _ rfl) hn23 _) hn24 _)
  have d3 : ((((((W3.setCell ⟨g2, 0, none⟩ (.int .i64 n)).setCell ⟨g2, 1, none⟩ (.slice Ao1 l1.length co1)).setCell ⟨g2, 2, none⟩ (.slice Ao2 l2.length co2)).setCell ⟨g3, 0, none⟩ (.int .i64 (wrap64 ((b.size : Int) - (s'.size : Int))))).setCell ⟨g4, 0, none⟩ (.int .i64 0)).drew).heap[g3]? = some (.cells #[.int .i64 (wrap64 ((b.size : Int) - (s'.size : Int)))] 3 (0, 0)) := blk_drew (blk_far (blk_put (blk_far (blk_far (blk_far BX3.out hm23 _) hm23 _) hm23 _) 0 _ rfl) hn34 _)
  have d4 : ((((((W3.setCell ⟨g2, 0, none⟩ (.int .i64 n)).setCell ⟨g2, 1, none⟩ (.slice Ao1 l1.length co1)).setCell ⟨g2, 2, none⟩ (.slice Ao2 l2.length co2)).setCell ⟨g3, 0, none⟩ (.int .i64 (wrap64 ((b.size : Int) - (s'.size : Int))))).setCell ⟨g4, 0, none⟩ (.int .i64 0)).drew).heap[g4]? = some (.cells #[.int .i64 0] 26 (0, 0)) := blk_drew (blk_put (blk_far (blk_far (blk_far (blk_far BX4.out hm24 _) hm24 _) hm24 _) hm34 _) 0 _ rfl)
  have hfin : Below w.heap.size w (((((W3.setCell ⟨g2, 0, none⟩ (.int .i64 n)).setCell ⟨g2, 1, none⟩ (.slice Ao1 l1.length co1)).setCell ⟨g2, 2, none⟩ (.slice Ao2 l2.length co2)).setCell ⟨g3, 0, none⟩ (.int .i64 (wrap64 ((b.size : Int) - (s'.size : Int))))).setCell ⟨g4, 0, none⟩ (.int .i64 0)).drew := below_drew1 (below_set (below_set (below_set (below_set (below_set HBX.out L2.out) L2.out) L2.out) L3.out) L4.out)
  have SS1 : Kd.S k90 90 (((((W3.setCell ⟨g2, 0, none⟩ (.int .i64 n)).setCell ⟨g2, 1, none⟩ (.slice Ao1 l1.length co1)).setCell ⟨g2, 2, none⟩ (.slice Ao2 l2.length co2)).setCell ⟨g3, 0, none⟩ (.int .i64 (wrap64 ((b.size : Int) - (s'.size : Int))))).setCell ⟨g4, 0, none⟩ (.int .i64 0)).drew w.heap.size (fun k_ => some k_ ≠ (.slice Ao2 l2.length co2 : Value).ownBlock) (.slice Ao1 l1.length co1) l1 :=
    Kd.S_drew (Kd.S_set (Kd.S_set (Kd.S_set (Kd.S_set (Kd.S_set HSX1.out BX2.out (by decide) 0 _) (blk_put BX2.out 0 (.int .i64 n) rfl) (by decide) 1 _) (blk_put (blk_put BX2.out 0 (.int .i64 n) rfl) 1 (.slice Ao1 l1.length co1) rfl) (by decide) 2 _) (blk_far (blk_far (blk_far BX3.out hm23 _) hm23 _) hm23 _) (by decide) 0 _) (blk_far (blk_far (blk_far (blk_far BX4.out hm24 _) hm24 _) hm24 _) hm34 _) (by decide) 0 _)
  have SS2 : Kd.S k90 90 (((((W3.setCell ⟨g2, 0, none⟩ (.int .i64 n)).setCell ⟨g2, 1, none⟩ (.slice Ao1 l1.length co1)).setCell ⟨g2, 2, none⟩ (.slice Ao2 l2.length co2)).setCell ⟨g3, 0, none⟩ (.int .i64 (wrap64 ((b.size : Int) - (s'.size : Int))))).setCell ⟨g4, 0, none⟩ (.int .i64 0)).drew w.heap.size (fun k_ => some k_ ≠ (.slice Ao1 l1.length co1 : Value).ownBlock) (.slice Ao2 l2.length co2) l2 :=
    Kd.S_drew (Kd.S_set (Kd.S_set (Kd.S_set (Kd.S_set (Kd.S_set HSX2.out BX2.out (by decide) 0 _) (blk_put BX2.out 0 (.int .i64 n) rfl) (by decide) 1 _) (blk_put (blk_put BX2.out 0 (.int .i64 n) rfl) 1 (.slice Ao1 l1.length co1) rfl) (by decide) 2 _) (blk_far (blk_far (blk_far BX3.out hm23 _) hm23 _) hm23 _) (by decide) 0 _) (blk_far (blk_far (blk_far (blk_far BX4.out hm24 _) hm24 _) hm24 _) hm34 _) (by decide) 0 _)
  generalize (((((W3.setCell ⟨g2, 0, none⟩ (.int .i64 n)).setCell ⟨g2, 1, none⟩ (.slice Ao1 l1.length co1)).setCell ⟨g2, 2, none⟩ (.slice Ao2 l2.length co2)).setCell ⟨g3, 0, none⟩ (.int .i64 (wrap64 ((b.size : Int) - (s'.size : Int))))).setCell ⟨g4, 0, none⟩ (.int .i64 0)).drew = W5 at d2 d3 d4 hfin SS1 SS2 ⊢
  have e0 : W5.cell? ⟨g2, 0, none⟩ = some (.int .i64 n) := (blk_cell d2 0).trans rfl
  have e1 : W5.cell? ⟨g2, 1, none⟩ = some (.slice Ao1 l1.length co1) := (blk_cell d2 1).trans rfl
  have e2 : W5.cell? ⟨g2, 2, none⟩ = some (.slice Ao2 l2.length co2) := (blk_cell d2 2).trans rfl
  have e3 : W5.cell? ⟨g3, 0, none⟩ = some (.int .i64 (wrap64 ((b.size : Int) - (s'.size : Int)))) := (blk_cell d3 0).trans rfl
  have e4 : W5.cell? ⟨g4, 0, none⟩ = some (.int .i64 0) := (blk_cell d4 0).trans rfl
  simp [Leaves, settle, results, Tryz.results13, go_sem, e0, e1, e2, e3, e4]
  exact ⟨_, _, ⟨rfl, rfl⟩, SS1, SS2, hfin⟩
end Go.Proofs.J.Print
end
section
namespace Go.Proofs.J.Print
open Go.RowKit Go.Proofs.PrintWords Go.Proofs.PrintLast Go.Proofs.PrintMore
def decodeOf (a0 : ByteArray) (r : Option ((Int × List S90 × List S90) × ByteArray)) : Int × (List (S90)) × (List (S90)) × Int × Int := match r with
  | none => (0, [], [], 0, 290)
  | some ((n, l1, l2), rest) => (n, l1, l2, wrap64 ((a0.size : Int) - (rest.size : Int)), 0)
def journal_Decode.f (k : Nat) (a0 : ByteArray) : Option (Int × (List (S90)) × (List (S90)) × Int × Int) := (commitP.f k a0).bind fun r => some (decodeOf a0 r)
theorem journal_Decode.calls (k : Nat) (a0 : ByteArray) (r1 : Int) (r2 : List (S90)) (r3 : List (S90)) (r4 : Int) (r5 : Int) (w : World) (h : journal_Decode.f k a0 = some (r1, r2, r3, r4, r5)) :
    Calls Tryz.prog 13 #[.string a0] w fun e w' => ∃ v1_ v2_ : Value, e = .returned (.tuple #[.agg #[.int .i64 r1, v1_, v2_], .int .i64 r4, .int .i64 r5]) ∧ Kd.S k90 90 w' w.heap.size (fun k_ => some k_ ≠ v2_.ownBlock) v1_ r2 ∧ Kd.S k90 90 w' w.heap.size (fun k_ => some k_ ≠ v1_.ownBlock) v2_ r3 ∧ Below w.heap.size w w' := by
  unfold journal_Decode.f at h
  obtain ⟨r, hr, h⟩ := Option.bind_eq_some_iff.mp h
  cases r with
  | none =>
    simp only [decodeOf, Option.some.injEq, Prod.mk.injEq] at h
    obtain ⟨rfl, rfl, rfl, rfl, rfl⟩ := h
    refine (decode_panics k a0 w hr).mono ?_
    rintro e w' ⟨rfl, hb⟩
    exact ⟨_, _, rfl, Kd.S_nil _ _ _ _ _, Kd.S_nil _ _ _ _ _, hb⟩
  | some p =>
    obtain ⟨⟨n, l1, l2⟩, rest⟩ := p
    simp only [decodeOf, Option.some.injEq, Prod.mk.injEq] at h
    obtain ⟨rfl, rfl, rfl, rfl, rfl⟩ := h
    refine (decode_returns k a0 _ _ _ rest w hr).mono ?_
    rintro e w' ⟨v1, v2, rfl, s1, s2, hb⟩
    exact ⟨_, _, rfl, s1, s2, hb⟩
end Go.Proofs.J.Print
end
section
namespace Go.Proofs.J.Pure
open Go.RowKit Go.Proofs.J.Print Go.Proofs.PrintWords Go.Proofs.PrintLast Go.Proofs.PrintMore
def Ev {α : Type} (g : Nat → Option α) (v : α) : Prop := ∃ K, ∀ k, K ≤ k → g k = some v
theorem Ev.succ {α : Type} {g : Nat → Option α} {v : α} (h : Ev (fun k => g (k + 1)) v) : Ev g v := by
  obtain ⟨K, h⟩ := h
  refine ⟨K + 1, fun k hk => ?_⟩
  obtain ⟨j, rfl⟩ : ∃ j, k = j + 1 := ⟨k - 1, by omega⟩
  exact h j (by omega)
theorem Ev.const {α : Type} {o : Option α} {v : α} (h : o = some v) : Ev (fun _ => o) v := ⟨0, fun _ _ => h⟩
theorem Ev.bind {α β : Type} {g : Nat → Option α} {v : α} {f : Nat → α → Option β} {r : β} (h : Ev g v) (h2 : Ev (fun k => f k v) r) : Ev (fun k => (g k).bind (f k)) r := by
  obtain ⟨K, h⟩ := h
  obtain ⟨L, h2⟩ := h2
  refine ⟨max K L, fun k hk => ?_⟩
  show (g k).bind (f k) = some r
  rw [h k (by omega), Option.bind_some]
  exact h2 k (by omega)
theorem Ev.iteT {α : Type} {c : Prop} [Decidable c] {g h : Nat → Option α} {v : α} (hc : c) (hg : Ev g v) : Ev (fun k => if c then g k else h k) v := by simpa only [if_pos hc] using hg
theorem Ev.iteF {α : Type} {c : Prop} [Decidable c] {g h : Nat → Option α} {v : α} (hc : ¬ c) (hg : Ev h v) : Ev (fun k => if c then g k else h k) v := by simpa only [if_neg hc] using hg
theorem Ev.congr {α : Type} {g h : Nat → Option α} {v : α} (e : ∀ k, g k = h k) (hg : Ev h v) : Ev g v := by
  obtain ⟨K, hg⟩ := hg
  exact ⟨K, fun k hk => (e k).trans (hg k hk)⟩
end Go.Proofs.J.Pure
end
section
namespace Go.Proofs.J.Pure
open Go.RowKit Go.Proofs.J.Print Go.Proofs.PrintWords Go.Proofs.PrintLast Go.Proofs.PrintMore
theorem bx_lc (a b c : BitVec 16) : a ^^^ (b ^^^ c) = b ^^^ (a ^^^ c) := by rw [← BitVec.xor_assoc, BitVec.xor_comm a b, BitVec.xor_assoc]
theorem bx_self (a b : BitVec 16) : a ^^^ (a ^^^ b) = b := by rw [← BitVec.xor_assoc]; simp
def stU (s : BitVec 16) : BitVec 16 := (s <<< 1) ^^^ (if s.msb then 4129#16 else 0#16)
theorem stU_xor (a b : BitVec 16) : stU (a ^^^ b) = stU a ^^^ stU b := by
  unfold stU
  rw [BitVec.msb_xor, BitVec.shiftLeft_xor_distrib]
  cases a.msb <;> cases b.msb <;> simp [BitVec.xor_assoc, BitVec.xor_comm, bx_lc, bx_self]
def stV : Nat → BitVec 16 → BitVec 16
  | 0, s => s
  | n + 1, s => stU (stV n s)
theorem stV_xor : ∀ (n : Nat) (a b : BitVec 16), stV n (a ^^^ b) = stV n a ^^^ stV n b
  | 0, _, _ => rfl
  | n + 1, a, b => by simp only [stV]; rw [stV_xor n, stU_xor]
theorem stV_add : ∀ (m n : Nat) (a : BitVec 16), stV (m + n) a = stV m (stV n a)
  | 0, n, a => by rw [Nat.zero_add]; rfl
  | m + 1, n, a => by rw [Nat.succ_add]; simp only [stV]; rw [stV_add m]
theorem stV_byte : ∀ b : Nat, b < 256 → stV 8 (BitVec.ofNat 16 b) = BitVec.ofNat 16 (b * 256) := by decide +kernel
theorem st_bit : ∀ b : Nat, b < 256 → ∀ j : Nat, j < 8 → stU (BitVec.ofNat 16 (b >>> (8 - j))) ^^^ BitVec.ofNat 16 (b >>> (7 - j) % 2) = BitVec.ofNat 16 (b >>> (7 - j)) := by decide +kernel
def stX (n : Nat) (B : Nat → Nat) (t : Nat) : Nat := if t < 8 * n then B (t / 8) >>> (7 - t % 8) % 2 else 0
def stM (n : Nat) (B : Nat → Nat) : Nat → BitVec 16
  | 0 => 0
  | t + 1 => stU (stM n B t) ^^^ BitVec.ofNat 16 (stX n B t)
def stI : Nat → BitVec 16
  | 0 => 0
  | t + 1 => stU (stI t) ^^^ (if t < 16 then 1#16 else 0#16)
def stR (n : Nat) (B : Nat → Nat) : Nat → BitVec 16
  | 0 => 0
  | t + 1 => stU (stR n B t) ^^^ BitVec.ofNat 16 (if t < 16 then 1 - stX n B t else stX n B t)
def stP (B : Nat → Nat) : Nat → BitVec 16
  | 0 => 65535#16
  | i + 1 => stV 8 (stP B i ^^^ BitVec.ofNat 16 (B i * 256))
theorem stX_le (n : Nat) (B : Nat → Nat) (t : Nat) : stX n B t ≤ 1 := by
  unfold stX
  split
  · have := Nat.mod_lt (B (t / 8) >>> (7 - t % 8)) (show 0 < 2 by decide)
    omega
  · omega
theorem stR_eq (n : Nat) (B : Nat → Nat) : ∀ t, stR n B t = stM n B t ^^^ stI t
  | 0 => by simp [stR, stM, stI]
  | t + 1 => by
    simp only [stR, stM, stI]
    rw [stR_eq n B t, stU_xor]
    have hx := stX_le n B t
    have h01 : stX n B t = 0 ∨ stX n B t = 1 := by omega
    by_cases h : t < 16
    · rw [if_pos h, if_pos h]
      rcases h01 with e | e <;> rw [e] <;> simp [BitVec.xor_assoc, BitVec.xor_comm, bx_lc, bx_self]
    · rw [if_neg h, if_neg h]
      rcases h01 with e | e <;> rw [e] <;> simp [BitVec.xor_assoc, BitVec.xor_comm, bx_lc, bx_self]
theorem stI_16 : stI 16 = 65535#16 := by decide +kernel
theorem stI_add : ∀ m, stI (16 + m) = stV m 65535#16
  | 0 => stI_16
  | m + 1 => by
    rw [← Nat.add_assoc]
    simp only [stI, stV]
    rw [stI_add m, if_neg (by omega)]
    simp
theorem stM_bits (n : Nat) (B : Nat → Nat) (hB : ∀ i, B i < 256) (i : Nat) (hi : i < n) : ∀ j, j ≤ 8 → stM n B (8 * i + j) = stV j (stM n B (8 * i)) ^^^ BitVec.ofNat 16 (B i >>> (8 - j))
  | 0, _ => by
    have : B i >>> 8 = 0 := by rw [Nat.shiftRight_eq_div_pow]; have := hB i; omega
    simp [stV, this]
  | j + 1, hj => by
    rw [← Nat.add_assoc]
    simp only [stM, stV]
    rw [stM_bits n B hB i hi j (by omega), stU_xor, BitVec.xor_assoc]
    have ex : stX n B (8 * i + j) = B i >>> (7 - j) % 2 := by
      unfold stX
      rw [if_pos (by omega), show (8 * i + j) / 8 = i by omega, show (8 * i + j) % 8 = j by omega]
    rw [ex, st_bit (B i) (hB i) j (by omega), show 8 - (j + 1) = 7 - j by omega]
theorem stM_byte (n : Nat) (B : Nat → Nat) (hB : ∀ i, B i < 256) (i : Nat) (hi : i < n) : stM n B (8 * (i + 1)) = stV 8 (stM n B (8 * i)) ^^^ BitVec.ofNat 16 (B i) := by
  have h := stM_bits n B hB i hi 8 (by omega)
  rw [show 8 * (i + 1) = 8 * i + 8 by omega, h]
  simp
theorem stM_end (n : Nat) (B : Nat → Nat) : ∀ m, stM n B (8 * n + m) = stV m (stM n B (8 * n))
  | 0 => rfl
  | m + 1 => by
    rw [← Nat.add_assoc]
    simp only [stM, stV]
    rw [stM_end n B m]
    unfold stX
    rw [if_neg (by omega)]
    simp
theorem stP_eq (n : Nat) (B : Nat → Nat) (hB : ∀ i, B i < 256) : ∀ i, i ≤ n → stP B i = stV 16 (stM n B (8 * i)) ^^^ stV (8 * i) 65535#16
  | 0, _ => by
    have : stV 16 0#16 = 0#16 := by decide +kernel
    simp [stP, stM, stV, this]
    show _ = stV 16 0#16 ^^^ _
    rw [this]
    simp
  | i + 1, hi => by
    simp only [stP]
    rw [stP_eq n B hB i (by omega), stM_byte n B hB i (by omega), stV_xor, stV_xor, stV_xor, ← stV_add, ← stV_add, ← stV_add]
    rw [show (16 + 8 : Nat) = 8 + 16 by omega]
    rw [show stV 16 (BitVec.ofNat 16 (B i)) = stV 8 (BitVec.ofNat 16 (B i * 256)) by exact (stV_add 8 8 _).trans (by rw [stV_byte _ (hB i)])]
    rw [show 8 * (i + 1) = 8 + 8 * i by omega]
    simp [BitVec.xor_assoc, BitVec.xor_comm, bx_lc, bx_self]
theorem st_one (n : Nat) (B : Nat → Nat) (hB : ∀ i, B i < 256) : stR n B (8 * n + 16) = stP B n := by
  rw [stR_eq, stM_end, stP_eq n B hB n (Nat.le_refl _), show 8 * n + 16 = 16 + 8 * n by omega, stI_add]
end Go.Proofs.J.Pure
end
section
namespace Go.Proofs.J.Pure
open Go.RowKit Go.Proofs.J.Print Go.Proofs.PrintWords Go.Proofs.PrintLast Go.Proofs.PrintMore
theorem bits_xor_nat (k : IntKind) (j : Nat) (hj : j ≤ k.bits) (hk : ∀ n : Int, 0 ≤ n → n < 2 ^ j → k.wrap n = n) (a b : Nat) (ha : a < 2 ^ j) (hb : b < 2 ^ j) :
    Go.bits .xor k a b = ((a ^^^ b : Nat) : Int) := by
  have hp : 2 ^ j ≤ 2 ^ k.bits := Nat.pow_le_pow_right (by decide) hj
  have ha' : a % 2 ^ k.bits = a := Nat.mod_eq_of_lt (Nat.lt_of_lt_of_le ha hp)
  have hb' : b % 2 ^ k.bits = b := Nat.mod_eq_of_lt (Nat.lt_of_lt_of_le hb hp)
  simp only [Go.bits, BitVec.ofInt_natCast, BitVec.toNat_xor, BitVec.toNat_ofNat, ha', hb']
  exact hk _ (Int.natCast_nonneg _) (by exact_mod_cast Nat.xor_lt_two_pow ha hb)
theorem wraps_u16 (n : Int) (h₀ : 0 ≤ n) (h₁ : n < 2 ^ 16) : IntKind.u16.wrap n = n := by
  have : IntKind.u16.wrap n = n % 65536 := by simp [IntKind.wrap, IntKind.bits, IntKind.signed]
  rw [this]; omega
theorem wrap_u16 (n : Int) : IntKind.u16.wrap n = n % 65536 := by simp [IntKind.wrap, IntKind.bits, IntKind.signed]
theorem wrap_u64 (n : Int) : IntKind.u64.wrap n = n % 18446744073709551616 := by simp [IntKind.wrap, IntKind.bits, IntKind.signed]
theorem wraps_i64 (n : Int) (h₀ : 0 ≤ n) (h₁ : n < 2 ^ 63) : IntKind.i64.wrap n = n := by rw [IntKind.wrap_i64]; omega
theorem w64 (n : Int) (h₀ : -9223372036854775808 ≤ n) (h₁ : n ≤ 9223372036854775807) : wrap64 n = n := by unfold wrap64; omega
theorem st_lt (s : BitVec 16) : s.toNat < 65536 := s.isLt
theorem ex_one (q : Nat) : 2 * q ^^^ 1 = 2 * q + 1 := by
  apply Nat.eq_of_testBit_eq
  intro i
  cases i with
  | zero => simp [Nat.testBit_zero]
  | succ i =>
    rw [Nat.testBit_xor, Nat.testBit_succ, Nat.testBit_succ, Nat.testBit_succ]
    rw [show 2 * q / 2 = q by omega, show 1 / 2 = 0 by omega, show (2 * q + 1) / 2 = q by omega]
    simp
theorem stU_toNat (s : BitVec 16) : (stU s).toNat = if s.toNat < 32768 then 2 * s.toNat else (2 * s.toNat - 65536) ^^^ 4129 := by
  have hs := st_lt s
  unfold stU
  rw [BitVec.toNat_xor, BitVec.toNat_shiftLeft, BitVec.msb_eq_decide, Nat.shiftLeft_eq]
  by_cases h : s.toNat < 32768
  · rw [if_pos h, if_neg (by simp; omega)]
    rw [Nat.mod_eq_of_lt (by omega)]
    simp
    omega
  · rw [if_neg h, if_pos (by simp; omega)]
    rw [show s.toNat * 2 ^ 1 % 2 ^ 16 = 2 * s.toNat - 65536 by omega]
    rfl
theorem stU_bit (s : BitVec 16) (b : Nat) (hb : b ≤ 1) : (stU s ^^^ BitVec.ofNat 16 b).toNat = if 2 * s.toNat + b < 65536 then 2 * s.toNat + b else (2 * s.toNat + b - 65536) ^^^ 4129 := by
  have hs := st_lt s
  rw [BitVec.toNat_xor, stU_toNat, BitVec.toNat_ofNat, Nat.mod_eq_of_lt (by omega)]
  have h01 : b = 0 ∨ b = 1 := by omega
  by_cases h : s.toNat < 32768
  · rw [if_pos h, if_pos (by omega)]
    rcases h01 with rfl | rfl
    · simp
    · exact ex_one _
  · rw [if_neg h, if_neg (by omega)]
    rcases h01 with rfl | rfl
    · simp
    · rw [show 2 * s.toNat - 65536 = 2 * (s.toNat - 32768) by omega, show 2 * s.toNat + 1 - 65536 = 2 * (s.toNat - 32768) + 1 by omega, ← ex_one, Nat.xor_assoc, Nat.xor_assoc, Nat.xor_comm 1 4129]
def byt (b : ByteArray) (i : Nat) : Nat := (bt b i).toNat
theorem bt_byt (b : ByteArray) (i : Nat) : bt b (i : Int) = (byt b i : Int) := by
  have := (bt_range b i).1
  unfold byt; omega
theorem byt_lt (b : ByteArray) (i : Nat) : byt b i < 256 := by
  have := bt_range b i
  unfold byt; omega
theorem sum_step (b : ByteArray) (s : BitVec 16) (n i : Int) (j : Nat) (hj : j < 8) (v : Int)
    (h : Ev (fun k => journal_Sum.l1 k b ((stU s).toNat : Int) n i ((j + 1 : Nat) : Int)) v) : Ev (fun k => journal_Sum.l1 k b (s.toNat : Int) n i (j : Int)) v := by
  have hs := st_lt s
  refine Ev.succ (Ev.congr (fun k => ?_) h)
  rw [journal_Sum.l1, if_pos (by omega)]
  have e1 : Go.bits .and .u16 (s.toNat : Int) 32768 = ((s.toNat &&& 32768 : Nat) : Int) := (bits_nat .u16 16 (by decide) wraps_u16 s.toNat 32768 hs (by decide)).1
  have e2 : wrap64 ((j : Int) + 1) = ((j + 1 : Nat) : Int) := by rw [w64] <;> omega
  have e3 : s.toNat &&& 32768 = if s.toNat < 32768 then 0 else 32768 := by
    apply Nat.eq_of_testBit_eq
    intro i
    have hp : Nat.testBit 32768 i = decide (15 = i) := by rw [show (32768 : Nat) = 2 ^ 15 by decide, Nat.testBit_two_pow]
    rw [Nat.testBit_and, hp]
    by_cases e : 15 = i
    · subst e
      by_cases h : s.toNat < 32768
      · rw [if_pos h, Nat.testBit_eq_decide_div_mod_eq, show s.toNat / 2 ^ 15 % 2 = 0 by omega]; rfl
      · rw [if_neg h, Nat.testBit_eq_decide_div_mod_eq, show s.toNat / 2 ^ 15 % 2 = 1 by omega]; rfl
    · by_cases h : s.toNat < 32768
      · rw [if_pos h]; simp [e]
      · rw [if_neg h, hp]; simp [e]
  rw [e1, e2, e3, wrap_u16, stU_toNat]
  by_cases h : s.toNat < 32768
  · rw [if_pos h, if_pos h, if_pos (by rfl)]
    congr 1
    omega
  · rw [if_neg h, if_neg h, if_neg (by decide)]
    have e4 : (s.toNat : Int) * 2 % 65536 = ((2 * s.toNat - 65536 : Nat) : Int) := by omega
    rw [e4, show (4129 : Int) = ((4129 : Nat) : Int) from rfl, bits_xor_nat .u16 16 (by decide) wraps_u16 _ _ (by omega) (by decide)]
theorem sum_eight (b : ByteArray) (s : BitVec 16) (n i v : Int) (h : Ev (fun k => journal_Sum.l0 k b ((stV 8 s).toNat : Int) n (wrap64 (i + 1))) v) : Ev (fun k => journal_Sum.l1 k b (s.toNat : Int) n i 0) v := by
  refine sum_step b s n i 0 (by omega) v ?_
  refine sum_step b (stV 1 s) n i 1 (by omega) v ?_
  refine sum_step b (stV 2 s) n i 2 (by omega) v ?_
  refine sum_step b (stV 3 s) n i 3 (by omega) v ?_
  refine sum_step b (stV 4 s) n i 4 (by omega) v ?_
  refine sum_step b (stV 5 s) n i 5 (by omega) v ?_
  refine sum_step b (stV 6 s) n i 6 (by omega) v ?_
  refine sum_step b (stV 7 s) n i 7 (by omega) v ?_
  refine Ev.succ (Ev.congr (fun k => ?_) h)
  rw [journal_Sum.l1, if_neg (by omega)]
  rfl
theorem sum_round (b : ByteArray) (hb : b.size ≤ 140737488355328) (v : Int) : ∀ (m i : Nat), i + m = b.size → v = (stP (byt b) b.size).toNat → Ev (fun k => journal_Sum.l0 k b ((stP (byt b) i).toNat : Int) (b.size : Int) (i : Int)) v
  | 0, i, hi, hv => by
    refine Ev.succ (Ev.congr (fun k => ?_) (Ev.const (o := some v) rfl))
    rw [journal_Sum.l0, if_neg (by omega), hv, show i = b.size by omega]
  | m + 1, i, hi, hv => by
    have ih := sum_round b hb v m (i + 1) (by omega) hv
    have hs := st_lt (stP (byt b) i)
    have hB := byt_lt b i
    refine Ev.succ (Ev.congr (fun k => ?_) (sum_eight b (stP (byt b) i ^^^ BitVec.ofNat 16 (byt b i * 256)) (b.size : Int) (i : Int) v (by
      rw [show wrap64 ((i : Int) + 1) = ((i + 1 : Nat) : Int) by rw [w64] <;> omega]
      exact ih)))
    rw [journal_Sum.l0, if_pos (by omega), if_pos (by omega), if_pos (by omega)]
    rw [bt_byt, wraps_u16 (byt b i : Int) (by omega) (by omega), wraps_u16 ((byt b i : Int) * 256) (by omega) (by omega)]
    rw [show (byt b i : Int) * 256 = ((byt b i * 256 : Nat) : Int) by omega, bits_xor_nat .u16 16 (by decide) wraps_u16 _ _ hs (by omega)]
    rw [BitVec.toNat_xor, BitVec.toNat_ofNat, Nat.mod_eq_of_lt (by omega)]
theorem journal_Sum_ev (b : ByteArray) (hb : b.size ≤ 140737488355328) : Ev (fun k => journal_Sum.f k b) ((stP (byt b) b.size).toNat : Int) := by
  have h := sum_round b hb _ b.size 0 (by omega) rfl
  exact h
theorem ref_bit (b : ByteArray) (hb : b.size ≤ 140737488355328) (t : Nat) (ht : t < 8 * b.size) :
    Go.bits .and .i64 (shr .i64 (wrap64 (bt b (wrap64 (Int.tdiv (t : Int) 8)))) (wrap64 (7 - (Int.tmod (t : Int) 8)))) 1 = ((stX b.size (byt b) t : Nat) : Int) := by
  have e1 : Int.tdiv (t : Int) 8 = ((t / 8 : Nat) : Int) := by rw [Int.tdiv_eq_ediv_of_nonneg (by omega)]; omega
  have e2 : Int.tmod (t : Int) 8 = ((t % 8 : Nat) : Int) := by rw [Int.tmod_eq_emod_of_nonneg (by omega)]; omega
  have hB := byt_lt b (t / 8)
  rw [e1, e2, w64 ((t / 8 : Nat) : Int) (by omega) (by omega), bt_byt, w64 (byt b (t / 8) : Int) (by omega) (by omega), w64 (7 - ((t % 8 : Nat) : Int)) (by omega) (by omega)]
  unfold stX
  rw [if_pos ht, show (7 - ((t % 8 : Nat) : Int)) = ((7 - t % 8 : Nat) : Int) by omega]
  unfold shr
  rw [Int.toNat_natCast, show min (7 - t % 8) IntKind.i64.bits = 7 - t % 8 by show min (7 - t % 8) 64 = _; omega]
  rw [show ((byt b (t / 8) : Nat) : Int) / 2 ^ (7 - t % 8) = ((byt b (t / 8) >>> (7 - t % 8) : Nat) : Int) by rw [Nat.shiftRight_eq_div_pow]; push_cast; rfl]
  have hlt : byt b (t / 8) >>> (7 - t % 8) < 2 ^ 63 := by
    rw [Nat.shiftRight_eq_div_pow]
    exact Nat.lt_of_le_of_lt (Nat.div_le_self _ _) (by omega)
  have := (bits_nat .i64 63 (by decide) wraps_i64 (byt b (t / 8) >>> (7 - t % 8)) 1 hlt (by decide)).1
  rw [Nat.and_one_is_mod] at this
  exact this
theorem ref_step (b : ByteArray) (hb : b.size ≤ 140737488355328) (t : Nat) (ht : t < 8 * b.size + 16) (v : Int)
    (h : Ev (fun k => pedigreeref29_Sum.l0 k b ((stR b.size (byt b) (t + 1)).toNat : Int) ((t + 1 : Nat) : Int)) v) :
    Ev (fun k => pedigreeref29_Sum.j1 k b ((stR b.size (byt b) t).toNat : Int) (t : Int) ((stX b.size (byt b) t : Nat) : Int)) v := by
  have hs := st_lt (stR b.size (byt b) t)
  have hx := stX_le b.size (byt b) t
  have e1 : wrap64 ((t : Int) + 1) = ((t + 1 : Nat) : Int) := by rw [w64] <;> omega
  have e2 : wrap64 (2 * ((stR b.size (byt b) t).toNat : Int)) = ((2 * (stR b.size (byt b) t).toNat : Nat) : Int) := by rw [w64] <;> omega
  refine Ev.succ (Ev.congr (fun k => ?_) h)
  rw [pedigreeref29_Sum.j1, e1, e2]
  by_cases c : t < 16
  · have e3 : (stR b.size (byt b) (t + 1)) = stU (stR b.size (byt b) t) ^^^ BitVec.ofNat 16 (1 - stX b.size (byt b) t) := by simp only [stR]; rw [if_pos c]
    rw [if_pos (by omega), e3, stU_bit _ _ (by omega)]
    rw [show wrap64 (((2 * (stR b.size (byt b) t).toNat : Nat) : Int) + wrap64 (1 - ((stX b.size (byt b) t : Nat) : Int))) = ((2 * (stR b.size (byt b) t).toNat + (1 - stX b.size (byt b) t) : Nat) : Int) by rw [w64 (1 - _) (by omega) (by omega), w64] <;> omega]
    by_cases d : 2 * (stR b.size (byt b) t).toNat + (1 - stX b.size (byt b) t) < 65536
    · rw [if_pos d, if_neg (by omega)]
    · rw [if_neg d, if_pos (by omega)]
      rw [show wrap64 (((2 * (stR b.size (byt b) t).toNat + (1 - stX b.size (byt b) t) : Nat) : Int) - 65536) = ((2 * (stR b.size (byt b) t).toNat + (1 - stX b.size (byt b) t) - 65536 : Nat) : Int) by rw [w64] <;> omega]
      rw [show (4129 : Int) = ((4129 : Nat) : Int) from rfl, bits_xor_nat .i64 63 (by decide) wraps_i64 _ _ (by omega) (by decide)]
  · have e3 : (stR b.size (byt b) (t + 1)) = stU (stR b.size (byt b) t) ^^^ BitVec.ofNat 16 (stX b.size (byt b) t) := by simp only [stR]; rw [if_neg c]
    rw [if_neg (by omega), e3, stU_bit _ _ (by omega)]
    rw [show wrap64 (((2 * (stR b.size (byt b) t).toNat : Nat) : Int) + ((stX b.size (byt b) t : Nat) : Int)) = ((2 * (stR b.size (byt b) t).toNat + stX b.size (byt b) t : Nat) : Int) by rw [w64] <;> omega]
    by_cases d : 2 * (stR b.size (byt b) t).toNat + stX b.size (byt b) t < 65536
    · rw [if_pos d, if_neg (by omega)]
    · rw [if_neg d, if_pos (by omega)]
      rw [show wrap64 (((2 * (stR b.size (byt b) t).toNat + stX b.size (byt b) t : Nat) : Int) - 65536) = ((2 * (stR b.size (byt b) t).toNat + stX b.size (byt b) t - 65536 : Nat) : Int) by rw [w64] <;> omega]
      rw [show (4129 : Int) = ((4129 : Nat) : Int) from rfl, bits_xor_nat .i64 63 (by decide) wraps_i64 _ _ (by omega) (by decide)]
theorem ref_round (b : ByteArray) (hb : b.size ≤ 140737488355328) (v : Int) : ∀ (m t : Nat), t + m = 8 * b.size + 16 → v = (stR b.size (byt b) (8 * b.size + 16)).toNat → Ev (fun k => pedigreeref29_Sum.l0 k b ((stR b.size (byt b) t).toNat : Int) (t : Int)) v
  | 0, t, ht, hv => by
    refine Ev.succ (Ev.congr (fun k => ?_) (Ev.const (o := some v) rfl))
    have hs := st_lt (stR b.size (byt b) t)
    rw [pedigreeref29_Sum.l0, w64 (8 * (b.size : Int)) (by omega) (by omega), w64 _ (by omega) (by omega), if_neg (by omega), hv, wraps_u16 _ (by omega) (by omega), show t = 8 * b.size + 16 by omega]
  | m + 1, t, ht, hv => by
    have ih := ref_round b hb v m (t + 1) (by omega) hv
    refine Ev.succ (Ev.congr (fun k => ?_) (ref_step b hb t (by omega) v ih))
    rw [pedigreeref29_Sum.l0, w64 (8 * (b.size : Int)) (by omega) (by omega), w64 (8 * (b.size : Int) + 16) (by omega) (by omega), if_pos (by omega)]
    by_cases c : t < 8 * b.size
    · have e1 : Int.tdiv (t : Int) 8 = ((t / 8 : Nat) : Int) := by rw [Int.tdiv_eq_ediv_of_nonneg (by omega)]; omega
      have e2 : Int.tmod (t : Int) 8 = ((t % 8 : Nat) : Int) := by rw [Int.tmod_eq_emod_of_nonneg (by omega)]; omega
      rw [if_pos (by omega), ref_bit b hb t c, e1, e2, w64 ((t / 8 : Nat) : Int) (by omega) (by omega), w64 (7 - ((t % 8 : Nat) : Int)) (by omega) (by omega), if_pos (by omega), if_pos (by omega), if_pos (by omega)]
    · rw [if_neg (by omega)]
      unfold stX
      rw [if_neg c]
      rfl
theorem ref_Sum_ev (b : ByteArray) (hb : b.size ≤ 140737488355328) : Ev (fun k => pedigreeref29_Sum.f k b) ((stP (byt b) b.size).toNat : Int) := by
  have h := ref_round b hb _ (8 * b.size + 16) 0 (by omega) rfl
  rw [st_one b.size (byt b) (byt_lt b)] at h
  exact h
end Go.Proofs.J.Pure
end
section
namespace Go.Proofs.J.Pure
open Go.RowKit Go.Proofs.J.Print Go.Proofs.PrintWords Go.Proofs.PrintLast Go.Proofs.PrintMore
abbrev Bs := List UInt8
def lb (s : ByteArray) : Bs := s.data.toList
def ob (l : Bs) : ByteArray := ⟨l.toArray⟩
theorem lb_ob (l : Bs) : lb (ob l) = l := rfl
theorem ob_lb (s : ByteArray) : ob (lb s) = s := rfl
theorem lb_inj {a b : ByteArray} (h : lb a = lb b) : a = b := by rw [← ob_lb a, ← ob_lb b, h]
theorem lb_len (s : ByteArray) : (lb s).length = s.size := data_length s
theorem lb_append (a b : ByteArray) : lb (a ++ b) = lb a ++ lb b := by unfold lb; rw [ByteArray.data_append, Array.toList_append]
theorem lb_toList (s : ByteArray) : s.toList = lb s := Lib.toList_data s
theorem lb_extract (s : ByteArray) (a b : Nat) : lb (s.extract a b) = ((lb s).drop a).take (b - a) := Lib.extract_data s a b
theorem lb_take (s : ByteArray) (n : Nat) : lb (s.extract 0 n) = (lb s).take n := by rw [lb_extract]; rfl
theorem lb_drop (s : ByteArray) (n : Nat) : lb (s.extract n s.size) = (lb s).drop n := by
  rw [lb_extract, List.take_of_length_le (by rw [List.length_drop, lb_len]; omega)]
theorem lb_nil : lb (⟨#[]⟩ : ByteArray) = [] := rfl
theorem byt_lb (s : ByteArray) (i : Nat) : byt s i = ((lb s).getD i 0).toNat := by
  unfold byt bt lb
  by_cases h : i < s.size
  · rw [dif_pos (by simpa using h)]
    have h2 : i < s.data.toList.length := by rw [data_length]; exact h
    rw [List.getD_eq_getElem?_getD, List.getElem?_eq_getElem h2]
    simp
    rfl
  · rw [dif_neg (by simpa using h)]
    rw [List.getD_eq_getElem?_getD, List.getElem?_eq_none (by rw [data_length]; omega)]
    rfl
theorem lb_nums (xs : List Int) : lb (strOfNums xs) = xs.map fun n => UInt8.ofNat n.toNat := rfl
def leN : Bs → Nat
  | [] => 0
  | x :: l => x.toNat + 256 * leN l
theorem leN_lt : ∀ l : Bs, leN l < 256 ^ l.length
  | [] => by decide
  | x :: l => by
    have h := leN_lt l
    have hx := x.toNat_lt
    simp only [leN, List.length_cons, Nat.pow_succ]
    omega
theorem leN_append : ∀ a b : Bs, leN (a ++ b) = leN a + 256 ^ a.length * leN b
  | [], b => by simp [leN]
  | x :: a, b => by
    simp only [List.cons_append, leN, List.length_cons, Nat.pow_succ]
    rw [leN_append a b, Nat.mul_add, ← Nat.mul_assoc, Nat.mul_comm 256 (256 ^ a.length)]
    omega
def leB : Nat → Nat → Bs
  | 0, _ => []
  | n + 1, x => UInt8.ofNat (x % 256) :: leB n (x / 256)
theorem leB_len : ∀ n x, (leB n x).length = n
  | 0, _ => rfl
  | n + 1, x => by simp [leB, leB_len n]
theorem leN_leB : ∀ n x, leN (leB n x) = x % 256 ^ n
  | 0, x => by simp [leB, leN, Nat.mod_one]
  | n + 1, x => by
    simp only [leB, leN]
    rw [leN_leB n, Nat.pow_succ, Nat.mul_comm (256 ^ n) 256, Nat.mod_mul]
    have : (UInt8.ofNat (x % 256)).toNat = x % 256 := by rw [UInt8.toNat_ofNat']; omega
    rw [this]
theorem leB_leN : ∀ l : Bs, leB l.length (leN l) = l
  | [] => rfl
  | x :: l => by
    have hx := x.toNat_lt
    simp only [List.length_cons, leB, leN]
    rw [show (x.toNat + 256 * leN l) % 256 = x.toNat by omega, show (x.toNat + 256 * leN l) / 256 = leN l by omega, leB_leN l]
    simp
theorem pow256_le {n : Nat} (h : n ≤ 8) : 256 ^ n ≤ 18446744073709551616 := by
  have := Nat.pow_le_pow_right (show 0 < 256 by decide) h
  simpa using this
theorem drop_cons (l : Bs) (i : Nat) (h : i < l.length) : l.drop i = l.getD i 0 :: l.drop (i + 1) := by
  rw [List.drop_eq_getElem_cons h, List.getD_eq_getElem?_getD, List.getElem?_eq_getElem h]
  rfl
theorem number_round (s : ByteArray) (h8 : s.size ≤ 8) : ∀ i : Nat, i ≤ s.size → Ev (fun k => pedigreeref29_Number.l0 k s (leN ((lb s).drop i) : Int) ((i : Int) - 1)) (leN (lb s) : Int)
  | 0, _ => by
    refine Ev.succ (Ev.congr (fun k => ?_) (Ev.const (o := some _) rfl))
    rw [pedigreeref29_Number.l0, if_neg (by omega), List.drop_zero]
  | i + 1, hi => by
    have ih := number_round s h8 i (by omega)
    refine Ev.succ (Ev.congr (fun k => ?_) ih)
    have hl := lb_len s
    have hd := drop_cons (lb s) i (by omega)
    have hlt := leN_lt ((lb s).drop i)
    have hp := pow256_le (n := ((lb s).drop i).length) (by rw [List.length_drop]; omega)
    have hB := byt_lt s i
    rw [hd] at hlt
    rw [← hd] at hlt
    have e : leN ((lb s).drop i) = byt s i + 256 * leN ((lb s).drop (i + 1)) := by rw [hd, byt_lb]; rfl
    rw [pedigreeref29_Number.l0, if_pos (by omega), if_pos (by omega), if_pos (by omega)]
    rw [show (((i + 1 : Nat) : Int) - 1) = (i : Int) by omega, bt_byt, wrap_u64, wrap_u64, wrap_u64, w64 ((i : Int) - 1) (by omega) (by omega)]
    congr 1
    omega
theorem Number_ev (s : ByteArray) (h8 : s.size ≤ 8) : Ev (fun k => pedigreeref29_Number.f k s) (leN (lb s) : Int) := by
  have h := number_round s h8 s.size (Nat.le_refl _)
  rw [List.drop_of_length_le (by rw [lb_len]; omega)] at h
  refine Ev.congr (fun k => ?_) h
  unfold pedigreeref29_Number.f
  rw [w64 _ (by omega) (by omega)]
  rfl
theorem take_succ (l : Bs) (i : Nat) (h : i < l.length) : l.take (i + 1) = l.take i ++ [l.getD i 0] := by
  rw [List.take_succ_eq_append_getElem h, List.getD_eq_getElem?_getD, List.getElem?_eq_getElem h]
  rfl
theorem wraps_u64 (n : Int) (h₀ : 0 ≤ n) (h₁ : n < 2 ^ 64) : IntKind.u64.wrap n = n := by rw [wrap_u64]; omega
theorem get_or (s : ByteArray) (h8 : s.size ≤ 8) (i : Nat) (hi : i < s.size) :
    Go.bits .or .u64 (leN ((lb s).take i) : Int) (shl .u64 (IntKind.u64.wrap (bt s (i : Int))) (wrap64 (8 * (i : Int)))) = (leN ((lb s).take (i + 1)) : Int) := by
  have hl := lb_len s
  have hB := byt_lt s i
  have e1 : leN ((lb s).take (i + 1)) = leN ((lb s).take i) + 256 ^ i * byt s i := by
    rw [take_succ _ _ (by omega), leN_append, List.length_take, Nat.min_eq_left (by omega), byt_lb]
    simp [leN]
  have h1 := leN_lt ((lb s).take i)
  have h2 := leN_lt ((lb s).take (i + 1))
  rw [List.length_take, Nat.min_eq_left (by omega)] at h1 h2
  have p1 := pow256_le (n := i + 1) (by omega)
  have p0 := pow256_le (n := i) (by omega)
  rw [bt_byt, wraps_u64 (byt s i : Int) (by omega) (by omega), w64 (8 * (i : Int)) (by omega) (by omega)]
  unfold shl
  rw [show (8 * (i : Int)).toNat = 8 * i by omega, show min (8 * i) IntKind.u64.bits = 8 * i by show min (8 * i) 64 = _; omega]
  have e2 : (2 : Nat) ^ (8 * i) = 256 ^ i := by rw [Nat.pow_mul]
  have e3 : ((byt s i : Nat) : Int) * 2 ^ (8 * i) = ((256 ^ i * byt s i : Nat) : Int) := by
    rw [← e2]; push_cast; exact Int.mul_comm _ _
  rw [e3, wraps_u64 _ (by omega) (by omega)]
  rw [(bits_nat .u64 64 (by decide) wraps_u64 _ _ (by omega) (by omega)).2, e1, Nat.or_comm, ← e2, ← Nat.two_pow_add_eq_or_of_lt (by omega), Nat.add_comm]
theorem get64_round (s : ByteArray) (h8 : s.size ≤ 8) (n : Nat) (hn : n ≤ s.size) : ∀ m i : Nat, i + m = n → Ev (fun k => journal_get_uint64.l0 k s (leN ((lb s).take i) : Int) (n : Int) (i : Int)) (leN ((lb s).take n) : Int)
  | 0, i, hi => by
    refine Ev.succ (Ev.congr (fun k => ?_) (Ev.const (o := some _) rfl))
    rw [journal_get_uint64.l0, if_neg (by omega), show i = n by omega]
  | m + 1, i, hi => by
    refine Ev.succ (Ev.congr (fun k => ?_) (get64_round s h8 n hn m (i + 1) (by omega)))
    rw [journal_get_uint64.l0, if_pos (by omega), if_pos (by omega), if_pos (by omega), if_pos (by rw [w64] <;> omega), get_or s h8 i (by omega), w64 ((i : Int) + 1) (by omega) (by omega)]
    rfl
theorem get32_round (s : ByteArray) (h8 : s.size ≤ 8) (n : Nat) (hn : n ≤ s.size) : ∀ m i : Nat, i + m = n → Ev (fun k => journal_get_uint32.l0 k s (leN ((lb s).take i) : Int) (n : Int) (i : Int)) ((leN ((lb s).take n) : Int) % 4294967296)
  | 0, i, hi => by
    refine Ev.succ (Ev.congr (fun k => ?_) (Ev.const (o := some _) rfl))
    rw [journal_get_uint32.l0, if_neg (by omega), show i = n by omega]
  | m + 1, i, hi => by
    refine Ev.succ (Ev.congr (fun k => ?_) (get32_round s h8 n hn m (i + 1) (by omega)))
    rw [journal_get_uint32.l0, if_pos (by omega), if_pos (by omega), if_pos (by omega), if_pos (by rw [w64] <;> omega), get_or s h8 i (by omega), w64 ((i : Int) + 1) (by omega) (by omega)]
    rfl
theorem get16_round (s : ByteArray) (h8 : s.size ≤ 8) (n : Nat) (hn : n ≤ s.size) : ∀ m i : Nat, i + m = n → Ev (fun k => journal_get_uint16.l0 k s (leN ((lb s).take i) : Int) (n : Int) (i : Int)) (IntKind.u16.wrap (leN ((lb s).take n) : Int))
  | 0, i, hi => by
    refine Ev.succ (Ev.congr (fun k => ?_) (Ev.const (o := some _) rfl))
    rw [journal_get_uint16.l0, if_neg (by omega), show i = n by omega]
  | m + 1, i, hi => by
    refine Ev.succ (Ev.congr (fun k => ?_) (get16_round s h8 n hn m (i + 1) (by omega)))
    rw [journal_get_uint16.l0, if_pos (by omega), if_pos (by omega), if_pos (by omega), if_pos (by rw [w64] <;> omega), get_or s h8 i (by omega), w64 ((i : Int) + 1) (by omega) (by omega)]
    rfl
theorem get64_ev (s : ByteArray) (h : s.size = 8) : Ev (fun k => journal_get_uint64.f k s 8) (leN (lb s) : Int) := by
  have h0 := get64_round s (by omega) 8 (by omega) 8 0 (by omega)
  have ht : (lb s).take 8 = lb s := List.take_of_length_le (by rw [lb_len]; omega)
  rw [ht] at h0
  exact h0
theorem get32_ev (s : ByteArray) (h : s.size = 4) : Ev (fun k => journal_get_uint32.f k s 4) (leN (lb s) : Int) := by
  have h0 := get32_round s (by omega) 4 (by omega) 4 0 (by omega)
  have ht : (lb s).take 4 = lb s := List.take_of_length_le (by rw [lb_len]; omega)
  have hl := leN_lt (lb s)
  rw [lb_len, h] at hl
  rw [ht, Int.emod_eq_of_lt (by omega) (by omega)] at h0
  exact h0
theorem get16_ev (s : ByteArray) (h : s.size = 2) : Ev (fun k => journal_get_uint16.f k s 2) (leN (lb s) : Int) := by
  have h0 := get16_round s (by omega) 2 (by omega) 2 0 (by omega)
  have ht : (lb s).take 2 = lb s := List.take_of_length_le (by rw [lb_len]; omega)
  have hl := leN_lt (lb s)
  rw [lb_len, h] at hl
  rw [ht, wraps_u16 _ (by omega) (by omega)] at h0
  exact h0
theorem bytes_round (n : Nat) (hn : n ≤ 8) : ∀ (m i x : Nat) (s : ByteArray), i + m = n → s.size = i → x < 18446744073709551616 → Ev (fun k => pedigreeref29_Bytes.l0 k (x : Int) (n : Int) s (i : Int)) (s ++ ob (leB m x))
  | 0, i, x, s, hi, hs, hx => by
    refine Ev.succ (Ev.congr (fun k => ?_) (Ev.const (o := some _) rfl))
    rw [pedigreeref29_Bytes.l0, if_neg (by omega)]
    congr 1
    apply lb_inj
    simp [lb_append, lb_ob, leB]
  | m + 1, i, x, s, hi, hs, hx => by
    have e1 : Int.tmod (x : Int) 256 % 256 = ((x % 256 : Nat) : Int) := by rw [Int.tmod_eq_emod_of_nonneg (by omega)]; omega
    have e2 : IntKind.u64.wrap (Int.tdiv (x : Int) 256) = ((x / 256 : Nat) : Int) := by rw [Int.tdiv_eq_ediv_of_nonneg (by omega), wraps_u64 _ (by omega) (by omega)]; omega
    have es : (strOfNums [((x % 256 : Nat) : Int)]).size = 1 := rfl
    have ih := bytes_round n hn m (i + 1) (x / 256) (s ++ strOfNums [((x % 256 : Nat) : Int)]) (by omega) (by rw [ByteArray.size_append, es]; omega) (by omega)
    have e3 : s ++ strOfNums [((x % 256 : Nat) : Int)] ++ ob (leB m (x / 256)) = s ++ ob (leB (m + 1) x) := by
      apply lb_inj
      have : ((x : Int) % 256).toNat = x % 256 := by omega
      simp [lb_append, lb_ob, leB, lb_nums, this]
    rw [e3] at ih
    refine Ev.succ (Ev.congr (fun k => ?_) ih)
    rw [pedigreeref29_Bytes.l0, if_pos (by omega), Option.bind_some, e1, e2, es, if_pos (by omega), w64 ((i : Int) + 1) (by omega) (by omega)]
    rfl
theorem Bytes_ev (x n : Nat) (hn : n ≤ 8) (hx : x < 18446744073709551616) : Ev (fun k => pedigreeref29_Bytes.f k (x : Int) (n : Int)) (ob (leB n x)) := by
  have h := bytes_round n hn n 0 x (⟨#[]⟩ : ByteArray) (by omega) rfl hx
  have e : (⟨#[]⟩ : ByteArray) ++ ob (leB n x) = ob (leB n x) := by apply lb_inj; simp [lb_append, lb_nil]
  rw [e] at h
  exact h
def tur (l : Bs) : Bs := l.map fun x => UInt8.ofNat (255 - x.toNat)
theorem turned_round (s : ByteArray) (hs : s.size ≤ 140737488355328) : ∀ (m i : Nat) (o : ByteArray), i + m = s.size → o.size = i → Ev (fun k => pedigreeref29_turned.l0 k s o (i : Int)) (o ++ ob (tur ((lb s).drop i)))
  | 0, i, o, hi, ho => by
    refine Ev.succ (Ev.congr (fun k => ?_) (Ev.const (o := some _) rfl))
    rw [pedigreeref29_turned.l0, if_neg (by omega), List.drop_of_length_le (by rw [lb_len]; omega)]
    congr 1
    apply lb_inj
    simp [lb_append, lb_ob, tur]
  | m + 1, i, o, hi, ho => by
    have hB := byt_lt s i
    have hl := lb_len s
    have e1 : (255 - bt s (i : Int)) % 256 = ((255 - byt s i : Nat) : Int) := by rw [bt_byt]; omega
    have es : (strOfNums [((255 - byt s i : Nat) : Int)]).size = 1 := rfl
    have ih := turned_round s hs m (i + 1) (o ++ strOfNums [((255 - byt s i : Nat) : Int)]) (by omega) (by rw [ByteArray.size_append, es]; omega)
    have e3 : o ++ strOfNums [((255 - byt s i : Nat) : Int)] ++ ob (tur ((lb s).drop (i + 1))) = o ++ ob (tur ((lb s).drop i)) := by
      apply lb_inj
      rw [drop_cons (lb s) i (by omega)]
      simp [lb_append, lb_ob, lb_nums, tur, byt_lb]
    rw [e3] at ih
    refine Ev.succ (Ev.congr (fun k => ?_) ih)
    rw [pedigreeref29_turned.l0, if_pos (by omega), if_pos (by omega), Option.bind_some, e1, es, if_pos (by omega), w64 ((i : Int) + 1) (by omega) (by omega)]
    rfl
theorem turned_ev (s : ByteArray) (hs : s.size ≤ 140737488355328) : Ev (fun k => pedigreeref29_turned.f k s) (ob (tur (lb s))) := by
  have h := turned_round s hs s.size 0 (⟨#[]⟩ : ByteArray) (by omega) rfl
  have e : (⟨#[]⟩ : ByteArray) ++ ob (tur ((lb s).drop 0)) = ob (tur (lb s)) := by apply lb_inj; simp [lb_append, lb_nil]
  rw [e] at h
  exact h
theorem tur_len (l : Bs) : (tur l).length = l.length := by simp [tur]
theorem leN_tur : ∀ l : Bs, leN (tur l) = 256 ^ l.length - 1 - leN l
  | [] => rfl
  | x :: l => by
    have hx := x.toNat_lt
    have hl := leN_lt l
    have ih := leN_tur l
    simp only [tur, List.map_cons, leN, List.length_cons, Nat.pow_succ] at *
    rw [ih]
    have : (UInt8.ofNat (255 - x.toNat)).toNat = 255 - x.toNat := by rw [UInt8.toNat_ofNat']; omega
    rw [this]
    omega
theorem leN_inj : ∀ {a b : Bs}, a.length = b.length → leN a = leN b → a = b
  | a, b, h, e => by rw [← leB_leN a, ← leB_leN b, h, e]
end Go.Proofs.J.Pure
end
section
namespace Go.Proofs.J.Pure
open Go.RowKit Go.Proofs.J.Print Go.Proofs.PrintWords Go.Proofs.PrintLast Go.Proofs.PrintMore
def crcL (l : Bs) : Nat := (stP (fun i => (l.getD i 0).toNat) l.length).toNat
theorem crc_lb (s : ByteArray) : (stP (byt s) s.size).toNat = crcL (lb s) := by
  unfold crcL
  rw [lb_len, show byt s = fun i => ((lb s).getD i 0).toNat from funext fun i => byt_lb s i]
theorem crc_lt (l : Bs) : crcL l < 65536 := st_lt _
theorem Sum_ev1 (s : ByteArray) (h : s.size ≤ 140737488355328) : Ev (fun k => journal_Sum.f k s) (crcL (lb s) : Int) := by rw [← crc_lb]; exact journal_Sum_ev s h
theorem Sum_ev2 (s : ByteArray) (h : s.size ≤ 140737488355328) : Ev (fun k => pedigreeref29_Sum.f k s) (crcL (lb s) : Int) := by rw [← crc_lb]; exact ref_Sum_ev s h
def bodyOf (l : Bs) : Option Bs :=
  if 10 ≤ l.length then if tur (l.take 4) = (l.drop 4).take 4 then if leN (l.take 4) ≤ 16777216 then if 10 + leN (l.take 4) ≤ l.length then
    if leB 2 (crcL ((l.drop 8).take (leN (l.take 4)))) = (l.drop (8 + leN (l.take 4))).take 2 then some ((l.drop 8).take (leN (l.take 4))) else none else none else none else none else none
def refBody (o : Option Bs) : ByteArray × Bool := match o with | none => (⟨#[]⟩, false) | some x => (ob x, true)
theorem refBody_ev (b : ByteArray) (hb : b.size ≤ 140737488351232) : Ev (fun k => pedigreeref29_Body.f k b) (refBody (bodyOf (lb b))) := by
  have hl := lb_len b
  have hj : ∀ x, Ev (fun k => pedigreeref29_Body.j0 k x true) (refBody none) := fun x => Ev.succ (Ev.congr (fun k => by rw [pedigreeref29_Body.j0, if_pos rfl]; rfl) (Ev.const (o := some (refBody none)) rfl))
  have hj1 : ∀ x y, Ev (fun k => pedigreeref29_Body.j1 k x y true) (refBody none) := fun x y => Ev.succ (Ev.congr (fun k => by rw [pedigreeref29_Body.j1, if_pos rfl]; rfl) (Ev.const (o := some (refBody none)) rfl))
  unfold pedigreeref29_Body.f bodyOf
  by_cases c1 : 10 ≤ (lb b).length
  · rw [if_pos c1]
    have s04 : (b.extract 0 4).size = 4 := by rw [← lb_len, lb_take, List.length_take]; omega
    refine Ev.iteF (by omega) (Ev.iteT (by omega) (Ev.iteT (by omega) (Ev.bind (turned_ev (b.extract 0 4) (by omega)) (Ev.iteT (by omega) (Ev.iteT (by omega) ?_)))))
    rw [lb_toList, lb_toList, lb_ob, lb_take, show lb (b.extract 4 8) = ((lb b).drop 4).take 4 from lb_extract b 4 8]
    by_cases c2 : tur ((lb b).take 4) = ((lb b).drop 4).take 4
    · rw [if_pos c2, c2]
      have hne : ((((lb b).drop 4).take 4) != (((lb b).drop 4).take 4)) = false := by simp
      simp only [hne]
      refine Ev.succ (Ev.congr (fun k => by rw [pedigreeref29_Body.j0, if_neg (by decide)]) ?_)
      have hN := Number_ev (b.extract 0 4) (by omega)
      have hlt := leN_lt ((lb b).take 4)
      rw [List.length_take, Nat.min_eq_left (by omega)] at hlt
      rw [lb_take] at hN
      refine Ev.iteT (by omega) (Ev.iteT (by omega) (Ev.bind hN ?_))
      rw [w64 (leN ((lb b).take 4) : Int) (by omega) (by omega)]
      by_cases c3 : leN ((lb b).take 4) ≤ 16777216
      · rw [if_pos c3]
        refine Ev.iteF (by omega) ?_
        rw [w64 (10 + (leN ((lb b).take 4) : Int)) (by omega) (by omega)]
        by_cases c4 : 10 + leN ((lb b).take 4) ≤ (lb b).length
        · rw [if_pos c4, decide_eq_false (by omega)]
          refine Ev.succ (Ev.congr (fun k => by rw [pedigreeref29_Body.j1, if_neg (by decide)]) ?_)
          rw [w64 (8 + (leN ((lb b).take 4) : Int)) (by omega) (by omega), w64 (10 + (leN ((lb b).take 4) : Int)) (by omega) (by omega)]
          refine Ev.iteT (by omega) (Ev.iteT (by omega) ?_)
          rw [show (8 + (leN ((lb b).take 4) : Int)).toNat = 8 + leN ((lb b).take 4) by omega, show (10 + (leN ((lb b).take 4) : Int)).toNat = 10 + leN ((lb b).take 4) by omega]
          have eb : b.extract 8 (8 + leN ((lb b).take 4)) = ob (((lb b).drop 8).take (leN ((lb b).take 4))) := by
            apply lb_inj; rw [lb_extract, lb_ob, show 8 + leN ((lb b).take 4) - 8 = leN ((lb b).take 4) by omega]
          have et : lb (b.extract (8 + leN ((lb b).take 4)) (10 + leN ((lb b).take 4))) = ((lb b).drop (8 + leN ((lb b).take 4))).take 2 := by
            rw [lb_extract, show 10 + leN ((lb b).take 4) - (8 + leN ((lb b).take 4)) = 2 by omega]
          have hS := Sum_ev2 (b.extract 8 (8 + leN ((lb b).take 4))) (by rw [← lb_len, lb_extract, List.length_take, List.length_drop]; omega)
          rw [eb] at hS
          rw [lb_ob] at hS
          have hc := crc_lt (((lb b).drop 8).take (leN ((lb b).take 4)))
          rw [eb]
          refine Ev.bind hS ?_
          rw [wraps_u64 _ (by omega) (by omega)]
          refine Ev.bind (Bytes_ev (crcL (((lb b).drop 8).take (leN ((lb b).take 4)))) 2 (by omega) (by omega)) ?_
          refine Ev.iteT (by omega) (Ev.iteT (by omega) (Ev.iteT (by omega) ?_))
          rw [lb_toList, lb_toList, lb_ob, et]
          by_cases c5 : leB 2 (crcL (((lb b).drop 8).take (leN ((lb b).take 4)))) = ((lb b).drop (8 + leN ((lb b).take 4))).take 2
          · rw [if_pos c5, if_pos c5]
            exact Ev.const rfl
          · rw [if_neg c5, if_neg c5]
            exact Ev.const rfl
        · rw [if_neg c4, decide_eq_true (by omega)]
          exact hj1 _ _
      · rw [if_neg c3]
        exact Ev.iteT (by omega) (hj1 _ _)
    · rw [if_neg c2]
      have hne : (tur ((lb b).take 4) != ((lb b).drop 4).take 4) = true := by simp [c2]
      simp only [hne]
      exact hj _
  · rw [if_neg c1]
    exact Ev.iteT (by omega) (hj _)
theorem not_u32 (n : Nat) (hn : n < 4294967296) : Go.bits .xor .u32 4294967295 (n : Int) = ((4294967295 - n : Nat) : Int) := by
  have e : (BitVec.ofInt 32 4294967295 ^^^ BitVec.ofInt 32 (n : Int)) = ~~~ (BitVec.ofNat 32 n) := by
    rw [BitVec.ofInt_natCast, ← BitVec.allOnes_xor]
    congr 1
  show IntKind.u32.wrap ((BitVec.ofInt 32 4294967295 ^^^ BitVec.ofInt 32 (n : Int)).toNat : Int) = _
  rw [e, BitVec.toNat_not, BitVec.toNat_ofNat, Nat.mod_eq_of_lt (by omega), IntKind.wrap_u32]
  omega
def proBody (l : Bs) (o : Option Bs) : Option (ByteArray × ByteArray) := match o with | none => none | some x => some (ob x, ob (l.drop (10 + x.length)))
theorem tk_ob (s : ByteArray) (n : Nat) (h : n ≤ s.size) : tk s n = some (ob ((lb s).take n), ob ((lb s).drop n)) := by
  unfold tk
  rw [if_pos h, ← lb_take, ← lb_drop]
  rfl
theorem tk_no (s : ByteArray) (n : Nat) (h : ¬ n ≤ s.size) : tk s n = none := by
  unfold tk
  rw [if_neg h]
theorem ob_size (l : Bs) : (ob l).size = l.length := by rw [← lb_len, lb_ob]
theorem proBody_ev (b : ByteArray) (hb : b.size ≤ 140737488351232) : Ev (fun k => body.f k b) (proBody (lb b) (bodyOf (lb b))) := by
  have hl := lb_len b
  unfold body.f bodyOf
  by_cases h4 : 4 ≤ b.size
  rotate_left
  · rw [tk_no _ _ h4, if_neg (by omega)]
    exact Ev.const rfl
  rw [tk_ob _ _ h4]
  have e1 : (ob ((lb b).take 4)).size = 4 := by rw [ob_size, List.length_take]; omega
  have e2 : (ob ((lb b).drop 4)).size = b.size - 4 := by rw [ob_size, List.length_drop]; omega
  have hg := get32_ev _ e1
  rw [lb_ob] at hg
  have hlt := leN_lt ((lb b).take 4)
  rw [List.length_take, Nat.min_eq_left (by omega)] at hlt
  refine Ev.bind hg ?_
  show Ev (fun k => bindP (tk (ob ((lb b).drop 4)) 4) _) _
  by_cases h8 : 8 ≤ b.size
  rotate_left
  · rw [tk_no _ _ (by omega), if_neg (by omega)]
    exact Ev.const rfl
  rw [tk_ob _ _ (by omega), lb_ob]
  have e3 : (ob (((lb b).drop 4).take 4)).size = 4 := by rw [ob_size, List.length_take, List.length_drop]; omega
  have hg2 := get32_ev _ e3
  rw [lb_ob] at hg2
  refine Ev.bind hg2 ?_
  rw [not_u32 _ (by omega)]
  have hd : (((lb b).drop 4).drop 4) = (lb b).drop 8 := by rw [List.drop_drop]
  rw [hd]
  dsimp only
  have l44 : (((lb b).drop 4).take 4).length = 4 := by rw [List.length_take, List.length_drop]; omega
  have l04 : ((lb b).take 4).length = 4 := by rw [List.length_take]; omega
  have hiff : ((leN (((lb b).drop 4).take 4) : Int) = ((4294967295 - leN ((lb b).take 4) : Nat) : Int)) ↔ tur ((lb b).take 4) = ((lb b).drop 4).take 4 := by
    have ht := leN_tur ((lb b).take 4)
    rw [l04] at ht
    constructor
    · intro h
      exact leN_inj (by rw [tur_len, l04, l44]) (by rw [ht]; omega)
    · intro h
      rw [← h, ht]
  by_cases c2 : tur ((lb b).take 4) = ((lb b).drop 4).take 4
  rotate_left
  · refine Ev.iteF (fun h => c2 (hiff.1 h)) ?_
    rw [if_neg c2]
    by_cases c1 : 10 ≤ (lb b).length
    · rw [if_pos c1]; exact Ev.const rfl
    · rw [if_neg c1]; exact Ev.const rfl
  refine Ev.iteT (hiff.2 c2) ?_
  rw [if_pos c2]
  by_cases c3 : leN ((lb b).take 4) ≤ 16777216
  rotate_left
  · refine Ev.iteT (by omega) ?_
    rw [if_neg c3]
    by_cases c1 : 10 ≤ (lb b).length
    · rw [if_pos c1]; exact Ev.const rfl
    · rw [if_neg c1]; exact Ev.const rfl
  refine Ev.iteF (by omega) (Ev.iteF (by omega) ?_)
  rw [if_pos c3, Int.toNat_natCast]
  have l8 : ((lb b).drop 8).length = b.size - 8 := by rw [List.length_drop]; omega
  by_cases h9 : 8 + leN ((lb b).take 4) ≤ b.size
  rotate_left
  · rw [tk_no _ _ (by rw [ob_size]; omega)]
    by_cases c1 : 10 ≤ (lb b).length
    · rw [if_pos c1, if_neg (by omega)]; exact Ev.const rfl
    · rw [if_neg c1]; exact Ev.const rfl
  rw [tk_ob _ _ (by rw [ob_size]; omega), lb_ob]
  show Ev (fun k => bindP (tk (ob (((lb b).drop 8).drop (leN ((lb b).take 4)))) 2) _) _
  rw [List.drop_drop]
  by_cases h10 : 10 + leN ((lb b).take 4) ≤ b.size
  rotate_left
  · rw [tk_no _ _ (by rw [ob_size, List.length_drop]; omega)]
    by_cases c1 : 10 ≤ (lb b).length
    · rw [if_pos c1, if_neg (by omega)]; exact Ev.const rfl
    · rw [if_neg c1]; exact Ev.const rfl
  rw [tk_ob _ _ (by rw [ob_size, List.length_drop]; omega), lb_ob, if_pos (show 10 ≤ (lb b).length by omega), if_pos (show 10 + leN ((lb b).take 4) ≤ (lb b).length by omega)]
  have l2 : (((lb b).drop (8 + leN ((lb b).take 4))).take 2).length = 2 := by rw [List.length_take, List.length_drop]; omega
  have hg3 := get16_ev (ob (((lb b).drop (8 + leN ((lb b).take 4))).take 2)) (by rw [ob_size, l2])
  rw [lb_ob] at hg3
  refine Ev.bind hg3 ?_
  have hS := Sum_ev1 (ob (((lb b).drop 8).take (leN ((lb b).take 4)))) (by rw [ob_size, List.length_take]; omega)
  rw [lb_ob] at hS
  refine Ev.bind hS ?_
  have hc := crc_lt (((lb b).drop 8).take (leN ((lb b).take 4)))
  have hiff2 : ((leN (((lb b).drop (8 + leN ((lb b).take 4))).take 2) : Int) = (crcL (((lb b).drop 8).take (leN ((lb b).take 4))) : Int)) ↔ leB 2 (crcL (((lb b).drop 8).take (leN ((lb b).take 4)))) = ((lb b).drop (8 + leN ((lb b).take 4))).take 2 := by
    constructor
    · intro h
      apply leN_inj (by rw [leB_len, l2])
      rw [leN_leB]
      omega
    · intro h
      rw [← h, leN_leB]
      omega
  by_cases c5 : leB 2 (crcL (((lb b).drop 8).take (leN ((lb b).take 4)))) = ((lb b).drop (8 + leN ((lb b).take 4))).take 2
  · rw [if_pos c5]
    refine Ev.iteT (hiff2.2 c5) (Ev.const ?_)
    have : (((lb b).drop 8).take (leN ((lb b).take 4))).length = leN ((lb b).take 4) := by rw [List.length_take]; omega
    unfold proBody
    simp only [this]
    rw [List.drop_drop, show 8 + leN ((lb b).take 4) + 2 = 10 + leN ((lb b).take 4) by omega]
  · rw [if_neg c5]
    exact Ev.iteF (fun h => c5 (hiff2.1 h)) (Ev.const rfl)
theorem bodyOf_le {l x : Bs} (h : bodyOf l = some x) : x.length ≤ 16777216 ∧ 10 + x.length ≤ l.length := by
  unfold bodyOf at h
  split at h
  · split at h
    · split at h
      · split at h
        · split at h
          · cases h
            rw [List.length_take, List.length_drop]
            omega
          · cases h
        · cases h
      · cases h
    · cases h
  · cases h
end Go.Proofs.J.Pure
end
section
namespace Go.Proofs.J.Pure
open Go.RowKit Go.Proofs.J.Print Go.Proofs.PrintWords Go.Proofs.PrintLast Go.Proofs.PrintMore
def sNum (r : Bs) : Option (S85 × Bs) := if 8 ≤ r.length then some (⟨1, wrap64 (leN (r.take 8) : Int), ⟨#[]⟩⟩, r.drop 8) else none
def sTxt : Bs → Option (S85 × Bs)
  | [] => none
  | n :: q => if n.toNat ≤ q.length then some (⟨2, 0, ob (q.take n.toNat)⟩, q.drop n.toNat) else none
def sV : Bs → Option (S85 × Bs)
  | [] => none
  | t :: r => if t = 78 then sNum r else if t = 84 then sTxt r else none
def lV : Bs → Option (S85 × Bs)
  | [] => none
  | t :: r => if t = 84 then sTxt r else sNum r
def sA (p : Bs → Option (S85 × Bs)) : Nat → Bs → List S85 → Option (List S85 × Bs)
  | 0, l, acc => some (acc, l)
  | m + 1, l, acc => match p l with | none => none | some (v, r) => sA p m r (acc ++ [v])
def sF (p : Bs → Option (S85 × Bs)) : Bs → Option (S90 × Bs)
  | [] => none
  | n :: q => if n.toNat ≤ q.length then (match q.drop n.toNat with | [] => none | c :: r => match sA p c.toNat r [] with | none => none | some (az, z) => some (⟨ob (q.take n.toNat), az⟩, z)) else none
def sN (p : Bs → Option (S85 × Bs)) : Nat → Bs → List S90 → Option (List S90 × Bs)
  | 0, l, acc => some (acc, l)
  | m + 1, l, acc => match sF p l with | none => none | some (f, r) => sN p m r (acc ++ [f])
def sFs (p : Bs → Option (S85 × Bs)) (l : Bs) : Option (List S90 × Bs) := if 4 ≤ l.length then sN p (leN (l.take 4)) (l.drop 4) [] else none
def u64n (x : Int) : Nat := (IntKind.u64.wrap x).toNat
theorem u64n_lt (x : Int) : u64n x < 18446744073709551616 := by unfold u64n; rw [wrap_u64]; omega
theorem u64n_cast (x : Int) : (u64n x : Int) = IntKind.u64.wrap x := by unfold u64n; rw [wrap_u64]; omega
def encV (v : S85) : Bs := if v.f0 = 1 then 78 :: leB 8 (u64n v.f1) else 84 :: (leB 1 v.f2.size ++ lb v.f2)
def encF (f : S90) : Bs := leB 1 f.f0.size ++ (lb f.f0 ++ (leB 1 f.f1.length ++ f.f1.flatMap encV))
def encFs (l : List S90) : Bs := leB 4 l.length ++ l.flatMap encF
def rngV (v : S85) : Prop := -9223372036854775808 ≤ v.f1 ∧ v.f1 ≤ 9223372036854775807
def okV (v : S85) : Prop := rngV v ∧ (v.f0 = 1 ∧ v.f2 = ⟨#[]⟩ ∨ v.f0 = 2 ∧ v.f1 = 0 ∧ v.f2.size ≤ 255)
def okF (f : S90) : Prop := f.f0.size ≤ 255 ∧ f.f1.length ≤ 255 ∧ ∀ v ∈ f.f1, okV v
theorem w64_u64 (n : Nat) (h : n < 18446744073709551616) : u64n (wrap64 (n : Int)) = n := by unfold u64n wrap64; rw [wrap_u64]; omega
theorem u64_w64 (x : Int) (h : -9223372036854775808 ≤ x ∧ x ≤ 9223372036854775807) : wrap64 (u64n x : Int) = x := by rw [u64n_cast, wrap_u64]; unfold wrap64; omega
theorem rng_w64 (n : Int) : -9223372036854775808 ≤ wrap64 n ∧ wrap64 n ≤ 9223372036854775807 := by unfold wrap64; omega
theorem leB1 (x : Nat) : leB 1 x = [UInt8.ofNat (x % 256)] := rfl
theorem leB1_u8 (c : UInt8) : leB 1 c.toNat = [c] := by
  have := c.toNat_lt
  rw [leB1, Nat.mod_eq_of_lt (by omega)]
  simp
theorem u8_of (x : Nat) (h : x ≤ 255) : (UInt8.ofNat (x % 256)).toNat = x := by rw [UInt8.toNat_ofNat']; omega
theorem sTxt_inv {l : Bs} {v : S85} {r : Bs} (h : sTxt l = some (v, r)) : 84 :: l = encV v ++ r ∧ okV v := by
  cases l with
  | nil => cases h
  | cons n q =>
    simp only [sTxt] at h
    split at h
    · rename_i hn
      cases h
      have hs := n.toNat_lt
      have e : (ob (q.take n.toNat)).size = n.toNat := by rw [ob_size, List.length_take]; omega
      refine ⟨?_, ⟨by simp [rngV], Or.inr ⟨rfl, rfl, by show (ob (q.take n.toNat)).size ≤ 255; omega⟩⟩⟩
      unfold encV
      rw [if_neg (show ¬ (2 : Int) = 1 by decide)]
      show _ = 84 :: (leB 1 (ob (q.take n.toNat)).size ++ lb (ob (q.take n.toNat))) ++ _
      rw [e, leB1_u8, lb_ob]
      simp
    · cases h
theorem sNum_inv {l : Bs} {v : S85} {r : Bs} (h : sNum l = some (v, r)) : 78 :: l = encV v ++ r ∧ okV v := by
  unfold sNum at h
  split at h
  · rename_i hn
    cases h
    have hl := leN_lt (l.take 8)
    have e : (l.take 8).length = 8 := by rw [List.length_take]; omega
    rw [e] at hl
    refine ⟨?_, ⟨rng_w64 _, Or.inl ⟨rfl, rfl⟩⟩⟩
    unfold encV
    rw [if_pos rfl]
    show _ = 78 :: leB 8 (u64n (wrap64 (leN (l.take 8) : Int))) ++ _
    rw [w64_u64 _ (by omega)]
    have := leB_leN (l.take 8)
    rw [e] at this
    rw [this]
    simp
  · cases h
theorem sV_inv {l : Bs} {v : S85} {r : Bs} (h : sV l = some (v, r)) : l = encV v ++ r ∧ okV v ∧ lV l = some (v, r) := by
  cases l with
  | nil => cases h
  | cons t q =>
    simp only [sV] at h
    split at h
    · rename_i e
      subst e
      have := sNum_inv h
      exact ⟨this.1, this.2, by simp only [lV]; rw [if_neg (by decide)]; exact h⟩
    · split at h
      · rename_i e
        subst e
        have := sTxt_inv h
        exact ⟨this.1, this.2, by simp only [lV]; rw [if_pos (by trivial)]; exact h⟩
      · cases h
theorem sV_enc (v : S85) (r : Bs) (h : okV v) : sV (encV v ++ r) = some (v, r) := by
  obtain ⟨hr, h⟩ := h
  rcases h with ⟨h0, h2⟩ | ⟨h0, h1, h2⟩
  · unfold encV
    rw [if_pos h0]
    simp only [List.cons_append, sV]
    rw [if_pos (by trivial)]
    unfold sNum
    have e := leB_len 8 (u64n v.f1)
    rw [if_pos (by rw [List.length_append]; omega)]
    have et : (leB 8 (u64n v.f1) ++ r).take 8 = leB 8 (u64n v.f1) := by rw [List.take_append_of_le_length (by omega), List.take_of_length_le (by omega)]
    have ed : (leB 8 (u64n v.f1) ++ r).drop 8 = r := by rw [List.drop_append_of_le_length (by omega), List.drop_of_length_le (by omega)]; rfl
    rw [et, ed, leN_leB, Nat.mod_eq_of_lt (u64n_lt _), u64_w64 _ hr, ← h0, ← h2]
  · unfold encV
    rw [if_neg (by omega)]
    rw [leB1]
    simp only [List.cons_append, List.nil_append, sV]
    rw [if_neg (by decide), if_pos (by trivial)]
    simp only [sTxt]
    rw [u8_of _ h2, if_pos (by rw [List.length_append, lb_len]; omega)]
    have et : (lb v.f2 ++ r).take v.f2.size = lb v.f2 := by rw [List.take_append_of_le_length (by rw [lb_len]; omega), List.take_of_length_le (by rw [lb_len]; omega)]
    have ed : (lb v.f2 ++ r).drop v.f2.size = r := by rw [List.drop_append_of_le_length (by rw [lb_len]; omega), List.drop_of_length_le (by rw [lb_len]; omega)]; rfl
    rw [et, ed, ob_lb, ← h0, ← h1]
theorem sA_inv : ∀ (m : Nat) {l : Bs} {acc az : List S85} {r : Bs}, sA sV m l acc = some (az, r) → ∃ bs, az = acc ++ bs ∧ bs.length = m ∧ l = bs.flatMap encV ++ r ∧ (∀ v ∈ bs, okV v) ∧ sA lV m l acc = some (az, r)
  | 0, l, acc, az, r, h => by
    simp only [sA] at h
    cases h
    exact ⟨[], by simp, rfl, by simp, by simp, rfl⟩
  | m + 1, l, acc, az, r, h => by
    simp only [sA] at h
    split at h
    · cases h
    · rename_i v q e
      obtain ⟨e1, e2, e3⟩ := sV_inv e
      obtain ⟨bs, rfl, hl, hq, hok, hL⟩ := sA_inv m h
      refine ⟨v :: bs, by simp, by simp [hl], by rw [e1, hq]; simp, by simpa using ⟨e2, hok⟩, ?_⟩
      simp only [sA, e3]
      exact hL
theorem sA_enc : ∀ (bs : List S85) (r : Bs) (acc : List S85), (∀ v ∈ bs, okV v) → sA sV bs.length (bs.flatMap encV ++ r) acc = some (acc ++ bs, r)
  | [], r, acc, _ => by simp [sA]
  | v :: bs, r, acc, h => by
    simp only [List.length_cons, sA, List.flatMap_cons, List.append_assoc]
    rw [sV_enc v _ (h v (by simp))]
    dsimp only
    rw [sA_enc bs r _ (fun x hx => h x (by simp [hx]))]
    simp
theorem sF_inv {l : Bs} {f : S90} {r : Bs} (h : sF sV l = some (f, r)) : l = encF f ++ r ∧ okF f ∧ sF lV l = some (f, r) := by
  cases l with
  | nil => cases h
  | cons n q =>
    simp only [sF] at h
    split at h
    · rename_i hn
      split at h
      · cases h
      · rename_i c z e
        split at h
        · cases h
        · rename_i az w eA
          cases h
          obtain ⟨bs, e0, hl, hz, hok, hL⟩ := sA_inv _ eA
          rw [List.nil_append] at e0
          subst e0
          have hc := c.toNat_lt
          have hnn := n.toNat_lt
          have es : (ob (q.take n.toNat)).size = n.toNat := by rw [ob_size, List.length_take]; omega
          refine ⟨?_, ⟨by show (ob (q.take n.toNat)).size ≤ 255; omega, by show az.length ≤ 255; omega, hok⟩, ?_⟩
          · show n :: q = leB 1 (ob (q.take n.toNat)).size ++ (lb (ob (q.take n.toNat)) ++ (leB 1 az.length ++ az.flatMap encV)) ++ r
            rw [es, hl, leB1_u8, leB1_u8, lb_ob]
            have : q = q.take n.toNat ++ q.drop n.toNat := (List.take_append_drop _ _).symm
            rw [e, hz] at this
            simp only [List.cons_append, List.nil_append, List.append_assoc]
            rw [List.cons.injEq]
            exact ⟨rfl, this⟩
          · simp only [sF]
            rw [if_pos hn, e]
            dsimp only
            rw [hL]
    · cases h
theorem sF_enc (f : S90) (r : Bs) (h : okF f) : sF sV (encF f ++ r) = some (f, r) := by
  obtain ⟨h1, h2, h3⟩ := h
  unfold encF
  rw [leB1, leB1]
  simp only [List.cons_append, List.nil_append, List.append_assoc, sF]
  rw [u8_of _ h1, if_pos (by rw [List.length_append, lb_len]; omega)]
  have et : ∀ x : Bs, (lb f.f0 ++ x).take f.f0.size = lb f.f0 := fun x => by rw [List.take_append_of_le_length (by rw [lb_len]; omega), List.take_of_length_le (by rw [lb_len]; omega)]
  have ed : ∀ x : Bs, (lb f.f0 ++ x).drop f.f0.size = x := fun x => by rw [List.drop_append_of_le_length (by rw [lb_len]; omega), List.drop_of_length_le (by rw [lb_len]; omega)]; rfl
  rw [et, ed]
  dsimp only
  rw [u8_of _ h2, sA_enc _ _ _ h3]
  rfl
theorem sN_inv : ∀ (m : Nat) {l : Bs} {acc fs : List S90} {r : Bs}, sN sV m l acc = some (fs, r) → ∃ bs, fs = acc ++ bs ∧ bs.length = m ∧ l = bs.flatMap encF ++ r ∧ (∀ v ∈ bs, okF v) ∧ sN lV m l acc = some (fs, r)
  | 0, l, acc, az, r, h => by
    simp only [sN] at h
    cases h
    exact ⟨[], by simp, rfl, by simp, by simp, rfl⟩
  | m + 1, l, acc, az, r, h => by
    simp only [sN] at h
    split at h
    · cases h
    · rename_i v q e
      obtain ⟨e1, e2, e3⟩ := sF_inv e
      obtain ⟨bs, rfl, hl, hq, hok, hL⟩ := sN_inv m h
      refine ⟨v :: bs, by simp, by simp [hl], by rw [e1, hq]; simp, by simpa using ⟨e2, hok⟩, ?_⟩
      simp only [sN, e3]
      exact hL
theorem sN_enc : ∀ (bs : List S90) (r : Bs) (acc : List S90), (∀ v ∈ bs, okF v) → sN sV bs.length (bs.flatMap encF ++ r) acc = some (acc ++ bs, r)
  | [], r, acc, _ => by simp [sN]
  | v :: bs, r, acc, h => by
    simp only [List.length_cons, sN, List.flatMap_cons, List.append_assoc]
    rw [sF_enc v _ (h v (by simp))]
    dsimp only
    rw [sN_enc bs r _ (fun x hx => h x (by simp [hx]))]
    simp
theorem sFs_inv {l : Bs} {fs : List S90} {r : Bs} (h : sFs sV l = some (fs, r)) : l = encFs fs ++ r ∧ (∀ f ∈ fs, okF f) ∧ fs.length < 4294967296 ∧ sFs lV l = some (fs, r) := by
  unfold sFs at h
  split at h
  · rename_i h4
    obtain ⟨bs, e0, hl, hz, hok, hL⟩ := sN_inv _ h
    rw [List.nil_append] at e0
    subst e0
    have hlt := leN_lt (l.take 4)
    have e4 : (l.take 4).length = 4 := by rw [List.length_take]; omega
    rw [e4] at hlt
    refine ⟨?_, hok, by omega, ?_⟩
    · unfold encFs
      have h1 := leB_leN (l.take 4)
      rw [e4] at h1
      rw [hl, h1, List.append_assoc, ← hz, List.take_append_drop]
    · unfold sFs
      rw [if_pos h4]
      exact hL
  · cases h
theorem sFs_enc (fs : List S90) (r : Bs) (h : ∀ f ∈ fs, okF f) (hl : fs.length < 4294967296) : sFs sV (encFs fs ++ r) = some (fs, r) := by
  unfold sFs encFs
  have e := leB_len 4 fs.length
  rw [if_pos (by rw [List.length_append, List.length_append]; omega), List.append_assoc]
  have et : ∀ x : Bs, (leB 4 fs.length ++ x).take 4 = leB 4 fs.length := fun x => by rw [List.take_append_of_le_length (by omega), List.take_of_length_le (by omega)]
  have ed : ∀ x : Bs, (leB 4 fs.length ++ x).drop 4 = x := fun x => by rw [List.drop_append_of_le_length (by omega), List.drop_of_length_le (by omega)]; rfl
  rw [et, ed, leN_leB, Nat.mod_eq_of_lt (by omega), sN_enc _ _ _ h]
  rfl
end Go.Proofs.J.Pure
end
section
namespace Go.Proofs.J.Pure
open Go.RowKit Go.Proofs.J.Print Go.Proofs.PrintWords Go.Proofs.PrintLast Go.Proofs.PrintMore
theorem bt_one (n : UInt8) : bt (ob [n]) 0 = (n.toNat : Int) := by
  have := bt_byt (ob [n]) 0
  rw [byt_lb] at this
  exact this
theorem ob_toList (l : Bs) : (ob l).toList = l := lb_toList (ob l)
theorem pt_yes (l : Bs) (n : Nat) (h : n ≤ l.length) (m : Int) (hm : m = (n : Int)) : journal_reader_take.f (ob l) m = some (ob (l.take n), ob (l.drop n)) := by
  subst hm
  unfold journal_reader_take.f
  rw [ob_size, if_neg (by omega), if_pos (by omega), if_pos (by omega), Int.toNat_natCast]
  congr 2
  · exact lb_inj (by rw [lb_take, lb_ob, lb_ob])
  · exact lb_inj (by rw [← ob_size, lb_drop, lb_ob, lb_ob])
theorem pt_no (l : Bs) (n : Nat) (h : ¬ n ≤ l.length) (m : Int) (hm : m = (n : Int)) : journal_reader_take.f (ob l) m = none := by
  subst hm
  unfold journal_reader_take.f
  rw [ob_size, if_pos (by omega)]
theorem Ev.bindPs {α β : Type} {o : Option α} {a : α} (h : o = some a) {f : Nat → α → Option (Option β)} {r : Option β} (h2 : Ev (fun k => f k a) r) : Ev (fun k => Print.bindP o (f k)) r := by subst h; exact h2
theorem Ev.bindPn {α β : Type} {o : Option α} (h : o = none) {f : Nat → α → Option (Option β)} : Ev (fun k => Print.bindP o (f k)) none := by subst h; exact Ev.const rfl
abbrev PF := Option (List S90 × ByteArray)
theorem args_end (x3 : List S90) (h3 : x3.length < 3518437208883) (pred : ByteArray) (x7 x8 : Int) (c : Nat) (l : Bs) (acc : List S85) (v : PF)
    (h : Ev (fun k => factsP.l0 k (x3 ++ [⟨pred, acc⟩]) x7 ((x8 + 1) % 4294967296) (ob l)) v) : Ev (fun k => factsP.l1 k x3 x7 x8 (c : Int) (c : Int) (ob l) pred acc) v := by
  refine Ev.succ (Ev.congr (fun k => ?_) h)
  rw [factsP.l1, if_neg (by omega), if_pos h3]
theorem args_step (x3 : List S90) (pred : ByteArray) (x7 x8 : Int) (c i : Nat) (hc : c ≤ 255) (hi : i < c) (l : Bs) (acc : List S85) (ha : acc.length = i) (v : PF)
    (h0 : sV l = none → v = none) (h1 : ∀ a r, sV l = some (a, r) → Ev (fun k => factsP.l1 k x3 x7 x8 (c : Int) ((i + 1 : Nat) : Int) (ob r) pred (acc ++ [a])) v) :
    Ev (fun k => factsP.l1 k x3 x7 x8 (c : Int) (i : Int) (ob l) pred acc) v := by
  apply Ev.succ
  have ha2 : acc.length < 4398046511104 := by omega
  have ei : ((i : Int) + 1) % 256 = ((i + 1 : Nat) : Int) := by omega
  have e1 : ∀ k, factsP.l1 (k + 1) x3 x7 x8 (c : Int) (i : Int) (ob l) pred acc = _ := fun k => by rw [factsP.l1, if_pos (by omega), ei]
  refine Ev.congr e1 ?_
  clear e1
  cases l with
  | nil =>
    rw [h0 rfl]
    exact Ev.bindPn (pt_no [] 1 (by simp) 1 rfl)
  | cons t r =>
    refine Ev.bindPs (pt_yes (t :: r) 1 (by simp) 1 rfl) ?_
    have ht : (ob (List.take 1 (t :: r))).toList = [t] := ob_toList [t]
    by_cases t1 : t = 78
    · refine Ev.iteT (ht.trans (by rw [t1])) ?_
      by_cases h8 : 8 ≤ r.length
      · have e8 : (ob (r.take 8)).size = 8 := by rw [ob_size, List.length_take]; omega
        have hg := get64_ev _ e8
        rw [lb_ob] at hg
        refine Ev.bindPs (pt_yes r 8 h8 8 rfl) (Ev.bind hg (Ev.iteT ha2 ?_))
        exact h1 _ _ (by simp only [sV, sNum]; rw [if_pos t1, if_pos h8])
      · rw [h0 (by simp only [sV, sNum]; rw [if_pos t1, if_neg h8])]
        exact Ev.bindPn (pt_no r 8 h8 8 rfl)
    · refine Ev.iteF (fun h => t1 (by have := ht.symm.trans h; simpa using this)) ?_
      by_cases t2 : t = 84
      · refine Ev.iteT (ht.trans (by rw [t2])) ?_
        cases r with
        | nil =>
          rw [h0 (by simp only [sV, sTxt]; rw [if_neg t1, if_pos t2])]
          exact Ev.bindPn (pt_no [] 1 (by simp) 1 rfl)
        | cons n q =>
          have hnn := n.toNat_lt
          have hz : (0 : Int) < ((ob (List.take 1 (n :: q))).size : Int) := by rw [ob_size]; simp
          have hw : wrap64 (bt (ob (List.take 1 (n :: q))) 0) = (n.toNat : Int) := (congrArg wrap64 (bt_one n)).trans (w64 _ (by omega) (by omega))
          refine Ev.bindPs (pt_yes (n :: q) 1 (by simp) 1 rfl) (Ev.iteT hz ?_)
          by_cases hq : n.toNat ≤ q.length
          · refine Ev.bindPs (pt_yes q n.toNat hq _ hw) (Ev.iteT ha2 ?_)
            exact h1 _ _ (by simp only [sV, sTxt]; rw [if_neg t1, if_pos t2, if_pos hq])
          · rw [h0 (by simp only [sV, sTxt]; rw [if_neg t1, if_pos t2, if_neg hq])]
            exact Ev.bindPn (pt_no q n.toNat hq _ hw)
      · refine Ev.iteF (fun h => t2 (by have := ht.symm.trans h; simpa using this)) ?_
        rw [h0 (by simp only [sV]; rw [if_neg t1, if_neg t2])]
        exact Ev.const rfl
theorem args_ev (x3 : List S90) (h3 : x3.length < 3518437208883) (pred : ByteArray) (x7 x8 : Int) (c : Nat) (hc : c ≤ 255) (v : PF) (m : Nat) : ∀ (i : Nat) (l : Bs) (acc : List S85), i + m = c → acc.length = i →
    (sA sV m l acc = none → v = none) → (∀ az r, sA sV m l acc = some (az, r) → Ev (fun k => factsP.l0 k (x3 ++ [⟨pred, az⟩]) x7 ((x8 + 1) % 4294967296) (ob r)) v) →
    Ev (fun k => factsP.l1 k x3 x7 x8 (c : Int) (i : Int) (ob l) pred acc) v := by
  induction m with
  | zero =>
    intro i l acc hi ha hn hs
    have := args_end x3 h3 pred x7 x8 c l acc v (hs acc l rfl)
    rw [show i = c by omega]
    exact this
  | succ m ih =>
    intro i l acc hi ha hn hs
    refine args_step x3 pred x7 x8 c i hc (by omega) l acc ha v (fun e => hn (by simp only [sA, e])) (fun a r e => ?_)
    have eA : sA sV (m + 1) l acc = sA sV m r (acc ++ [a]) := by simp only [sA, e]
    rw [eA] at hn hs
    exact ih (i + 1) r _ (by omega) (by simp; omega) hn hs
theorem facts_step (c i : Nat) (hc : c < 4294967296) (hi : i < c) (l : Bs) (acc : List S90) (ha : acc.length = i) (v : PF)
    (h0 : sF sV l = none → v = none) (h1 : ∀ f r, sF sV l = some (f, r) → Ev (fun k => factsP.l0 k (acc ++ [f]) (c : Int) ((i + 1 : Nat) : Int) (ob r)) v) :
    Ev (fun k => factsP.l0 k acc (c : Int) (i : Int) (ob l)) v := by
  have ha2 : acc.length < 3518437208883 := by omega
  have ei : ((i : Int) + 1) % 4294967296 = ((i + 1 : Nat) : Int) := by omega
  apply Ev.succ
  have e1 : ∀ k, factsP.l0 (k + 1) acc (c : Int) (i : Int) (ob l) = _ := fun k => by rw [factsP.l0, if_pos (by omega)]
  refine Ev.congr e1 ?_
  clear e1
  cases l with
  | nil =>
    rw [h0 rfl]
    exact Ev.bindPn (pt_no [] 1 (by simp) 1 rfl)
  | cons n q =>
    have hnn := n.toNat_lt
    have hz : (0 : Int) < ((ob (List.take 1 (n :: q))).size : Int) := by rw [ob_size]; simp
    have hw : wrap64 (bt (ob (List.take 1 (n :: q))) 0) = (n.toNat : Int) := (congrArg wrap64 (bt_one n)).trans (w64 _ (by omega) (by omega))
    refine Ev.bindPs (pt_yes (n :: q) 1 (by simp) 1 rfl) (Ev.iteT hz ?_)
    by_cases hq : n.toNat ≤ q.length
    · refine Ev.bindPs (pt_yes q n.toNat hq _ hw) ?_
      cases hd : q.drop n.toNat with
      | nil =>
        rw [h0 (by simp only [sF]; rw [if_pos hq, hd])]
        exact Ev.bindPn (pt_no [] 1 (by simp) 1 rfl)
      | cons a z =>
        have haa := a.toNat_lt
        have hza : (0 : Int) < ((ob (List.take 1 (a :: z))).size : Int) := by rw [ob_size]; simp
        have hwa : bt (ob (List.take 1 (a :: z))) 0 = (a.toNat : Int) := bt_one a
        refine Ev.bindPs (pt_yes (a :: z) 1 (by simp) 1 rfl) (Ev.iteT hza ?_)
        have := args_ev acc ha2 (ob (q.take n.toNat)) (c : Int) (i : Int) a.toNat (by omega) v a.toNat 0 z [] (by omega) rfl
          (fun e => h0 (by simp only [sF]; rw [if_pos hq, hd]; simp only [e]))
          (fun az r e => by
            rw [ei]
            exact h1 _ _ (by simp only [sF]; rw [if_pos hq, hd]; simp only [e]))
        rw [← hwa] at this
        exact this
    · rw [h0 (by simp only [sF]; rw [if_neg hq])]
      exact Ev.bindPn (pt_no q n.toNat hq _ hw)
theorem facts_loop (c : Nat) (hc : c < 4294967296) (v : PF) (m : Nat) : ∀ (i : Nat) (l : Bs) (acc : List S90), i + m = c → acc.length = i →
    (sN sV m l acc = none → v = none) → (∀ fs r, sN sV m l acc = some (fs, r) → Ev (fun k => (journal_rising.f k fs).bind fun t => if t = true then some (some (fs, ob r)) else some none) v) →
    Ev (fun k => factsP.l0 k acc (c : Int) (i : Int) (ob l)) v := by
  induction m with
  | zero =>
    intro i l acc hi ha hn hs
    refine Ev.succ (Ev.congr (fun k => ?_) (hs acc l rfl))
    rw [factsP.l0, if_neg (by omega)]
  | succ m ih =>
    intro i l acc hi ha hn hs
    refine facts_step c i hc (by omega) l acc ha v (fun e => hn (by simp only [sN, e])) (fun a r e => ?_)
    have eA : sN sV (m + 1) l acc = sN sV m r (acc ++ [a]) := by simp only [sN, e]
    rw [eA] at hn hs
    exact ih (i + 1) r _ (by omega) (by simp; omega) hn hs
theorem factsP_ev (ris : List S90 → Bool) (hr : ∀ fs : List S90, (∀ f ∈ fs, okF f) → fs.length < 4294967296 → Ev (fun k => journal_rising.f k fs) (ris fs)) (l : Bs) :
    Ev (fun k => factsP.f k (ob l)) (match sFs sV l with | none => none | some (fs, r) => if ris fs = true then some (fs, ob r) else none) := by
  unfold factsP.f
  by_cases h4 : 4 ≤ l.length
  · have e4 : (ob (l.take 4)).size = 4 := by rw [ob_size, List.length_take]; omega
    have hg := get32_ev _ e4
    rw [lb_ob] at hg
    refine Ev.bindPs (pt_yes l 4 h4 4 rfl) (Ev.bind hg ?_)
    have hlt := leN_lt (l.take 4)
    rw [List.length_take, Nat.min_eq_left h4] at hlt
    have eF : sFs sV l = sN sV (leN (l.take 4)) (l.drop 4) [] := by unfold sFs; rw [if_pos h4]
    refine facts_loop _ (by omega) _ (leN (l.take 4)) 0 (l.drop 4) [] (by omega) rfl ?_ ?_
    · intro e
      rw [eF, e]
    · intro fs r e
      rw [eF, e]
      have hi := sFs_inv (eF.trans e)
      refine Ev.bind (hr fs hi.2.1 hi.2.2.1) ?_
      dsimp only
      cases ris fs with
      | true => exact Ev.const rfl
      | false => exact Ev.const rfl
  · unfold sFs
    rw [if_neg h4]
    exact Ev.bindPn (pt_no l 4 h4 4 rfl)
end Go.Proofs.J.Pure
end
section
namespace Go.Proofs.J.Pure
open Go.RowKit Go.Proofs.J.Print Go.Proofs.PrintWords Go.Proofs.PrintLast Go.Proofs.PrintMore
def frL (x : Bs) : Bs := leB 4 x.length ++ (tur (leB 4 x.length) ++ (x ++ leB 2 (crcL x)))
theorem frL_len (x : Bs) : (frL x).length = 10 + x.length := by
  unfold frL
  simp only [List.length_append, leB_len, tur_len]
  omega
theorem app_take {a : Type} (x y : List a) {n : Nat} (h : x.length = n) : (x ++ y).take n = x := by
  rw [List.take_append_of_le_length (by omega), List.take_of_length_le (by omega)]
theorem app_drop {a : Type} (x y : List a) {n : Nat} (h : x.length = n) : (x ++ y).drop n = y := by
  rw [List.drop_append_of_le_length (by omega), List.drop_of_length_le (by omega)]; rfl
theorem bodyOf_frL (x r : Bs) (h : x.length ≤ 16777216) : bodyOf (frL x ++ r) = some x := by
  have hl := frL_len x
  have e0 : frL x ++ r = leB 4 x.length ++ (tur (leB 4 x.length) ++ (x ++ (leB 2 (crcL x) ++ r))) := by unfold frL; simp [List.append_assoc]
  have t4 : (frL x ++ r).take 4 = leB 4 x.length := by rw [e0]; exact app_take _ _ (leB_len _ _)
  have d4 : (frL x ++ r).drop 4 = tur (leB 4 x.length) ++ (x ++ (leB 2 (crcL x) ++ r)) := by rw [e0]; exact app_drop _ _ (leB_len _ _)
  have d8 : (frL x ++ r).drop 8 = x ++ (leB 2 (crcL x) ++ r) := by
    rw [show (8 : Nat) = 4 + 4 by omega, ← List.drop_drop, d4]
    exact app_drop _ _ (by rw [tur_len, leB_len])
  have dn : (frL x ++ r).drop (8 + x.length) = leB 2 (crcL x) ++ r := by
    rw [← List.drop_drop, d8]
    exact app_drop _ _ rfl
  have hN : leN (leB 4 x.length) = x.length := by rw [leN_leB, Nat.mod_eq_of_lt (by omega)]
  unfold bodyOf
  rw [if_pos (by rw [List.length_append]; omega), t4, d4, app_take _ _ (show (tur (leB 4 x.length)).length = 4 by rw [tur_len, leB_len]), if_pos rfl, hN, if_pos h, if_pos (by rw [List.length_append]; omega), d8, dn, app_take _ _ rfl, app_take _ _ (leB_len _ _), if_pos rfl]
theorem drop_rd85 (l : List S85) (i : Nat) (h : i < l.length) : l.drop i = rd_T85 l i :: l.drop (i + 1) := by
  unfold rd_T85
  rw [Int.toNat_natCast, List.drop_eq_getElem_cons h, List.getD_eq_getElem?_getD, List.getElem?_eq_getElem h]
  rfl
theorem drop_rd90 (l : List S90) (i : Nat) (h : i < l.length) : l.drop i = rd_T90 l i :: l.drop (i + 1) := by
  unfold rd_T90
  rw [Int.toNat_natCast, List.drop_eq_getElem_cons h, List.getD_eq_getElem?_getD, List.getElem?_eq_getElem h]
  rfl
theorem Bytes1_ev (n : Nat) (h : n < 18446744073709551616) : Ev (fun k => pedigreeref29_Bytes.f k (IntKind.u64.wrap (n : Int)) 1) (ob (leB 1 n)) := by
  rw [wraps_u64 _ (by omega) (by omega)]
  exact Bytes_ev n 1 (by omega) h
theorem fbl_step (pred : ByteArray) (args : List S85) (i : Nat) (hi : i < args.length) (x3 : Bs) (hx : x3.length + (encV (rd_T85 args i)).length ≤ 4611686018427387904) (v : ByteArray)
    (h : Ev (fun k => pedigreeref29_factBytes.l0 k (ob (x3 ++ encV (rd_T85 args i))) (wrap64 ((i : Int) + 1)) pred args) v) :
    Ev (fun k => pedigreeref29_factBytes.l0 k (ob x3) (i : Int) pred args) v := by
  apply Ev.succ
  have e1 : ∀ k, pedigreeref29_factBytes.l0 (k + 1) (ob x3) (i : Int) pred args = _ := fun k => by rw [pedigreeref29_factBytes.l0, if_pos (by omega), if_pos (by omega)]
  refine Ev.congr e1 ?_
  clear e1
  have hs := ob_size x3
  unfold encV at hx h
  by_cases c : (rd_T85 args i).f0 = 1
  · rw [if_pos c] at hx h
    simp only [List.length_cons, leB_len] at hx
    refine Ev.iteT c (Ev.iteT (by omega) ?_)
    have hb := Bytes_ev (u64n (rd_T85 args i).f1) 8 (by omega) (u64n_lt _)
    rw [u64n_cast] at hb
    refine Ev.bind hb (Ev.iteT ?_ ?_)
    · rw [ByteArray.size_append, ob_size, ob_size, leB_len, show (⟨#[78]⟩ : ByteArray).size = 1 from rfl]; omega
    · have e : ob x3 ++ (⟨#[78]⟩ : ByteArray) ++ ob (leB 8 (u64n (rd_T85 args i).f1)) = ob (x3 ++ 78 :: leB 8 (u64n (rd_T85 args i).f1)) := by
        apply lb_inj; rw [lb_append, lb_append, lb_ob, lb_ob, lb_ob]; show x3 ++ [78] ++ _ = _; simp
      rw [e]
      exact h
  · rw [if_neg c] at hx h
    simp only [List.length_cons, List.length_append, leB_len, lb_len] at hx
    refine Ev.iteF c (Ev.iteT (by omega) ?_)
    refine Ev.bind (Bytes1_ev (rd_T85 args i).f2.size (by omega)) (Ev.iteT ?_ (Ev.iteT ?_ ?_))
    · rw [ByteArray.size_append, ob_size, ob_size, leB_len, show (⟨#[84]⟩ : ByteArray).size = 1 from rfl]; omega
    · rw [ByteArray.size_append, ByteArray.size_append, ob_size, ob_size, leB_len, show (⟨#[84]⟩ : ByteArray).size = 1 from rfl]; omega
    · have e : ob x3 ++ (⟨#[84]⟩ : ByteArray) ++ ob (leB 1 (rd_T85 args i).f2.size) ++ (rd_T85 args i).f2 = ob (x3 ++ 84 :: (leB 1 (rd_T85 args i).f2.size ++ lb (rd_T85 args i).f2)) := by
        apply lb_inj; rw [lb_append, lb_append, lb_append, lb_ob, lb_ob, lb_ob]; show x3 ++ [84] ++ _ ++ _ = _; simp
      rw [e]
      exact h
theorem fbl_ev (pred : ByteArray) (args : List S85) (hA : args.length ≤ 4611686018427387904) (m : Nat) : ∀ (i : Nat) (x3 : Bs), i + m = args.length → x3.length + ((args.drop i).flatMap encV).length ≤ 4611686018427387904 →
    Ev (fun k => pedigreeref29_factBytes.l0 k (ob x3) (i : Int) pred args) (ob (x3 ++ (args.drop i).flatMap encV)) := by
  induction m with
  | zero =>
    intro i x3 hi hx
    refine Ev.succ (Ev.congr (fun k => ?_) (Ev.const (o := some _) rfl))
    rw [pedigreeref29_factBytes.l0, if_neg (by omega), List.drop_of_length_le (by omega)]
    simp
  | succ m ih =>
    intro i x3 hi hx
    have hd := drop_rd85 args i (by omega)
    rw [hd, List.flatMap_cons, List.length_append] at hx
    rw [hd, List.flatMap_cons, ← List.append_assoc]
    refine fbl_step pred args i (by omega) x3 (by omega) _ ?_
    rw [w64 _ (by omega) (by omega)]
    exact ih (i + 1) _ (by omega) (by rw [List.length_append]; omega)
theorem flatV_len (l : List S85) : l.length ≤ (l.flatMap encV).length := by
  induction l with
  | nil => simp
  | cons v l ih =>
    rw [List.flatMap_cons, List.length_append, List.length_cons]
    have : 1 ≤ (encV v).length := by unfold encV; split <;> simp
    omega
theorem factBytes_ev (f : S90) (h : (encF f).length ≤ 4611686018427387904) : Ev (fun k => pedigreeref29_factBytes.f k f.f0 f.f1) (ob (encF f)) := by
  unfold encF at h ⊢
  simp only [List.length_append, leB_len, lb_len] at h
  have hl := flatV_len f.f1
  unfold pedigreeref29_factBytes.f
  refine Ev.bind (Bytes1_ev f.f0.size (by omega)) (Ev.iteT (by rw [ob_size, leB_len]; omega) (Ev.bind (Bytes1_ev f.f1.length (by omega)) (Ev.iteT (by rw [ByteArray.size_append, ob_size, ob_size, leB_len, leB_len]; omega) ?_)))
  have e : ob (leB 1 f.f0.size) ++ f.f0 ++ ob (leB 1 f.f1.length) = ob (leB 1 f.f0.size ++ (lb f.f0 ++ leB 1 f.f1.length)) := by
    apply lb_inj; rw [lb_append, lb_append, lb_ob, lb_ob, lb_ob, List.append_assoc]
  rw [e]
  have h2 := fbl_ev f.f0 f.f1 (by omega) f.f1.length 0 (leB 1 f.f0.size ++ (lb f.f0 ++ leB 1 f.f1.length)) (by omega) (by simp only [List.length_append, leB_len, lb_len, List.drop_zero]; omega)
  rw [List.drop_zero] at h2
  simp only [List.append_assoc] at h2
  exact h2
def bn (l : Bs) : List Int := l.map fun b => (b.toNat : Int)
theorem bytesOf_ob (l : Bs) : bytesOf (ob l) = bn l := rfl
theorem bn_append (a b : Bs) : bn (a ++ b) = bn a ++ bn b := by simp [bn]
theorem bn_len (a : Bs) : (bn a).length = a.length := by simp [bn]
theorem str_bn (l : Bs) : strOfNums (bn l) = ob l := by
  apply lb_inj
  rw [lb_nums, lb_ob, bn, List.map_map]
  exact (List.map_congr_left (fun x _ => by simp)).trans (List.map_id l)
theorem go_ev (xs : List S90) : ∀ out : Bs, out.length + (xs.flatMap encF).length ≤ 140737488355328 → Ev (fun k => pedigreeref29_Facts.go k xs (bn out)) (bn (out ++ xs.flatMap encF)) := by
  induction xs with
  | nil =>
    intro out h
    exact Ev.const (by simp [pedigreeref29_Facts.go])
  | cons x xs ih =>
    intro out h
    rw [List.flatMap_cons, List.length_append] at h
    have e1 : ∀ k, pedigreeref29_Facts.go k (x :: xs) (bn out) = (pedigreeref29_factBytes.f k x.f0 x.f1).bind fun s => if (bn out).length + s.size ≤ 140737488355328 then pedigreeref29_Facts.go k xs (bn out ++ bytesOf s) else none := fun k => by rw [pedigreeref29_Facts.go]
    refine Ev.congr e1 (Ev.bind (factBytes_ev x (by omega)) (Ev.iteT (by rw [bn_len, ob_size]; omega) ?_))
    rw [bytesOf_ob, ← bn_append, List.flatMap_cons, ← List.append_assoc]
    exact ih _ (by rw [List.length_append]; omega)
theorem flatF_len (l : List S90) : l.length ≤ (l.flatMap encF).length := by
  induction l with
  | nil => simp
  | cons v l ih =>
    rw [List.flatMap_cons, List.length_append, List.length_cons]
    have : 1 ≤ (encF v).length := by unfold encF; simp only [List.length_append, leB_len]; omega
    omega
theorem Facts_ev (l : List S90) (h : (encFs l).length ≤ 140737488355328) : Ev (fun k => pedigreeref29_Facts.f k l) (ob (encFs l)) := by
  unfold encFs at h ⊢
  rw [List.length_append, leB_len] at h
  have hl := flatF_len l
  unfold pedigreeref29_Facts.f
  have hb := Bytes_ev l.length 4 (by omega) (by omega)
  have hw : IntKind.u64.wrap ((l.length : Nat) : Int) = ((l.length : Nat) : Int) := wraps_u64 _ (by omega) (by omega)
  rw [hw]
  refine Ev.bind hb (Ev.iteT (by rw [ob_size, leB_len]; omega) ?_)
  rw [bytesOf_ob]
  refine Ev.bind (go_ev l (leB 4 l.length) (by rw [leB_len]; omega)) (Ev.const ?_)
  rw [str_bn]
theorem Frame_ev (x : Bs) (h : x.length ≤ 140737488351232) : Ev (fun k => pedigreeref29_Frame.f k (ob x)) (ob (frL x)) := by
  unfold pedigreeref29_Frame.f
  have hw : IntKind.u64.wrap (((ob x).size : Nat) : Int) = ((x.length : Nat) : Int) := by rw [ob_size]; exact wraps_u64 _ (by omega) (by omega)
  rw [hw]
  have ht := turned_ev (ob (leB 4 x.length)) (by rw [ob_size, leB_len]; omega)
  rw [lb_ob] at ht
  have hc := crc_lt x
  have hS := Sum_ev2 (ob x) (by rw [ob_size]; omega)
  rw [lb_ob] at hS
  have hb2 := Bytes_ev (crcL x) 2 (by omega) (by omega)
  have hw2 : IntKind.u64.wrap ((crcL x : Nat) : Int) = ((crcL x : Nat) : Int) := wraps_u64 _ (by omega) (by omega)
  refine Ev.bind (Bytes_ev x.length 4 (by omega) (by omega)) (Ev.bind ht (Ev.iteT ?_ (Ev.iteT ?_ (Ev.bind hS ?_))))
  · rw [ob_size, ob_size, tur_len, leB_len]; omega
  · rw [ByteArray.size_append, ob_size, ob_size, ob_size, tur_len, leB_len]; omega
  rw [hw2]
  refine Ev.bind hb2 (Ev.iteT ?_ (Ev.const ?_))
  · rw [ByteArray.size_append, ByteArray.size_append, ob_size, ob_size, ob_size, ob_size, tur_len, leB_len, leB_len]; omega
  · congr 1
def bodyL (n : Int) (l1 l2 : List S90) : Bs := 67 :: (leB 8 (u64n n) ++ (encFs l1 ++ encFs l2))
theorem Encode_ev (n : Int) (l1 l2 : List S90) (g : Bool) (hg : Ev (fun k => pedigreeref29_Good.f k n l1 l2) g) (h : g = true → (bodyL n l1 l2).length ≤ 140737488351232) :
    Ev (fun k => pedigreeref29_Encode.f k n l1 l2) (if g = true then (if (bodyL n l1 l2).length > 16777216 then (⟨#[]⟩, 30) else (ob (frL (bodyL n l1 l2)), 0)) else (⟨#[]⟩, 1)) := by
  unfold pedigreeref29_Encode.f
  refine Ev.bind hg ?_
  cases g with
  | false =>
    rw [if_neg (by decide)]
    exact Ev.iteF (by decide) (Ev.const rfl)
  | true =>
    have h := h rfl
    have e0 : (bodyL n l1 l2).length = 1 + 8 + (encFs l1).length + (encFs l2).length := by unfold bodyL; simp only [List.length_cons, List.length_append, leB_len]; omega
    rw [if_pos rfl]
    have hb := Bytes_ev (u64n n) 8 (by omega) (u64n_lt _)
    rw [u64n_cast] at hb
    have c1 : (⟨#[67]⟩ : ByteArray) = ob [67] := rfl
    rw [c1]
    have eL : ob [67] ++ ob (leB 8 (u64n n)) ++ ob (encFs l1) ++ ob (encFs l2) = ob (bodyL n l1 l2) := by
      apply lb_inj; rw [lb_append, lb_append, lb_append, lb_ob, lb_ob, lb_ob, lb_ob, lb_ob]; unfold bodyL; simp [List.append_assoc]
    refine Ev.iteT rfl (Ev.bind hb (Ev.iteT ?_ (Ev.bind (Facts_ev l1 (by omega)) (Ev.iteT ?_ (Ev.bind (Facts_ev l2 (by omega)) (Ev.iteT ?_ ?_))))))
    · rw [ob_size, leB_len]; omega
    · rw [ByteArray.size_append, ob_size, ob_size, ob_size, leB_len]; simp only [List.length_cons, List.length_nil]; omega
    · rw [ByteArray.size_append, ByteArray.size_append, ob_size, ob_size, ob_size, ob_size, leB_len]; simp only [List.length_cons, List.length_nil]; omega
    rw [eL, ob_size]
    by_cases c : (bodyL n l1 l2).length > 16777216
    · rw [if_pos c]
      exact Ev.iteT (by omega) (Ev.const rfl)
    · rw [if_neg c]
      exact Ev.iteF (by omega) (Ev.bind (Frame_ev _ (by omega)) (Ev.const rfl))
end Go.Proofs.J.Pure
end
