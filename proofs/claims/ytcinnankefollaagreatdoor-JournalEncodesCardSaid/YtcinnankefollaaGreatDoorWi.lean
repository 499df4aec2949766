/- On the way to the law 'JournalEncodes': what the functions that it reaches compute, step by step, and the plain law (JPF216 .. JPF97). Each theorem states its own conditions. -/
import Derived.Test.YtcinnankefollaaGreatDoorWh
import Derived.WalkLawsBesides
set_option linter.unusedVariables false
set_option linter.unusedSimpArgs false
section
namespace Go.Proofs.J.Print
open Go.RowKit Go.Proofs.PrintWords Go.Proofs.PrintLast Go.Proofs.PrintMore
attribute [local go_sem high] eqA85
def pedigreelaw01_SameValues.l0 : Nat → List (S85) → List (S85) → Int → Option (Bool)
 | 0, _, _, _ => none
 | k + 1, x0, x1, x5 => if x5 < (x0.length : Int) then (if 0 ≤ x5 then (if x5 < (x1.length : Int) then (if (!(((rd_T85 x0 x5).f0) == ((rd_T85 x1 x5).f0)) || (!(((rd_T85 x0 x5).f1) == ((rd_T85 x1 x5).f1)) || (!((((rd_T85 x0 x5).f2).toList) == (((rd_T85 x1 x5).f2).toList))))) = true then (some false) else (pedigreelaw01_SameValues.l0 k x0 x1 (wrap64 (x5 + 1)))) else (none)) else (none)) else (some true)
def pedigreelaw01_SameValues.f (k : Nat) (l0 : List (S85)) (l1 : List (S85)) : Option (Bool) := if (l0.length : Int) = (l1.length : Int) then (pedigreelaw01_SameValues.l0 k l0 l1 0) else (some false)
set_option maxHeartbeats 8000000 in
set_option maxRecDepth 100000 in
theorem pedigreelaw01_SameValues.calls (k : Nat) (A0 : Option Addr) (c0 : Nat) (l0 : List (S85)) (A1 : Option Addr) (c1 : Nat) (l1 : List (S85)) (r : Bool) (w : World) (hr0 : Kd.C k85 w A0 l0.length l0) (hc0 : l0.length ≤ c0) (hr1 : Kd.C k85 w A1 l1.length l1) (hc1 : l1.length ≤ c1) (h : pedigreelaw01_SameValues.f k l0 l1 = some r) :
  Calls Tryz.prog 216 #[.slice A0 l0.length c0, .slice A1 l1.length c1] w fun e w' => e = .returned (.bool r) ∧ Drawn0 w w' := by
 have hu85 := Tryz.underlying85
 have HR0 := Aside0.mk hr0
 have HC0 := Aside0.mk hc0
 clear hr0 hc0
 have HR1 := Aside0.mk hr1
 have HC1 := Aside0.mk hc1
 clear hr1 hc1
 have H : (if (l0.length : Int) = (l1.length : Int) then (pedigreelaw01_SameValues.l0 k l0 l1 0) else (some false)) = some r := h
 clear h
 by_cases c3 : (l0.length : Int) = (l1.length : Int)
 ·rw [if_pos c3] at H
  have c3b0 : ((l0.length : Int) == (l1.length : Int)) = true := beq_iff_eq.mpr c3
  have c3b1 : ((l0.length : Int) != (l1.length : Int)) = false := bne_eq_false_iff_eq.mpr c3
  have c3b2 : (l0.length == l1.length) = true := by first | simpa using c3 | (simp at c3 ⊢; omega)
  clear c3
  have H' := Aside0.mk H
  clear H
  go_enter Tryz.func216, Tryz.ntmps216
  go_wp2
  repeat (go_quiet (fail); try go_wp2)
  go_loopg [5] k (fun kq v5 w' => ∃ (x5_1 : Int), v5 = .int .i64 x5_1 ∧ Aside0 (pedigreelaw01_SameValues.l0 kq l0 l1 x5_1 = some r) ∧ Aside0 (kq ≤ k) ∧ Drawn0 w w')
  case atStart => exact ⟨(0), eqS, H', ⟨Nat.le_refl _⟩, by repeat (first | exact Drawn0.refl _ | apply Drawn0.step)⟩
  case round =>
   clear H'
   try clear c1
   try clear c2
   try clear p2
   try clear c3
   try clear c3b0
   try clear c3b1
   try clear c3b2
   obtain ⟨x5_1, rfl, HA, HK1, ⟨m1, rfl⟩⟩ := hrel
   cases gk with
   | zero => exact absurd HA.out (by simp [pedigreelaw01_SameValues.l0])
   | succ k1 =>
    have H := HA.out
    clear HA
    simp only [pedigreelaw01_SameValues.l0] at H
    by_cases c4 : x5_1 < (l0.length : Int)
    ·rw [if_pos c4] at H
     have c4b0 := decide_eq_true c4
     clear c4
     by_cases c5 : 0 ≤ x5_1
     ·rw [if_pos c5] at H
      have c5b0 := decide_eq_true c5
      clear c5
      by_cases c6 : x5_1 < (l1.length : Int)
      ·rw [if_pos c6] at H
       have c6b0 := decide_eq_true c6
       clear c6
       by_cases c7 : (!(((rd_T85 l0 x5_1).f0) == ((rd_T85 l1 x5_1).f0)) || (!(((rd_T85 l0 x5_1).f1) == ((rd_T85 l1 x5_1).f1)) || (!((((rd_T85 l0 x5_1).f2).toList) == (((rd_T85 l1 x5_1).f2).toList))))) = true
       ·rw [if_pos c7] at H
        have c7b0 : (!(((rd_T85 l0 x5_1).f0) == ((rd_T85 l1 x5_1).f0)) || (!(((rd_T85 l0 x5_1).f1) == ((rd_T85 l1 x5_1).f1)) || (!((((rd_T85 l0 x5_1).f2).toList) == (((rd_T85 l1 x5_1).f2).toList))))) = true := c7
        clear c7
        obtain rfl := Option.some.inj H
        have p187 : 0 ≤ (x5_1 : Int) := of_decide_eq_true byA
        have q187 : x5_1 < (l0.length : Int) := of_decide_eq_true byA
        obtain ⟨ad187, e187, hx187_0, hx187_1, hx187_2⟩ := at_T85 HR0.out x5_1 p187 q187
        cases e187
        replace p187 := eq_true p187
        replace q187 := eq_true q187
        have p188 : 0 ≤ (x5_1 : Int) := of_decide_eq_true byA
        have q188 : x5_1 < (l1.length : Int) := of_decide_eq_true byA
        obtain ⟨ad188, e188, hx188_0, hx188_1, hx188_2⟩ := at_T85 HR1.out x5_1 p188 q188
        cases e188
        replace p188 := eq_true p188
        replace q188 := eq_true q188
        go_wp2
        repeat (go_quiet (fail); try go_wp2)
        go_ret
        exact ⟨eqS, by repeat (first | exact Drawn0.refl _ | apply Drawn0.step)⟩
       ·rw [if_neg c7] at H
        have c7b0 : (!(((rd_T85 l0 x5_1).f0) == ((rd_T85 l1 x5_1).f0)) || (!(((rd_T85 l0 x5_1).f1) == ((rd_T85 l1 x5_1).f1)) || (!((((rd_T85 l0 x5_1).f2).toList) == (((rd_T85 l1 x5_1).f2).toList))))) = false := by simpa using c7
        clear c7
        have H' := Aside0.mk H
        clear H
        have p187 : 0 ≤ (x5_1 : Int) := of_decide_eq_true byA
        have q187 : x5_1 < (l0.length : Int) := of_decide_eq_true byA
        obtain ⟨ad187, e187, hx187_0, hx187_1, hx187_2⟩ := at_T85 HR0.out x5_1 p187 q187
        cases e187
        replace p187 := eq_true p187
        replace q187 := eq_true q187
        have p188 : 0 ≤ (x5_1 : Int) := of_decide_eq_true byA
        have q188 : x5_1 < (l1.length : Int) := of_decide_eq_true byA
        obtain ⟨ad188, e188, hx188_0, hx188_1, hx188_2⟩ := at_T85 HR1.out x5_1 p188 q188
        cases e188
        replace p188 := eq_true p188
        replace q188 := eq_true q188
        go_wp2
        repeat (go_quiet (fail); try go_wp2)
        go_roundg k1
        case measure => have := HK1.out; omega
        case rel => exact ⟨(wrap64 (x5_1 + 1)), eqS, H', ⟨by have := HK1.out; omega⟩, by repeat (first | exact Drawn0.refl _ | apply Drawn0.step)⟩
      ·rw [if_neg c6] at H
       exact absurd H (by simp)
     ·rw [if_neg c5] at H
      exact absurd H (by simp)
    ·rw [if_neg c4] at H
     have c4b0 := decide_eq_false c4
     clear c4
     obtain rfl := Option.some.inj H
     go_wp2
     repeat (go_quiet (fail); try go_wp2)
     go_ret
     exact ⟨eqS, by repeat (first | exact Drawn0.refl _ | apply Drawn0.step)⟩
 ·rw [if_neg c3] at H
  have c3b0 : ((l0.length : Int) == (l1.length : Int)) = false := beq_eq_false_iff_ne.mpr c3
  have c3b1 : ((l0.length : Int) != (l1.length : Int)) = true := bne_iff_ne.mpr c3
  have c3b2 : (l0.length == l1.length) = false := by first | simpa using c3 | (simp at c3 ⊢; omega)
  obtain rfl := Option.some.inj H
  go_enter Tryz.func216, Tryz.ntmps216
  go_wp2
  repeat (go_quiet (fail); try go_wp2)
  go_ret
  exact ⟨eqS, by repeat (first | exact Drawn0.refl _ | apply Drawn0.step)⟩
end Go.Proofs.J.Print
end
section
namespace Go.Proofs.J.Print
open Go.RowKit Go.Proofs.PrintWords Go.Proofs.PrintLast Go.Proofs.PrintMore
def pedigreelaw01_SameFact.f (k : Nat) (a0_0 : ByteArray) (l0_1 : List (S85)) (a1_0 : ByteArray) (l1_1 : List (S85)) : Option (Bool) := if a0_0.toList = a1_0.toList then ((pedigreelaw01_SameValues.f k l0_1 l1_1).bind fun t191 => (some t191)) else (some false)
set_option maxHeartbeats 8000000 in
set_option maxRecDepth 100000 in
theorem pedigreelaw01_SameFact.calls (k : Nat) (a0_0 : ByteArray) (A0_1 : Option Addr) (c0_1 : Nat) (l0_1 : List (S85)) (a1_0 : ByteArray) (A1_1 : Option Addr) (c1_1 : Nat) (l1_1 : List (S85)) (r : Bool) (w : World) (hr0_1 : Kd.C k85 w A0_1 l0_1.length l0_1) (hc0_1 : l0_1.length ≤ c0_1) (hr1_1 : Kd.C k85 w A1_1 l1_1.length l1_1) (hc1_1 : l1_1.length ≤ c1_1) (h : pedigreelaw01_SameFact.f k a0_0 l0_1 a1_0 l1_1 = some r) :
  Calls Tryz.prog 99 #[.agg #[.string a0_0, .slice A0_1 l0_1.length c0_1], .agg #[.string a1_0, .slice A1_1 l1_1.length c1_1]] w fun e w' => e = .returned (.bool r) ∧ Below w.heap.size w w' := by
 have hu90 := Tryz.underlying90
 have HR0_1 := Aside0.mk hr0_1
 have HC0_1 := Aside0.mk hc0_1
 clear hr0_1 hc0_1
 have HR1_1 := Aside0.mk hr1_1
 have HC1_1 := Aside0.mk hc1_1
 clear hr1_1 hc1_1
 have HB := Aside0.mk (Below.refl w.heap.size w)
 have H : (if a0_0.toList = a1_0.toList then ((pedigreelaw01_SameValues.f k l0_1 l1_1).bind fun t191 => (some t191)) else (some false)) = some r := h
 clear h
 by_cases c3 : a0_0.toList = a1_0.toList
 focus
  rw [if_pos c3] at H
  have c3b0 : (a0_0.toList == a1_0.toList) = true := beq_iff_eq.mpr c3
  have c3b1 : (a0_0.toList != a1_0.toList) = false := bne_eq_false_iff_eq.mpr c3
  clear c3
  replace H := Option.bind_eq_some_iff.mp H
  obtain ⟨t191, A40, H⟩ := H
  replace H : (some t191) = some r := H
  have A4 := Aside0.mk A40
  clear A40
  obtain rfl := Option.some.inj H
 rotate_right
 focus
  rw [if_neg c3] at H
  have c3b0 : (a0_0.toList == a1_0.toList) = false := beq_eq_false_iff_ne.mpr c3
  have c3b1 : (a0_0.toList != a1_0.toList) = true := bne_iff_ne.mpr c3
  obtain rfl := Option.some.inj H
 all_goals (go_enter Tryz.func99, Tryz.ntmps99; go_wp2_with (first | ((with_reducible refine gate_dst (N := 2) rfl ?_); refine boxS 2 #[.string a0_0, .slice A0_1 l0_1.length c0_1] 90 ?_; intro gb189 hg wq1 hbox hb; have n0_ := Aside0.mk (below_step (upB HB.out) hb); have n1_ := Aside0.mk (hbox); have n2_ := Aside0.mk (geB hg (upB HB.out) : w.heap.size ≤ gb189); have n3_ := Aside0.mk (geB hg (upB HB.out) : w.heap.size ≤ gb189); clear HB; have HB := n0_; have BK189 := n1_; have GW189 := n2_; have GE189 := n3_; clear n0_ n1_ n2_ n3_; clear hb hbox hg) | ((with_reducible refine gate_dst (N := 3) rfl ?_); refine boxS 3 #[.string a1_0, .slice A1_1 l1_1.length c1_1] 90 ?_; intro gb190 hg wq2 hbox hb; have n0_ := Aside0.mk (blk_below (g := gb189) (o := .cells #[.string a0_0, .slice A0_1 l0_1.length c0_1] 90 (0, 0)) (upO BK189.out) hb); have n1_ := Aside0.mk (below_step (upB HB.out) hb); have n2_ := Aside0.mk (hbox); have n3_ := Aside0.mk (geB hg (upB HB.out) : w.heap.size ≤ gb190); have n4_ := Aside0.mk (geB hg (upB HB.out) : w.heap.size ≤ gb190); have n5_ := Aside0.mk ((by rw [hg]; exact Nat.ne_of_lt (blk_lt (g := gb189) (o := .cells #[.string a0_0, .slice A0_1 l0_1.length c0_1] 90 (0, 0)) (upO BK189.out)) : gb189 ≠ gb190)); have n6_ := Aside0.mk ((by rw [hg]; exact Nat.ne_of_gt (blk_lt (g := gb189) (o := .cells #[.string a0_0, .slice A0_1 l0_1.length c0_1] 90 (0, 0)) (upO BK189.out)) : gb190 ≠ gb189)); clear BK189; clear HB; have BK189 := n0_; have HB := n1_; have BK190 := n2_; have GW190 := n3_; have GE190 := n4_; have NB189_190 := n5_; have NB190_189 := n6_; clear n0_ n1_ n2_ n3_ n4_ n5_ n6_; clear hb hbox hg; have hnbq1 := NB189_190.out; have hncq1 := NB190_189.out; have hczq1_0 : wq2.cell? ⟨gb189, 0, none⟩ = some (.string a0_0) := (blk_cell BK189.out 0).trans rfl; have hczq1_1 : wq2.cell? ⟨gb189, 1, none⟩ = some (.slice A0_1 l0_1.length c0_1) := (blk_cell BK189.out 1).trans rfl; have hfzq1_0 := blk_frozen BK189.out 0; have hfzq1_1 := blk_frozen BK189.out 1; have hczq2_0 : wq2.cell? ⟨gb190, 0, none⟩ = some (.string a1_0) := (blk_cell BK190.out 0).trans rfl; have hczq2_1 : wq2.cell? ⟨gb190, 1, none⟩ = some (.slice A1_1 l1_1.length c1_1) := (blk_cell BK190.out 1).trans rfl; have hfzq2_0 := blk_frozen BK190.out 0; have hfzq2_1 := blk_frozen BK190.out 1) | (go_at_call 216; (with_reducible refine (pedigreelaw01_SameValues.calls k _ _ l0_1 _ _ l1_1 t191 _ ?side1 ?side2 ?side3 ?side4 A4.out).mono ?_); (case side1 => exact upC (Kd.C_below HR0_1.out HB.out)); (case side2 => exact HC0_1.out); (case side3 => exact upC (Kd.C_below HR1_1.out HB.out)); (case side4 => exact HC1_1.out); rintro e w' ⟨rfl, ⟨nd, rfl⟩⟩)); first | (go_ret; exact ⟨eqE, upB HB.out⟩))
end Go.Proofs.J.Print
end
section
namespace Go.Proofs.J.Print
open Go.RowKit Go.Proofs.PrintWords Go.Proofs.PrintLast Go.Proofs.PrintMore
def pedigreelaw01_SameFacts.l0 : Nat → List (S90) → List (S90) → Int → Option (Bool)
 | 0, _, _, _ => none
 | k + 1, x0, x1, x5 => if x5 < (x0.length : Int) then (if 0 ≤ x5 then (if x5 < (x1.length : Int) then ((pedigreelaw01_SameFact.f k ((rd_T90 x0 x5).f0) ((rd_T90 x0 x5).f1) ((rd_T90 x1 x5).f0) ((rd_T90 x1 x5).f1)).bind fun t194 => (if t194 = true then (pedigreelaw01_SameFacts.l0 k x0 x1 (wrap64 (x5 + 1))) else (some false))) else (none)) else (none)) else (some true)
def pedigreelaw01_SameFacts.f (k : Nat) (l0 : List (S90)) (l1 : List (S90)) : Option (Bool) := if (l0.length : Int) = (l1.length : Int) then (pedigreelaw01_SameFacts.l0 k l0 l1 0) else (some false)
def pedigreelaw01_SameFacts.T6 : Bool × List (List Nat × List Nat) := (true, [([], []), ([], []), ([0, 1], [0, 1]), ([2], [2]), ([], []), ([], []), ([4, 5], [4, 5]), ([6], [6]), ([3, 7], [3, 7]), ([8], [8])])
def pedigreelaw01_SameFacts.B6 : List Nat := [0, 0, 3, 7, 0, 0, 48, 112, 255, 511]
theorem pedigreelaw01_SameFacts.tab6 : rtab .any (opsOf Tryz.f39 6) = pedigreelaw01_SameFacts.T6 := by kernel_rfl
theorem pedigreelaw01_SameFacts.bits6 : waitsOk pedigreelaw01_SameFacts.T6.2 pedigreelaw01_SameFacts.B6 = true := by kernel_rfl
set_option maxHeartbeats 8000000 in
set_option maxRecDepth 100000 in
theorem pedigreelaw01_SameFacts.calls (k : Nat) (A0 : Option Addr) (c0 : Nat) (l0 : List (S90)) (A1 : Option Addr) (c1 : Nat) (l1 : List (S90)) (r : Bool) (w : World) (hr0 : Kd.C k90 w A0 l0.length l0) (hc0 : l0.length ≤ c0) (hr1 : Kd.C k90 w A1 l1.length l1) (hc1 : l1.length ≤ c1) (h : pedigreelaw01_SameFacts.f k l0 l1 = some r) :
  Calls Tryz.prog 39 #[.slice A0 l0.length c0, .slice A1 l1.length c1] w fun e w' => e = .returned (.bool r) ∧ Below w.heap.size w w' := by
 have hu90 := Tryz.underlying90
 have HR0 := Aside0.mk hr0
 have HC0 := Aside0.mk hc0
 clear hr0 hc0
 have HR1 := Aside0.mk hr1
 have HC1 := Aside0.mk hc1
 clear hr1 hc1
 have HB := Aside0.mk (Below.refl w.heap.size w)
 have H : (if (l0.length : Int) = (l1.length : Int) then (pedigreelaw01_SameFacts.l0 k l0 l1 0) else (some false)) = some r := h
 clear h
 by_cases c3 : (l0.length : Int) = (l1.length : Int)
 ·rw [if_pos c3] at H
  have c3b0 : ((l0.length : Int) == (l1.length : Int)) = true := beq_iff_eq.mpr c3
  have c3b1 : ((l0.length : Int) != (l1.length : Int)) = false := bne_eq_false_iff_eq.mpr c3
  have c3b2 : (l0.length == l1.length) = true := by first | simpa using c3 | (simp at c3 ⊢; omega)
  clear c3
  have H' := Aside0.mk H
  clear H
  go_enter Tryz.func39, Tryz.ntmps39
  go_wp2
  go_loopg [5] k (fun kq v5 w' => ∃ (x5_1 : Int), v5 = .int .i64 x5_1 ∧ Aside0 (pedigreelaw01_SameFacts.l0 kq l0 l1 x5_1 = some r) ∧ Aside0 (kq ≤ k) ∧ Aside0 (Below w.heap.size w w'))
  case atStart => exact ⟨(0), eqS, H', ⟨Nat.le_refl _⟩, ⟨upB HB.out⟩⟩
  case round =>
   clear H'
   try clear c1
   try clear p2
   try clear c3
   try clear c3b0
   try clear c3b1
   try clear c3b2
   obtain ⟨x5_1, rfl, HA, HK1, HB⟩ := hrel
   cases gk with
   | zero => exact absurd HA.out (by simp [pedigreelaw01_SameFacts.l0])
   | succ k1 =>
    have H := HA.out
    clear HA
    simp only [pedigreelaw01_SameFacts.l0] at H
    by_cases c4 : x5_1 < (l0.length : Int)
    ·rw [if_pos c4] at H
     have c4b0 := decide_eq_true c4
     clear c4
     by_cases c5 : 0 ≤ x5_1
     ·rw [if_pos c5] at H
      have c5b0 := decide_eq_true c5
      clear c5
      by_cases c6 : x5_1 < (l1.length : Int)
      ·rw [if_pos c6] at H
       have c6b0 := decide_eq_true c6
       clear c6
       replace H := Option.bind_eq_some_iff.mp H
       obtain ⟨t194, A70, H⟩ := H
       replace H : (if t194 = true then (pedigreelaw01_SameFacts.l0 k1 l0 l1 (wrap64 (x5_1 + 1))) else (some false)) = some r := H
       have A7 := Aside0.mk A70
       clear A70
       by_cases c8 : t194 = true
       ·subst c8
        have H1 : (pedigreelaw01_SameFacts.l0 k1 l0 l1 (wrap64 (x5_1 + 1))) = some r := by rw [if_pos rfl] at H; exact H
        clear H
        have H := H1
        clear H1
        have H' := Aside0.mk H
        clear H
        try go_wp2
        have n0_ := Aside0.mk (below_drew1 HB.out)
        clear HB
        have HB := n0_
        clear n0_
        have p192 : 0 ≤ (x5_1 : Int) := of_decide_eq_true byA
        have q192 : x5_1 < (l0.length : Int) := of_decide_eq_true byA
        obtain ⟨ad192, A192_1, c192_1, e192, hx192_0, hx192_1, hl192_1, hi192_1⟩ := at_T90 HR0.out x5_1 p192 q192
        have hw192_1 := hx192_1
        have hw192_0 := hx192_0
        cases e192
        replace hx192_0 := cellB HB.out hx192_0
        replace hx192_1 := cellB HB.out hx192_1
        have HR192_1 := Aside0.mk hi192_1
        have HC192_1 := Aside0.mk hl192_1
        clear hi192_1 hl192_1
        replace p192 := eq_true p192
        replace q192 := eq_true q192
        have p193 : 0 ≤ (x5_1 : Int) := of_decide_eq_true byA
        have q193 : x5_1 < (l1.length : Int) := of_decide_eq_true byA
        obtain ⟨ad193, A193_1, c193_1, e193, hx193_0, hx193_1, hl193_1, hi193_1⟩ := at_T90 HR1.out x5_1 p193 q193
        have hw193_1 := hx193_1
        have hw193_0 := hx193_0
        cases e193
        replace hx193_0 := cellB HB.out hx193_0
        replace hx193_1 := cellB HB.out hx193_1
        have HR193_1 := Aside0.mk hi193_1
        have HC193_1 := Aside0.mk hl193_1
        clear hi193_1 hl193_1
        replace p193 := eq_true p193
        replace q193 := eq_true q193
        refine start_ (n := 10) (S := fun w' => w'.cell? (ad192.add ((x5_1).toNat * 2)) = some (.string ((rd_T90 l0 x5_1).f0)) ∧ w'.cell? ⟨(ad192.add ((x5_1).toNat * 2)).block, (ad192.add ((x5_1).toNat * 2)).off + 1, none⟩ = some (.slice A192_1 ((rd_T90 l0 x5_1).f1).length c192_1) ∧ w'.cell? (ad193.add ((x5_1).toNat * 2)) = some (.string ((rd_T90 l1 x5_1).f0)) ∧ w'.cell? ⟨(ad193.add ((x5_1).toNat * 2)).block, (ad193.add ((x5_1).toNat * 2)).off + 1, none⟩ = some (.slice A193_1 ((rd_T90 l1 x5_1).f1).length c193_1)) (ds := []) #[false,false,false,false,false,false,false,false,false,false] (by kernel_rfl) rfl rfl ⟨(cellB HB.out hw192_0), (cellB HB.out hw192_1), (cellB HB.out hw193_0), (cellB HB.out hw193_1)⟩ (fun hHeld => ?_); refine with_tabW pedigreelaw01_SameFacts.tab6 pedigreelaw01_SameFacts.bits6 (fun HT_ HW_ => ?_)
        generalize wr.drew = w9 at HB HR192_1 HR193_1 hx192_0 hx192_1 hx193_0 hx193_1 hHeld ⊢
        refine pureS 0 (some 17) HT_ ?_
        refine pureS 1 (some 18) HT_ ?_
        refine pureS 2 (some 19) HT_ ?_
        refine pureS 4 (some 21) HT_ ?_
        refine pureS 5 (some 22) HT_ ?_
        refine pureS 6 (some 23) HT_ ?_
        refine takeS 3 (some 20) HT_ HW_ hHeld ?_
        refine takeS 7 (some 24) HT_ HW_ hHeld ?_
        refine one_ (i := 8) (N := some 25) #[true, true, true, true, true, true, true, true, true, false] rfl rfl (one_of HT_.out (by kernel_rfl)) (by decide) (fun K hK => ?_)
        refine goes_ Tryz.func99 (by kernel_rfl) rfl #[.agg #[.string ((rd_T90 l0 x5_1).f0), .slice A192_1 ((rd_T90 l0 x5_1).f1).length c192_1], .agg #[.string ((rd_T90 l1 x5_1).f0), .slice A193_1 ((rd_T90 l1 x5_1).f1).length c193_1]] (by rfl) rfl rfl (by (try simp only [List.map_toArray, List.map_cons, List.map_nil]); first | done | rfl | (simp only [List.length_drop, List.length_take]; rfl)) ?_
        with_reducible refine (pedigreelaw01_SameFact.calls k1 ((rd_T90 l0 x5_1).f0) _ _ ((rd_T90 l0 x5_1).f1) ((rd_T90 l1 x5_1).f0) _ _ ((rd_T90 l1 x5_1).f1) true _ ?side1 ?side2 ?side3 ?side4 A7.out).mono ?_
        (case side1 => exact upC (Kd.C_below HR192_1.out HB.out))
        (case side2 => exact HC192_1.out)
        (case side3 => exact upC (Kd.C_below HR193_1.out HB.out))
        (case side4 => exact HC193_1.out)
        rintro e w10 ⟨rfl, hb⟩
        refine ⟨_, rfl, ?_⟩
        have n0_ := Aside0.mk (below_step (upB HB.out) hb)
        clear HB
        have HB := n0_
        clear n0_
        (try clear hb)
        (try clear hb2)
        (try clear hk)
        (try clear hi)
        refine hK.out _ _ ⟨(cellB HB.out hw192_0), (cellB HB.out hw192_1), (cellB HB.out hw193_0), (cellB HB.out hw193_1)⟩ (fun hHeld => ?_)
        clear hK K
        refine normS (some 25) ?_
        refine pureS 9 (some 26) HT_ ?_
        refine done_ (done_of HT_.out (by kernel_rfl)) ?_
        try go_wp2
        go_roundg k1
        case measure => have := HK1.out; omega
        case rel => exact ⟨(wrap64 (x5_1 + 1)), eqS, H', ⟨by have := HK1.out; omega⟩, ⟨upB HB.out⟩⟩
       ·replace c8 := Bool.eq_false_iff.mpr c8
        subst c8
        have H1 : (some false) = some r := by rw [if_neg (show ¬ (false = true) by decide)] at H; exact H
        clear H
        have H := H1
        clear H1
        obtain rfl := Option.some.inj H
        try go_wp2
        have n0_ := Aside0.mk (below_drew1 HB.out)
        clear HB
        have HB := n0_
        clear n0_
        have p192 : 0 ≤ (x5_1 : Int) := of_decide_eq_true byA
        have q192 : x5_1 < (l0.length : Int) := of_decide_eq_true byA
        obtain ⟨ad192, A192_1, c192_1, e192, hx192_0, hx192_1, hl192_1, hi192_1⟩ := at_T90 HR0.out x5_1 p192 q192
        have hw192_1 := hx192_1
        have hw192_0 := hx192_0
        cases e192
        replace hx192_0 := cellB HB.out hx192_0
        replace hx192_1 := cellB HB.out hx192_1
        have HR192_1 := Aside0.mk hi192_1
        have HC192_1 := Aside0.mk hl192_1
        clear hi192_1 hl192_1
        replace p192 := eq_true p192
        replace q192 := eq_true q192
        have p193 : 0 ≤ (x5_1 : Int) := of_decide_eq_true byA
        have q193 : x5_1 < (l1.length : Int) := of_decide_eq_true byA
        obtain ⟨ad193, A193_1, c193_1, e193, hx193_0, hx193_1, hl193_1, hi193_1⟩ := at_T90 HR1.out x5_1 p193 q193
        have hw193_1 := hx193_1
        have hw193_0 := hx193_0
        cases e193
        replace hx193_0 := cellB HB.out hx193_0
        replace hx193_1 := cellB HB.out hx193_1
        have HR193_1 := Aside0.mk hi193_1
        have HC193_1 := Aside0.mk hl193_1
        clear hi193_1 hl193_1
        replace p193 := eq_true p193
        replace q193 := eq_true q193
        refine start_ (n := 10) (S := fun w' => w'.cell? (ad192.add ((x5_1).toNat * 2)) = some (.string ((rd_T90 l0 x5_1).f0)) ∧ w'.cell? ⟨(ad192.add ((x5_1).toNat * 2)).block, (ad192.add ((x5_1).toNat * 2)).off + 1, none⟩ = some (.slice A192_1 ((rd_T90 l0 x5_1).f1).length c192_1) ∧ w'.cell? (ad193.add ((x5_1).toNat * 2)) = some (.string ((rd_T90 l1 x5_1).f0)) ∧ w'.cell? ⟨(ad193.add ((x5_1).toNat * 2)).block, (ad193.add ((x5_1).toNat * 2)).off + 1, none⟩ = some (.slice A193_1 ((rd_T90 l1 x5_1).f1).length c193_1)) (ds := []) #[false,false,false,false,false,false,false,false,false,false] (by kernel_rfl) rfl rfl ⟨(cellB HB.out hw192_0), (cellB HB.out hw192_1), (cellB HB.out hw193_0), (cellB HB.out hw193_1)⟩ (fun hHeld => ?_); refine with_tabW pedigreelaw01_SameFacts.tab6 pedigreelaw01_SameFacts.bits6 (fun HT_ HW_ => ?_)
        generalize wr.drew = w11 at HB HR192_1 HR193_1 hx192_0 hx192_1 hx193_0 hx193_1 hHeld ⊢
        refine pureS 0 (some 17) HT_ ?_
        refine pureS 1 (some 18) HT_ ?_
        refine pureS 2 (some 19) HT_ ?_
        refine pureS 4 (some 21) HT_ ?_
        refine pureS 5 (some 22) HT_ ?_
        refine pureS 6 (some 23) HT_ ?_
        refine takeS 3 (some 20) HT_ HW_ hHeld ?_
        refine takeS 7 (some 24) HT_ HW_ hHeld ?_
        refine one_ (i := 8) (N := some 25) #[true, true, true, true, true, true, true, true, true, false] rfl rfl (one_of HT_.out (by kernel_rfl)) (by decide) (fun K hK => ?_)
        refine goes_ Tryz.func99 (by kernel_rfl) rfl #[.agg #[.string ((rd_T90 l0 x5_1).f0), .slice A192_1 ((rd_T90 l0 x5_1).f1).length c192_1], .agg #[.string ((rd_T90 l1 x5_1).f0), .slice A193_1 ((rd_T90 l1 x5_1).f1).length c193_1]] (by rfl) rfl rfl (by (try simp only [List.map_toArray, List.map_cons, List.map_nil]); first | done | rfl | (simp only [List.length_drop, List.length_take]; rfl)) ?_
        with_reducible refine (pedigreelaw01_SameFact.calls k1 ((rd_T90 l0 x5_1).f0) _ _ ((rd_T90 l0 x5_1).f1) ((rd_T90 l1 x5_1).f0) _ _ ((rd_T90 l1 x5_1).f1) false _ ?side1 ?side2 ?side3 ?side4 A7.out).mono ?_
        (case side1 => exact upC (Kd.C_below HR192_1.out HB.out))
        (case side2 => exact HC192_1.out)
        (case side3 => exact upC (Kd.C_below HR193_1.out HB.out))
        (case side4 => exact HC193_1.out)
        rintro e w12 ⟨rfl, hb⟩
        refine ⟨_, rfl, ?_⟩
        have n0_ := Aside0.mk (below_step (upB HB.out) hb)
        clear HB
        have HB := n0_
        clear n0_
        (try clear hb)
        (try clear hb2)
        (try clear hk)
        (try clear hi)
        refine hK.out _ _ ⟨(cellB HB.out hw192_0), (cellB HB.out hw192_1), (cellB HB.out hw193_0), (cellB HB.out hw193_1)⟩ (fun hHeld => ?_)
        clear hK K
        refine normS (some 25) ?_
        refine pureS 9 (some 26) HT_ ?_
        refine done_ (done_of HT_.out (by kernel_rfl)) ?_
        try go_wp2
        go_ret
        exact ⟨eqE, upB HB.out⟩
      ·rw [if_neg c6] at H
       exact absurd H (by simp)
     ·rw [if_neg c5] at H
      exact absurd H (by simp)
    ·rw [if_neg c4] at H
     have c4b0 := decide_eq_false c4
     clear c4
     obtain rfl := Option.some.inj H
     go_wp2
     go_ret
     exact ⟨eqE, upB HB.out⟩
 ·rw [if_neg c3] at H
  have c3b0 : ((l0.length : Int) == (l1.length : Int)) = false := beq_eq_false_iff_ne.mpr c3
  have c3b1 : ((l0.length : Int) != (l1.length : Int)) = true := bne_iff_ne.mpr c3
  have c3b2 : (l0.length == l1.length) = false := by first | simpa using c3 | (simp at c3 ⊢; omega)
  obtain rfl := Option.some.inj H
  go_enter Tryz.func39, Tryz.ntmps39
  go_wp2
  go_ret
  exact ⟨eqE, upB HB.out⟩
end Go.Proofs.J.Print
end
section
namespace Go.Proofs.J.Print
open Go.RowKit Go.Proofs.PrintWords Go.Proofs.PrintLast Go.Proofs.PrintMore
def pedigreelaw01_SameCommit.f (k : Nat) (a0_0 : Int) (l0_1 : List (S90)) (l0_2 : List (S90)) (a1_0 : Int) (l1_1 : List (S90)) (l1_2 : List (S90)) : Option (Bool) := if a0_0 = a1_0 then ((pedigreelaw01_SameFacts.f k l0_1 l1_1).bind fun t197 => (if t197 = true then ((pedigreelaw01_SameFacts.f k l0_2 l1_2).bind fun t198 => (some t198)) else (some false))) else (some false)
set_option maxHeartbeats 8000000 in
set_option maxRecDepth 100000 in
theorem pedigreelaw01_SameCommit.calls (k : Nat) (a0_0 : Int) (A0_1 : Option Addr) (c0_1 : Nat) (l0_1 : List (S90)) (A0_2 : Option Addr) (c0_2 : Nat) (l0_2 : List (S90)) (a1_0 : Int) (A1_1 : Option Addr) (c1_1 : Nat) (l1_1 : List (S90)) (A1_2 : Option Addr) (c1_2 : Nat) (l1_2 : List (S90)) (r : Bool) (w : World) (hr0_1 : Kd.C k90 w A0_1 l0_1.length l0_1) (hc0_1 : l0_1.length ≤ c0_1) (hr0_2 : Kd.C k90 w A0_2 l0_2.length l0_2) (hc0_2 : l0_2.length ≤ c0_2) (hr1_1 : Kd.C k90 w A1_1 l1_1.length l1_1) (hc1_1 : l1_1.length ≤ c1_1) (hr1_2 : Kd.C k90 w A1_2 l1_2.length l1_2) (hc1_2 : l1_2.length ≤ c1_2) (h : pedigreelaw01_SameCommit.f k a0_0 l0_1 l0_2 a1_0 l1_1 l1_2 = some r) :
  Calls Tryz.prog 14 #[.agg #[.int .i64 a0_0, .slice A0_1 l0_1.length c0_1, .slice A0_2 l0_2.length c0_2], .agg #[.int .i64 a1_0, .slice A1_1 l1_1.length c1_1, .slice A1_2 l1_2.length c1_2]] w fun e w' => e = .returned (.bool r) ∧ Below w.heap.size w w' := by
 have hu24 := Tryz.underlying24
 have HR0_1 := Aside0.mk hr0_1
 have HC0_1 := Aside0.mk hc0_1
 clear hr0_1 hc0_1
 have HR0_2 := Aside0.mk hr0_2
 have HC0_2 := Aside0.mk hc0_2
 clear hr0_2 hc0_2
 have HR1_1 := Aside0.mk hr1_1
 have HC1_1 := Aside0.mk hc1_1
 clear hr1_1 hc1_1
 have HR1_2 := Aside0.mk hr1_2
 have HC1_2 := Aside0.mk hc1_2
 clear hr1_2 hc1_2
 have HB := Aside0.mk (Below.refl w.heap.size w)
 have H : (if a0_0 = a1_0 then ((pedigreelaw01_SameFacts.f k l0_1 l1_1).bind fun t197 => (if t197 = true then ((pedigreelaw01_SameFacts.f k l0_2 l1_2).bind fun t198 => (some t198)) else (some false))) else (some false)) = some r := h
 clear h
 by_cases c3 : a0_0 = a1_0
 focus
  rw [if_pos c3] at H
  have c3b0 : (a0_0 == a1_0) = true := beq_iff_eq.mpr c3
  have c3b1 : (a0_0 != a1_0) = false := bne_eq_false_iff_eq.mpr c3
  clear c3
  replace H := Option.bind_eq_some_iff.mp H
  obtain ⟨t197, A40, H⟩ := H
  replace H : (if t197 = true then ((pedigreelaw01_SameFacts.f k l0_2 l1_2).bind fun t198 => (some t198)) else (some false)) = some r := H
  have A4 := Aside0.mk A40
  clear A40
  by_cases c5 : t197 = true
  focus
   subst c5
   have H1 : ((pedigreelaw01_SameFacts.f k l0_2 l1_2).bind fun t198 => (some t198)) = some r := by rw [if_pos rfl] at H; exact H
   clear H
   have H := H1
   clear H1
   replace H := Option.bind_eq_some_iff.mp H
   obtain ⟨t198, A60, H⟩ := H
   replace H : (some t198) = some r := H
   have A6 := Aside0.mk A60
   clear A60
   obtain rfl := Option.some.inj H
  rotate_right
  focus
   replace c5 := Bool.eq_false_iff.mpr c5
   subst c5
   have H1 : (some false) = some r := by rw [if_neg (show ¬ (false = true) by decide)] at H; exact H
   clear H
   have H := H1
   clear H1
   obtain rfl := Option.some.inj H
 rotate_right
 focus
  rw [if_neg c3] at H
  have c3b0 : (a0_0 == a1_0) = false := beq_eq_false_iff_ne.mpr c3
  have c3b1 : (a0_0 != a1_0) = true := bne_iff_ne.mpr c3
  obtain rfl := Option.some.inj H
 all_goals (go_enter Tryz.func14, Tryz.ntmps14; go_wp2_with (first | ((with_reducible refine gate_dst (N := 2) rfl ?_); refine boxS 2 #[.int .i64 a0_0, .slice A0_1 l0_1.length c0_1, .slice A0_2 l0_2.length c0_2] 24 ?_; intro gb195 hg wq1 hbox hb; have n0_ := Aside0.mk (below_step (upB HB.out) hb); have n1_ := Aside0.mk (hbox); have n2_ := Aside0.mk (geB hg (upB HB.out) : w.heap.size ≤ gb195); have n3_ := Aside0.mk (geB hg (upB HB.out) : w.heap.size ≤ gb195); clear HB; have HB := n0_; have BK195 := n1_; have GW195 := n2_; have GE195 := n3_; clear n0_ n1_ n2_ n3_; clear hb hbox hg) | ((with_reducible refine gate_dst (N := 3) rfl ?_); refine boxS 3 #[.int .i64 a1_0, .slice A1_1 l1_1.length c1_1, .slice A1_2 l1_2.length c1_2] 24 ?_; intro gb196 hg wq2 hbox hb; have n0_ := Aside0.mk (blk_below (g := gb195) (o := .cells #[.int .i64 a0_0, .slice A0_1 l0_1.length c0_1, .slice A0_2 l0_2.length c0_2] 24 (0, 0)) (upO BK195.out) hb); have n1_ := Aside0.mk (below_step (upB HB.out) hb); have n2_ := Aside0.mk (hbox); have n3_ := Aside0.mk (geB hg (upB HB.out) : w.heap.size ≤ gb196); have n4_ := Aside0.mk (geB hg (upB HB.out) : w.heap.size ≤ gb196); have n5_ := Aside0.mk ((by rw [hg]; exact Nat.ne_of_lt (blk_lt (g := gb195) (o := .cells #[.int .i64 a0_0, .slice A0_1 l0_1.length c0_1, .slice A0_2 l0_2.length c0_2] 24 (0, 0)) (upO BK195.out)) : gb195 ≠ gb196)); have n6_ := Aside0.mk ((by rw [hg]; exact Nat.ne_of_gt (blk_lt (g := gb195) (o := .cells #[.int .i64 a0_0, .slice A0_1 l0_1.length c0_1, .slice A0_2 l0_2.length c0_2] 24 (0, 0)) (upO BK195.out)) : gb196 ≠ gb195)); clear BK195; clear HB; have BK195 := n0_; have HB := n1_; have BK196 := n2_; have GW196 := n3_; have GE196 := n4_; have NB195_196 := n5_; have NB196_195 := n6_; clear n0_ n1_ n2_ n3_ n4_ n5_ n6_; clear hb hbox hg; have hnbq1 := NB195_196.out; have hncq1 := NB196_195.out; have hczq1_0 : wq2.cell? ⟨gb195, 0, none⟩ = some (.int .i64 a0_0) := (blk_cell BK195.out 0).trans rfl; have hczq1_1 : wq2.cell? ⟨gb195, 1, none⟩ = some (.slice A0_1 l0_1.length c0_1) := (blk_cell BK195.out 1).trans rfl; have hczq1_2 : wq2.cell? ⟨gb195, 2, none⟩ = some (.slice A0_2 l0_2.length c0_2) := (blk_cell BK195.out 2).trans rfl; have hfzq1_0 := blk_frozen BK195.out 0; have hfzq1_1 := blk_frozen BK195.out 1; have hfzq1_2 := blk_frozen BK195.out 2; have hczq2_0 : wq2.cell? ⟨gb196, 0, none⟩ = some (.int .i64 a1_0) := (blk_cell BK196.out 0).trans rfl; have hczq2_1 : wq2.cell? ⟨gb196, 1, none⟩ = some (.slice A1_1 l1_1.length c1_1) := (blk_cell BK196.out 1).trans rfl; have hczq2_2 : wq2.cell? ⟨gb196, 2, none⟩ = some (.slice A1_2 l1_2.length c1_2) := (blk_cell BK196.out 2).trans rfl; have hfzq2_0 := blk_frozen BK196.out 0; have hfzq2_1 := blk_frozen BK196.out 1; have hfzq2_2 := blk_frozen BK196.out 2) | (go_at_call 39; (with_reducible refine (pedigreelaw01_SameFacts.calls k _ _ l0_1 _ _ l1_1 true _ ?side1 ?side2 ?side3 ?side4 A4.out).mono ?_); (case side1 => exact upC (Kd.C_below HR0_1.out HB.out)); (case side2 => exact HC0_1.out); (case side3 => exact upC (Kd.C_below HR1_1.out HB.out)); (case side4 => exact HC1_1.out); rintro e wq3 ⟨rfl, hb⟩; have n0_ := Aside0.mk (blk_below (g := gb195) (o := .cells #[.int .i64 a0_0, .slice A0_1 l0_1.length c0_1, .slice A0_2 l0_2.length c0_2] 24 (0, 0)) (upO BK195.out) hb); have n1_ := Aside0.mk (blk_below (g := gb196) (o := .cells #[.int .i64 a1_0, .slice A1_1 l1_1.length c1_1, .slice A1_2 l1_2.length c1_2] 24 (0, 0)) (upO BK196.out) hb); have n2_ := Aside0.mk (below_step (upB HB.out) hb); clear BK195; clear BK196; clear HB; have BK195 := n0_; have BK196 := n1_; have HB := n2_; clear n0_ n1_ n2_; (try clear hb); (try clear hb2); (try clear hk); (try clear hi); have hczq3_0 : wq3.cell? ⟨gb195, 0, none⟩ = some (.int .i64 a0_0) := (blk_cell BK195.out 0).trans rfl; have hczq3_1 : wq3.cell? ⟨gb195, 1, none⟩ = some (.slice A0_1 l0_1.length c0_1) := (blk_cell BK195.out 1).trans rfl; have hczq3_2 : wq3.cell? ⟨gb195, 2, none⟩ = some (.slice A0_2 l0_2.length c0_2) := (blk_cell BK195.out 2).trans rfl; have hfzq3_0 := blk_frozen BK195.out 0; have hfzq3_1 := blk_frozen BK195.out 1; have hfzq3_2 := blk_frozen BK195.out 2; have hczq4_0 : wq3.cell? ⟨gb196, 0, none⟩ = some (.int .i64 a1_0) := (blk_cell BK196.out 0).trans rfl; have hczq4_1 : wq3.cell? ⟨gb196, 1, none⟩ = some (.slice A1_1 l1_1.length c1_1) := (blk_cell BK196.out 1).trans rfl; have hczq4_2 : wq3.cell? ⟨gb196, 2, none⟩ = some (.slice A1_2 l1_2.length c1_2) := (blk_cell BK196.out 2).trans rfl; have hfzq4_0 := blk_frozen BK196.out 0; have hfzq4_1 := blk_frozen BK196.out 1; have hfzq4_2 := blk_frozen BK196.out 2) | (go_at_call 39; (with_reducible refine (pedigreelaw01_SameFacts.calls k _ _ l0_2 _ _ l1_2 t198 _ ?side1 ?side2 ?side3 ?side4 A6.out).mono ?_); (case side1 => exact upC (Kd.C_below HR0_2.out HB.out)); (case side2 => exact HC0_2.out); (case side3 => exact upC (Kd.C_below HR1_2.out HB.out)); (case side4 => exact HC1_2.out); rintro e wq4 ⟨rfl, hb⟩; have n0_ := Aside0.mk (blk_below (g := gb195) (o := .cells #[.int .i64 a0_0, .slice A0_1 l0_1.length c0_1, .slice A0_2 l0_2.length c0_2] 24 (0, 0)) (upO BK195.out) hb); have n1_ := Aside0.mk (blk_below (g := gb196) (o := .cells #[.int .i64 a1_0, .slice A1_1 l1_1.length c1_1, .slice A1_2 l1_2.length c1_2] 24 (0, 0)) (upO BK196.out) hb); have n2_ := Aside0.mk (below_step (upB HB.out) hb); clear BK195; clear BK196; clear HB; have BK195 := n0_; have BK196 := n1_; have HB := n2_; clear n0_ n1_ n2_; (try clear hb); (try clear hb2); (try clear hk); (try clear hi)) | (go_at_call 39; (with_reducible refine (pedigreelaw01_SameFacts.calls k _ _ l0_1 _ _ l1_1 false _ ?side1 ?side2 ?side3 ?side4 A4.out).mono ?_); (case side1 => exact upC (Kd.C_below HR0_1.out HB.out)); (case side2 => exact HC0_1.out); (case side3 => exact upC (Kd.C_below HR1_1.out HB.out)); (case side4 => exact HC1_1.out); rintro e wq3 ⟨rfl, hb⟩; have n0_ := Aside0.mk (blk_below (g := gb195) (o := .cells #[.int .i64 a0_0, .slice A0_1 l0_1.length c0_1, .slice A0_2 l0_2.length c0_2] 24 (0, 0)) (upO BK195.out) hb); have n1_ := Aside0.mk (blk_below (g := gb196) (o := .cells #[.int .i64 a1_0, .slice A1_1 l1_1.length c1_1, .slice A1_2 l1_2.length c1_2] 24 (0, 0)) (upO BK196.out) hb); have n2_ := Aside0.mk (below_step (upB HB.out) hb); clear BK195; clear BK196; clear HB; have BK195 := n0_; have BK196 := n1_; have HB := n2_; clear n0_ n1_ n2_; (try clear hb); (try clear hb2); (try clear hk); (try clear hi))); first | (go_ret; exact ⟨eqE, upB HB.out⟩))
end Go.Proofs.J.Print
end
section
namespace Go.Proofs.J
open Go.RowKit Go.Proofs.PrintWords Go.Proofs.PrintLast Go.Proofs.PrintMore
section
variable {P : Program} {ops : Array Oper} {Q : Exit → Act → World → Prop}
theorem goesB_ {rest : List Oper} {oi : Oper} {a : Act} {w : World} (N : Option Tmp) (hd : oi.dst = N) (hg : oi.guard = none) {f : FuncId} {fn : Func} {xs : Array Operand} {ts : Array TypeId} (hf : P.funcs[f]? = some fn) (hname : (fn.name == "runtime.NumGoroutine") = false) (hb : fn.body.isSome = true) (args : Array Value)
    (hop : oi.op = .call { callee := .value (.func f), args := xs, argTypes := ts }) (hargs : xs.map a.eval = args)
    (h : Calls P f args w fun e w' => ∃ ch, e = .panicked ch ∧ Q (.panic ch) a w') : wpList P ops Q (oi :: rest) a w := by
  refine wpList_plain hg fun K hK => ?_
  have he := enters_ hf hname hb args w
  have hrun : (execOp a.eval oi).run P w = .ok (.enter f args) w := by
    unfold execOp
    simp [hop, resolve, Deferred.ofValue, invoke, Act.eval, hargs, he]
  unfold Oper.wp
  rw [hrun, Oper.upon_enter]
  refine h.mono fun e w'' hh => ?_
  obtain ⟨ch, rfl, hk⟩ := hh
  exact hk
theorem goesR_ {oi : Oper} {N : Option Tmp} {a : Act} {w : World} {K : Act → World → Prop} {f : FuncId} {fn : Func} {xs : Array Operand} {ts : Array TypeId} (hf : P.funcs[f]? = some fn) (hname : (fn.name == "runtime.NumGoroutine") = false) (hb : fn.body.isSome = true) (args : Array Value)
    (hw : Region.wanted oi (yielded ops a.tmps) = true) (_hN : oi.dst = N) (hop : oi.op = .call { callee := .value (.func f), args := xs, argTypes := ts }) (hargs : xs.map a.eval = args)
    (h : Calls P f args w fun e w' => ∃ ch, e = .panicked ch ∧ Q (.panic ch) a w') : if Region.wanted oi (yielded ops a.tmps) = true then Oper.wp P oi a w K Q else K (a.put N undef) w := by
  rw [if_pos hw]
  have he := enters_ hf hname hb args w
  have hrun : (execOp a.eval oi).run P w = .ok (.enter f args) w := by
    unfold execOp
    simp [hop, resolve, Deferred.ofValue, invoke, Act.eval, hargs, he]
  unfold Oper.wp
  rw [hrun, Oper.upon_enter]
  refine h.mono fun e w'' hh => ?_
  obtain ⟨ch, rfl, hk⟩ := hh
  exact hk
theorem goesP {rest : List Oper} {oi : Oper} {a : Act} {w : World} (N : Option Tmp) {f : FuncId} {fn : Func} {xs : Array Operand} {ts : Array TypeId} (hf : P.funcs[f]? = some fn) (args : Array Value)
    (h : Calls P f args w fun e w' => ∃ ch, e = .panicked ch ∧ Q (.panic ch) a w')
    (hd : oi.dst = N := by rfl) (hg : oi.guard = none := by rfl) (hname : (fn.name == "runtime.NumGoroutine") = false := by kernel_rfl) (hb : fn.body.isSome = true := by rfl)
    (hop : oi.op = .call { callee := .value (.func f), args := xs, argTypes := ts } := by rfl)
    (hargs : xs.map a.eval = args := by (try simp only [List.map_toArray, List.map_cons, List.map_nil]); first | done | rfl | (simp only [List.length_drop, List.length_take]; rfl)) : wpList P ops Q (oi :: rest) a w :=
  goesB_ N hd hg hf hname hb args hop hargs h
def logChain : List PanicEntry := [{ v := .iface 128 (.agg #[.int .i64 290]), recovered := false }]
end
end Go.Proofs.J
end
section
namespace Go.Proofs.J.Print
open Go.RowKit Go.Proofs.PrintWords Go.Proofs.PrintLast Go.Proofs.PrintMore
def IsS103 (w0 W : World) (g : Nat) (f0 : ByteArray) : Prop := W.heap[g]? = some (.cells #[.string f0] 103 (0, 0)) ∧ w0.heap.size ≤ g
theorem IsS103.grown {w0 W : World} {g : Nat} {f0 : ByteArray} {W1 : World} {row : Option Nat} (h : IsS103 w0 W g f0) (hw : W.grownBy W1 row) (hne : some g ≠ row) : IsS103 w0 W1 g f0 := by
 obtain ⟨hb, hg⟩ := h
 exact ⟨blk_grown hb hw hne, hg⟩
theorem IsS103.below {w0 W : World} {g : Nat} {f0 : ByteArray} {W1 : World} (h : IsS103 w0 W g f0) (hw : Below W.heap.size W W1) : IsS103 w0 W1 g f0 := h.grown (grown_of_below hw none) (by simp)
theorem IsS103.drewN {w0 W : World} {g : Nat} {f0 : ByteArray} (h : IsS103 w0 W g f0) (m : Nat) : IsS103 w0 (W.drewN m) g f0 := h
theorem IsS103.drew {w0 W : World} {g : Nat} {f0 : ByteArray} (h : IsS103 w0 W g f0) : IsS103 w0 W.drew g f0 := h
theorem IsS103.apart {w0 W : World} {g : Nat} {f0 : ByteArray} {α : Type} {d : Kd α} {e : Nat} {base : Nat} {ok : Nat → Prop} {v : Value} {xs : List α} (h : IsS103 w0 W g f0) (ho : d.R e W base ok v xs) (ht : ∀ q, q ∈ e :: d.E → q ≠ 103) : d.R e W base (fun k => ok k ∧ k ≠ g) v xs := by
 obtain ⟨hb, hg⟩ := h
 exact Kd.R_types ho hb ht
theorem IsS103.own_ne {w0 W : World} {g : Nat} {f0 : ByteArray} {α : Type} {d : Kd α} {e : Nat} {base : Nat} {ok : Nat → Prop} {v : Value} {xs : List α} (h : IsS103 w0 W g f0) (ho : d.R e W base ok v xs) (ht : e ≠ 103) : some g ≠ v.ownBlock := by
 obtain ⟨hb, hg⟩ := h
 exact Kd.R_ne ho hb ht
theorem IsS103.apartS {w0 W : World} {g : Nat} {f0 : ByteArray} {α : Type} {d : Kd α} {e : Nat} {base : Nat} {ok : Nat → Prop} {v : Value} {xs : List α} (h : IsS103 w0 W g f0) (ho : d.S e W base ok v xs) (ht : ∀ q, q ∈ e :: d.E → q ≠ 103) : d.S e W base (fun k => ok k ∧ k ≠ g) v xs := by
 obtain ⟨hb, hg⟩ := h
 exact Kd.S_types ho hb ht
theorem IsS103.own_neS {w0 W : World} {g : Nat} {f0 : ByteArray} {α : Type} {d : Kd α} {e : Nat} {base : Nat} {ok : Nat → Prop} {v : Value} {xs : List α} (h : IsS103 w0 W g f0) (ho : d.S e W base ok v xs) (ht : e ≠ 103) : some g ≠ v.ownBlock := by
 obtain ⟨hb, hg⟩ := h
 exact Kd.S_ne ho hb ht
theorem IsS103.lt {w0 W : World} {g : Nat} {f0 : ByteArray} (h : IsS103 w0 W g f0) : g < W.heap.size := by
 obtain ⟨hb, hg⟩ := h
 exact blk_lt hb
theorem IsS103.ge {w0 W : World} {g : Nat} {f0 : ByteArray} (h : IsS103 w0 W g f0) : w0.heap.size ≤ g := by
 obtain ⟨hb, hg⟩ := h
 exact hg
theorem IsS103.far {w0 W : World} {g : Nat} {f0 : ByteArray} {p : Addr} (h : IsS103 w0 W g f0) (hne : g ≠ p.block) (u : Value) : IsS103 w0 (W.setCell p u) g f0 := by
 obtain ⟨hb, hg⟩ := h
 exact ⟨blk_far hb hne u, hg⟩
theorem cellS103_0 {W : World} {g : Nat} {f0 : ByteArray} (h : W.heap[g]? = some (.cells #[.string f0] 103 (0, 0))) : W.cell? ⟨g, 0, none⟩ = some (.string f0) := (blk_cell h 0).trans rfl
theorem IsS103.set_0 {w0 W : World} {g : Nat} {f0 : ByteArray} (h : IsS103 w0 W g f0) (x : ByteArray) : IsS103 w0 (W.setCell ⟨g, 0, none⟩ (.string x)) g x := by
 obtain ⟨hb, hg⟩ := h
 exact ⟨by simpa using blk_set hb 0 (.string x), hg⟩
theorem upI {w0 w w1 : World} {g : Nat} {s s1 : ByteArray} (h : IsS103 w0 w g s) (hx : IsS103 w0 w g s → IsS103 w0 w1 g s1 := by (intro h_; repeat (first | (with_reducible first | exact h_ | apply IsS103.alloc | apply IsS103.drewN | apply IsS103.drew | apply IsS103.set_0 | refine IsS103.far ?_ (Aside0.out ‹_›) _) | exact h_))) : IsS103 w0 w1 g s1 := hx h
def journal_reader_take.f (s0_0 : ByteArray) (a1 : Int) : Option (ByteArray × ByteArray) := if a1 > (s0_0.size : Int) then (none) else (if 0 ≤ a1 then (if a1 ≤ (s0_0.size : Int) then (some (s0_0.extract 0 (a1 : Int).toNat, s0_0.extract (a1 : Int).toNat s0_0.size)) else (none)) else (none))
set_option maxHeartbeats 8000000 in
set_option maxRecDepth 100000 in
theorem journal_reader_take.calls (g : Nat) (s0_0 : ByteArray) (a1 : Int) (r1 : ByteArray) (r2 : ByteArray) (w0 w : World) (hI : IsS103 w0 w g s0_0) (hB : Below w0.heap.size w0 w) (h : journal_reader_take.f s0_0 a1 = some (r1, r2)) :
  Calls Tryz.prog 93 #[.pointer (some ⟨g, 0, none⟩), .int .i64 a1] w fun e w' => e = .returned (.string r1) ∧ IsS103 w0 w' g r2 ∧ Below w0.heap.size w0 w' ∧ KeepBut w w' g none := by
 have hu128 := Tryz.underlying128
 have HI0 := Aside0.mk hI
 have HK := Aside0.mk (KeepBut.refl w g none)
 have HL := Aside0.mk hB.size
 clear hI
 have HW0 := Aside0.mk hB.size
 have HB := Aside0.mk hB
 clear hB
 have H : (if a1 > (s0_0.size : Int) then (none) else (if 0 ≤ a1 then (if a1 ≤ (s0_0.size : Int) then (some (s0_0.extract 0 (a1 : Int).toNat, s0_0.extract (a1 : Int).toNat s0_0.size)) else (none)) else (none))) = some (r1, r2) := h
 clear h
 by_cases c3 : a1 > (s0_0.size : Int)
 ·rw [if_pos c3] at H
  exact absurd H (by simp)
 ·rw [if_neg c3] at H
  have c3b0 := decide_eq_false c3
  clear c3
  by_cases c4 : 0 ≤ a1
  ·rw [if_pos c4] at H
   have c4b0 := eq_true c4
   have c4b1 := decide_eq_true c4
   clear c4
   by_cases c5 : a1 ≤ (s0_0.size : Int)
   ·rw [if_pos c5] at H
    have c5b0 := eq_true c5
    have c5b1 := decide_eq_true c5
    clear c5
    have c6b0 := eq_true (of_decide_eq_true byA : 0 ≤ a1)
    have c7b0 := eq_true (of_decide_eq_true byA : a1 ≤ (s0_0.size : Int))
    simp only [Option.some.injEq, Prod.mk.injEq] at H
    obtain ⟨rfl, rfl⟩ := H
    obtain ⟨HGz8, hgz8⟩ := HI0.out
    have hcz8_0 := cellS103_0 HGz8
    have hfz8_0 := blk_frozen HGz8 0
    clear HGz8 hgz8
    go_enter Tryz.func93, Tryz.ntmps93
    go_wp2
    go_ret
    exact ⟨eqE, upI HI0.out, upB HB.out, upK HK.out⟩
   ·rw [if_neg c5] at H
    exact absurd H (by simp)
  ·rw [if_neg c4] at H
   exact absurd H (by simp)
end Go.Proofs.J.Print
end
section
namespace Go.Proofs.J.Print
open Go.RowKit Go.Proofs.PrintWords Go.Proofs.PrintLast Go.Proofs.PrintMore
def journal_get_uint32.l0 : Nat → ByteArray → Int → Int → Int → Option (Int)
 | 0, _, _, _, _ => none
 | k + 1, x0, x5, x7, x8 => if x8 < x7 then (if 0 ≤ x8 then (if x8 < (x0.size : Int) then (if 0 ≤ (wrap64 (8 * x8)) then (journal_get_uint32.l0 k x0 (Go.bits .or .u64 x5 (shl .u64 (IntKind.u64.wrap (bt x0 x8)) (wrap64 (8 * x8)))) x7 (wrap64 (x8 + 1))) else (none)) else (none)) else (none)) else (some ((x5) % 4294967296))
def journal_get_uint32.f (k : Nat) (a0 : ByteArray) (a1 : Int) : Option (Int) := journal_get_uint32.l0 k a0 0 a1 0
set_option maxHeartbeats 8000000 in
set_option maxRecDepth 100000 in
theorem journal_get_uint32.calls (k : Nat) (a0 : ByteArray) (a1 : Int) (r : Int) (w : World) (h : journal_get_uint32.f k a0 a1 = some r) :
  Calls Tryz.prog 214 #[.string a0, .int .i64 a1] w fun e w' => e = .returned (.int .u32 r) ∧ Drawn0 w w' := by
 have H : (journal_get_uint32.l0 k a0 0 a1 0) = some r := h
 clear h
 have H' := Aside0.mk H
 clear H
 go_enter Tryz.func214, Tryz.ntmps214
 go_wp2
 go_loopg [5, 8] k (fun kq v5 v8 w' => ∃ (x5_1 : Int) (x8_1 : Int), v5 = .int .u64 x5_1 ∧ v8 = .int .i64 x8_1 ∧ Aside0 (journal_get_uint32.l0 kq a0 x5_1 a1 x8_1 = some r) ∧ Aside0 (kq ≤ k) ∧ Drawn0 w w')
 case atStart => exact ⟨(0), (0), eqS, eqS, H', ⟨Nat.le_refl _⟩, by repeat (first | exact Drawn0.refl _ | apply Drawn0.step)⟩
 case round =>
  clear H'
  try clear c2
  try clear p2
  obtain ⟨x5_1, x8_1, rfl, rfl, HA, HK1, ⟨m1, rfl⟩⟩ := hrel
  cases gk with
  | zero => exact absurd HA.out (by simp [journal_get_uint32.l0])
  | succ k1 =>
   have H := HA.out
   clear HA
   simp only [journal_get_uint32.l0] at H
   by_cases c3 : x8_1 < a1
   ·rw [if_pos c3] at H
    have c3b0 := decide_eq_true c3
    clear c3
    by_cases c4 : 0 ≤ x8_1
    ·rw [if_pos c4] at H
     have c4b0 := decide_eq_true c4
     clear c4
     by_cases c5 : x8_1 < (a0.size : Int)
     ·rw [if_pos c5] at H
      have c5b0 := decide_eq_true c5
      clear c5
      obtain ⟨ji7, hji7⟩ : ∃ j_ : Int, (wrap64 (8 * x8_1)) = j_ := ⟨_, rfl⟩
      replace H : (if 0 ≤ (ji7) then (journal_get_uint32.l0 k1 a0 (Go.bits .or .u64 x5_1 (shl .u64 (IntKind.u64.wrap (bt a0 x8_1)) (ji7))) a1 (wrap64 (x8_1 + 1))) else (none)) = some r := by first | (rw [hji7] at H; exact H) | (simp only [hji7] at H ⊢; exact H)
      have hji7w : (IntKind.i64.wrap (8 * x8_1)) = ji7 := (i64_w _).trans hji7
      by_cases c8 : 0 ≤ (ji7)
      ·rw [if_pos c8] at H
       have c8b0 := eq_true c8
       have c8b1 := decide_eq_true c8
       clear c8
       obtain ⟨ji9, hji9⟩ : ∃ j_ : Int, (shl .u64 (IntKind.u64.wrap (bt a0 x8_1)) (ji7)) = j_ := ⟨_, rfl⟩
       replace H : (journal_get_uint32.l0 k1 a0 (Go.bits .or .u64 x5_1 (ji9)) a1 (wrap64 (x8_1 + 1))) = some r := by first | (rw [hji9] at H; exact H) | (simp only [hji9] at H ⊢; exact H)
       have hji9_ : (IntKind.u64.wrap ((IntKind.u64.wrap (bt a0 x8_1)) * 2 ^ min (ji7).toNat 64)) = ji9 := hji9
       have hji9z : (ji7) ≤ 64 → (IntKind.u64.wrap ((IntKind.u64.wrap (bt a0 x8_1)) * 2 ^ (ji7).toNat)) = ji9 := shl_small hji9
       have H' := Aside0.mk H
       clear H
       have p6 : 0 ≤ (x8_1 : Int) := of_decide_eq_true byA
       have q6 : x8_1 < (a0.size : Int) := of_decide_eq_true byA
       have hx6 := bt_at a0 x8_1
       replace p6 := eq_true p6
       replace q6 := eq_true q6
       go_wp2
       go_roundg k1
       case measure => have := HK1.out; omega
       case rel => exact ⟨(Go.bits .or .u64 x5_1 (ji9)), (wrap64 (x8_1 + 1)), (by first | rfl | (simp; done) | (simp only [← hji9] <;> (first | rfl | simp)) | (simp [*]; done)), eqS, H', ⟨by have := HK1.out; omega⟩, by repeat (first | exact Drawn0.refl _ | apply Drawn0.step)⟩
      ·rw [if_neg c8] at H
       exact absurd H (by simp)
     ·rw [if_neg c5] at H
      exact absurd H (by simp)
    ·rw [if_neg c4] at H
     exact absurd H (by simp)
   ·rw [if_neg c3] at H
    have c3b0 := decide_eq_false c3
    clear c3
    obtain rfl := Option.some.inj H
    go_wp2
    go_ret
    exact ⟨eqS, by repeat (first | exact Drawn0.refl _ | apply Drawn0.step)⟩
end Go.Proofs.J.Print
end
section
namespace Go.Proofs.J.Print
open Go.RowKit Go.Proofs.PrintWords Go.Proofs.PrintLast Go.Proofs.PrintMore
def journal_get_uint16.l0 : Nat → ByteArray → Int → Int → Int → Option (Int)
 | 0, _, _, _, _ => none
 | k + 1, x0, x5, x7, x8 => if x8 < x7 then (if 0 ≤ x8 then (if x8 < (x0.size : Int) then (if 0 ≤ (wrap64 (8 * x8)) then (journal_get_uint16.l0 k x0 (Go.bits .or .u64 x5 (shl .u64 (IntKind.u64.wrap (bt x0 x8)) (wrap64 (8 * x8)))) x7 (wrap64 (x8 + 1))) else (none)) else (none)) else (none)) else (some (IntKind.u16.wrap (x5)))
def journal_get_uint16.f (k : Nat) (a0 : ByteArray) (a1 : Int) : Option (Int) := journal_get_uint16.l0 k a0 0 a1 0
set_option maxHeartbeats 8000000 in
set_option maxRecDepth 100000 in
theorem journal_get_uint16.calls (k : Nat) (a0 : ByteArray) (a1 : Int) (r : Int) (w : World) (h : journal_get_uint16.f k a0 a1 = some r) :
  Calls Tryz.prog 215 #[.string a0, .int .i64 a1] w fun e w' => e = .returned (.int .u16 r) ∧ Drawn0 w w' := by
 have H : (journal_get_uint16.l0 k a0 0 a1 0) = some r := h
 clear h
 have H' := Aside0.mk H
 clear H
 go_enter Tryz.func215, Tryz.ntmps215
 go_wp2
 go_loopg [5, 8] k (fun kq v5 v8 w' => ∃ (x5_1 : Int) (x8_1 : Int), v5 = .int .u64 x5_1 ∧ v8 = .int .i64 x8_1 ∧ Aside0 (journal_get_uint16.l0 kq a0 x5_1 a1 x8_1 = some r) ∧ Aside0 (kq ≤ k) ∧ Drawn0 w w')
 case atStart => exact ⟨(0), (0), eqS, eqS, H', ⟨Nat.le_refl _⟩, by repeat (first | exact Drawn0.refl _ | apply Drawn0.step)⟩
 case round =>
  clear H'
  try clear c2
  try clear p2
  obtain ⟨x5_1, x8_1, rfl, rfl, HA, HK1, ⟨m1, rfl⟩⟩ := hrel
  cases gk with
  | zero => exact absurd HA.out (by simp [journal_get_uint16.l0])
  | succ k1 =>
   have H := HA.out
   clear HA
   simp only [journal_get_uint16.l0] at H
   by_cases c3 : x8_1 < a1
   ·rw [if_pos c3] at H
    have c3b0 := decide_eq_true c3
    clear c3
    by_cases c4 : 0 ≤ x8_1
    ·rw [if_pos c4] at H
     have c4b0 := decide_eq_true c4
     clear c4
     by_cases c5 : x8_1 < (a0.size : Int)
     ·rw [if_pos c5] at H
      have c5b0 := decide_eq_true c5
      clear c5
      obtain ⟨ji7, hji7⟩ : ∃ j_ : Int, (wrap64 (8 * x8_1)) = j_ := ⟨_, rfl⟩
      replace H : (if 0 ≤ (ji7) then (journal_get_uint16.l0 k1 a0 (Go.bits .or .u64 x5_1 (shl .u64 (IntKind.u64.wrap (bt a0 x8_1)) (ji7))) a1 (wrap64 (x8_1 + 1))) else (none)) = some r := by first | (rw [hji7] at H; exact H) | (simp only [hji7] at H ⊢; exact H)
      have hji7w : (IntKind.i64.wrap (8 * x8_1)) = ji7 := (i64_w _).trans hji7
      by_cases c8 : 0 ≤ (ji7)
      ·rw [if_pos c8] at H
       have c8b0 := eq_true c8
       have c8b1 := decide_eq_true c8
       clear c8
       obtain ⟨ji9, hji9⟩ : ∃ j_ : Int, (shl .u64 (IntKind.u64.wrap (bt a0 x8_1)) (ji7)) = j_ := ⟨_, rfl⟩
       replace H : (journal_get_uint16.l0 k1 a0 (Go.bits .or .u64 x5_1 (ji9)) a1 (wrap64 (x8_1 + 1))) = some r := by first | (rw [hji9] at H; exact H) | (simp only [hji9] at H ⊢; exact H)
       have hji9_ : (IntKind.u64.wrap ((IntKind.u64.wrap (bt a0 x8_1)) * 2 ^ min (ji7).toNat 64)) = ji9 := hji9
       have hji9z : (ji7) ≤ 64 → (IntKind.u64.wrap ((IntKind.u64.wrap (bt a0 x8_1)) * 2 ^ (ji7).toNat)) = ji9 := shl_small hji9
       have H' := Aside0.mk H
       clear H
       have p6 : 0 ≤ (x8_1 : Int) := of_decide_eq_true byA
       have q6 : x8_1 < (a0.size : Int) := of_decide_eq_true byA
       have hx6 := bt_at a0 x8_1
       replace p6 := eq_true p6
       replace q6 := eq_true q6
       go_wp2
       go_roundg k1
       case measure => have := HK1.out; omega
       case rel => exact ⟨(Go.bits .or .u64 x5_1 (ji9)), (wrap64 (x8_1 + 1)), (by first | rfl | (simp; done) | (simp only [← hji9] <;> (first | rfl | simp)) | (simp [*]; done)), eqS, H', ⟨by have := HK1.out; omega⟩, by repeat (first | exact Drawn0.refl _ | apply Drawn0.step)⟩
      ·rw [if_neg c8] at H
       exact absurd H (by simp)
     ·rw [if_neg c5] at H
      exact absurd H (by simp)
    ·rw [if_neg c4] at H
     exact absurd H (by simp)
   ·rw [if_neg c3] at H
    have c3b0 := decide_eq_false c3
    clear c3
    obtain rfl := Option.some.inj H
    go_wp2
    go_ret
    exact ⟨eqS, by repeat (first | exact Drawn0.refl _ | apply Drawn0.step)⟩
end Go.Proofs.J.Print
end
section
namespace Go.Proofs.J.Print
open Go.RowKit Go.Proofs.PrintWords Go.Proofs.PrintLast Go.Proofs.PrintMore
set_option maxHeartbeats 8000000 in
set_option maxRecDepth 100000 in
theorem take_panics (g : Nat) (s0_0 : ByteArray) (a1 : Int) (w0 w : World) (hI : IsS103 w0 w g s0_0) (h : (s0_0.size : Int) < a1) :
  Calls Tryz.prog 93 #[.pointer (some ⟨g, 0, none⟩), .int .i64 a1] w fun e w' => e = .panicked logChain ∧ w' = w := by
 have hu128 := Tryz.underlying128
 obtain ⟨HGz8, hgz8⟩ := hI
 have hcz8_0 := cellS103_0 HGz8
 have hfz8_0 := blk_frozen HGz8 0
 have c3b0 := decide_eq_true h
 clear HGz8 hgz8
 go_enter Tryz.func93, Tryz.ntmps93
 go_wp2
 exact ⟨rfl, rfl, rfl⟩
def bindP {α β : Type} (x : Option α) (f : α → Option (Option β)) : Option (Option β) := match x with | none => some none | some a => f a
theorem bindP_none {α β : Type} (f : α → Option (Option β)) : bindP none f = some none := rfl
theorem bindP_some {α β : Type} (a : α) (f : α → Option (Option β)) : bindP (some a) f = f a := rfl
theorem bindP_mono {α β : Type} {x : Option α} {f g : α → Option (Option β)} (h : ∀ a, LeO (f a) (g a)) : LeO (bindP x f) (bindP x g) := by
 cases x with
 | none => exact LeO.refl _
 | some a => exact h a
def tk (s : ByteArray) (n : Nat) : Option (ByteArray × ByteArray) := if n ≤ s.size then some (s.extract 0 n, s.extract n s.size) else none
theorem tk_some {s : ByteArray} {n : Nat} {t s' : ByteArray} (h : tk s n = some (t, s')) (m : Int) (hm : m = (n : Int)) : journal_reader_take.f s m = some (t, s') := by
 subst hm
 unfold tk at h
 split at h
 ·rename_i hn
  unfold journal_reader_take.f
  rw [if_neg (by omega), if_pos (by omega), if_pos (by omega)]
  simpa using h
 ·cases h
theorem tk_none {s : ByteArray} {n : Nat} (h : tk s n = none) (m : Int) (hm : m = (n : Int)) : (s.size : Int) < m := by
 subst hm
 unfold tk at h
 split at h
 ·cases h
 ·omega
def Ends {α : Type} (val : α → Value) (w0 w : World) (g : Nat) (r : Option (α × ByteArray)) (e : Ending) (w' : World) : Prop :=
 (match r with | some (v, s') => e = .returned (val v) ∧ IsS103 w0 w' g s' | none => e = .panicked logChain ∧ ∃ s', IsS103 w0 w' g s') ∧ Below w0.heap.size w0 w' ∧ KeepBut w w' g none
def body.f (k : Nat) (s : ByteArray) : Option (Option (ByteArray × ByteArray)) :=
 bindP (tk s 4) fun p1 => (journal_get_uint32.f k p1.1 4).bind fun n => bindP (tk p1.2 4) fun p2 => (journal_get_uint32.f k p2.1 4).bind fun c =>
  if c = Go.bits .xor .u32 4294967295 n then (if n > 16777216 then some none else (if n < 0 then none else bindP (tk p2.2 n.toNat) fun p3 => bindP (tk p3.2 2) fun p4 => (journal_get_uint16.f k p4.1 2).bind fun m => (journal_Sum.f k p3.1).bind fun m' => if m = m' then some (some (p3.1, p4.2)) else some none)) else some none
set_option maxHeartbeats 8000000 in
set_option maxRecDepth 100000 in
theorem body.calls (k : Nat) (g : Nat) (s : ByteArray) (r : Option (ByteArray × ByteArray)) (w0 w : World) (hI : IsS103 w0 w g s) (hB : Below w0.heap.size w0 w) (h : body.f k s = some r) :
  Calls Tryz.prog 96 #[.pointer (some ⟨g, 0, none⟩)] w (Ends Value.string w0 w g r) := by
 have hu128 := Tryz.underlying128
 have HI0 := Aside0.mk hI
 have HK := Aside0.mk (KeepBut.refl w g none)
 clear hI
 have hsg : IntKind.u32.signed = false := rfl
 have HB := Aside0.mk hB
 clear hB
 unfold body.f at h
 unfold Ends
 rcases At1 : tk s 4 with _ | pt1
 focus
  simp only [At1, bindP, Option.some.injEq] at h
  subst h
  have A1 := Aside0.mk (tk_none At1 4 (by simp))
  clear At1
 rotate_right
 focus
  obtain ⟨t1, s1⟩ := pt1
  simp only [At1, bindP] at h
  have A1 := Aside0.mk (tk_some At1 4 (by simp))
  clear At1
  replace h := Option.bind_eq_some_iff.mp h
  obtain ⟨n, A20, h⟩ := h
  have A2 := Aside0.mk A20
  clear A20
  rcases At2 : tk s1 4 with _ | pt2
  focus
   simp only [At2, bindP, Option.some.injEq] at h
   subst h
   have A3 := Aside0.mk (tk_none At2 4 (by simp))
   clear At2
  rotate_right
  focus
   obtain ⟨t2, s2⟩ := pt2
   simp only [At2, bindP] at h
   have A3 := Aside0.mk (tk_some At2 4 (by simp))
   clear At2
   replace h := Option.bind_eq_some_iff.mp h
   obtain ⟨c, A40, h⟩ := h
   have A4 := Aside0.mk A40
   clear A40
   by_cases c8 : c = Go.bits .xor .u32 4294967295 n
   case' neg =>
    rw [if_neg c8] at h
    have c8b1 : (c != Go.bits .xor .u32 IntKind.u32.max n) = true := bne_iff_ne.mpr c8
    replace c8 : (c = Go.bits .xor .u32 IntKind.u32.max n) = False := eq_false c8
    simp only [Option.some.injEq] at h
    subst h
   rotate_right
   focus
    rw [if_pos c8] at h
    have c8b1 : (c != Go.bits .xor .u32 IntKind.u32.max n) = false := bne_eq_false_iff_eq.mpr c8
    replace c8 : (c = Go.bits .xor .u32 IntKind.u32.max n) = True := eq_true c8
    by_cases c9 : n > 16777216
    case' pos =>
     rw [if_pos c9] at h
     have c9b1 := decide_eq_true c9
     have c9b2 : (n ≤ 16777216) = False := eq_false (by omega)
     simp only [Option.some.injEq] at h
     subst h
    rotate_right
    focus
     rw [if_neg c9] at h
     have c9b1 := decide_eq_false c9
     have c9b2 : (n ≤ 16777216) = True := eq_true (by omega)
     by_cases c10 : n < 0
     case pos =>
      rw [if_pos c10] at h
      cases h
     rw [if_neg c10] at h
     have hnn := Aside0.mk (show n = ((n.toNat : Nat) : Int) by omega)
     rcases At3 : tk s2 n.toNat with _ | pt3
     focus
      simp only [At3, bindP, Option.some.injEq] at h
      subst h
      have A5 := Aside0.mk (tk_none At3 n hnn.out)
      clear At3
     rotate_right
     focus
      obtain ⟨t3, s3⟩ := pt3
      simp only [At3, bindP] at h
      have A5 := Aside0.mk (tk_some At3 n hnn.out)
      clear At3
      rcases At4 : tk s3 2 with _ | pt4
      focus
       simp only [At4, bindP, Option.some.injEq] at h
       subst h
       have A6 := Aside0.mk (tk_none At4 2 (by simp))
       clear At4
      rotate_right
      focus
       obtain ⟨t4, s4⟩ := pt4
       simp only [At4, bindP] at h
       have A6 := Aside0.mk (tk_some At4 2 (by simp))
       clear At4
       replace h := Option.bind_eq_some_iff.mp h
       obtain ⟨m, A70, h⟩ := h
       have A7 := Aside0.mk A70
       clear A70
       replace h := Option.bind_eq_some_iff.mp h
       obtain ⟨m', A80, h⟩ := h
       have A8 := Aside0.mk A80
       clear A80
       by_cases c11 : m = m'
       case' neg =>
        rw [if_neg c11] at h
        have c11b1 : (m != m') = true := bne_iff_ne.mpr c11
        clear c11
        simp only [Option.some.injEq] at h
        subst h
       rotate_right
       focus
        rw [if_pos c11] at h
        have c11b1 : (m != m') = false := bne_eq_false_iff_eq.mpr c11
        clear c11
        simp only [Option.some.injEq] at h
        subst h
 all_goals (go_enter Tryz.func96, Tryz.ntmps96; go_wp2_with (first | ((with_reducible refine gate_callee (f := 93) rfl ?_); refine goesS (some 23) Tryz.func93 #[.pointer (some ⟨g, 0, none⟩), .int .i64 n] ?_; (with_reducible refine (journal_reader_take.calls g s2 n t3 s3 w0 _ ?side1 ?side2 A5.out).mono ?_); (case side1 => exact upI HI0.out); (case side2 => exact upB HB.out); rintro e w_t3 ⟨rfl, hi, hb, hk⟩; refine ⟨_, rfl, ?_⟩; have n0_ := Aside0.mk (KeepBut.trans (upK HK.out) hk (.inl rfl)); have n1_ := Aside0.mk (hb); have n2_ := Aside0.mk (hi); clear HK; clear HB; clear HI0; have HK := n0_; have HB := n1_; have HI0 := n2_; clear n0_ n1_ n2_; (try clear hb); (try clear hb2); (try clear hk); (try clear hi)) | ((with_reducible refine gate_callee (f := 93) rfl ?_); refine goesS (some 25) Tryz.func93 #[.pointer (some ⟨g, 0, none⟩), .int .i64 2] ?_; (with_reducible refine (journal_reader_take.calls g s3 2 t4 s4 w0 _ ?side1 ?side2 A6.out).mono ?_); (case side1 => exact upI HI0.out); (case side2 => exact upB HB.out); rintro e w_t4 ⟨rfl, hi, hb, hk⟩; refine ⟨_, rfl, ?_⟩; have n0_ := Aside0.mk (KeepBut.trans (upK HK.out) hk (.inl rfl)); have n1_ := Aside0.mk (hb); have n2_ := Aside0.mk (hi); clear HK; clear HB; clear HI0; have HK := n0_; have HB := n1_; have HI0 := n2_; clear n0_ n1_ n2_; (try clear hb); (try clear hb2); (try clear hk); (try clear hi)) | ((with_reducible refine gate_callee (f := 93) rfl ?_); refine goesS (some 9) Tryz.func93 #[.pointer (some ⟨g, 0, none⟩), .int .i64 4] ?_; (with_reducible refine (journal_reader_take.calls g s1 4 t2 s2 w0 _ ?side1 ?side2 A3.out).mono ?_); (case side1 => exact upI HI0.out); (case side2 => exact upB HB.out); rintro e w_t2 ⟨rfl, hi, hb, hk⟩; refine ⟨_, rfl, ?_⟩; have n0_ := Aside0.mk (KeepBut.trans (upK HK.out) hk (.inl rfl)); have n1_ := Aside0.mk (hb); have n2_ := Aside0.mk (hi); clear HK; clear HB; clear HI0; have HK := n0_; have HB := n1_; have HI0 := n2_; clear n0_ n1_ n2_; (try clear hb); (try clear hb2); (try clear hk); (try clear hi)) | ((with_reducible refine gate_callee (f := 93) rfl ?_); refine goesS (some 6) Tryz.func93 #[.pointer (some ⟨g, 0, none⟩), .int .i64 4] ?_; (with_reducible refine (journal_reader_take.calls g s 4 t1 s1 w0 _ ?side1 ?side2 A1.out).mono ?_); (case side1 => exact upI HI0.out); (case side2 => exact upB HB.out); rintro e w_t1 ⟨rfl, hi, hb, hk⟩; refine ⟨_, rfl, ?_⟩; have n0_ := Aside0.mk (KeepBut.trans (upK HK.out) hk (.inl rfl)); have n1_ := Aside0.mk (hb); have n2_ := Aside0.mk (hi); clear HK; clear HB; clear HI0; have HK := n0_; have HB := n1_; have HI0 := n2_; clear n0_ n1_ n2_; (try clear hb); (try clear hb2); (try clear hk); (try clear hi)) | ((with_reducible refine gate_callee (f := 93) rfl ?_); refine goesP (some 23) Tryz.func93 #[.pointer (some ⟨g, 0, none⟩), .int .i64 n] ?_; (with_reducible refine (take_panics g s2 n w0 _ ?side1 A5.out).mono ?_); (case side1 => exact upI HI0.out); rintro e w_ ⟨rfl, hw⟩; refine ⟨_, rfl, ?_⟩; subst hw) | ((with_reducible refine gate_callee (f := 93) rfl ?_); refine goesP (some 25) Tryz.func93 #[.pointer (some ⟨g, 0, none⟩), .int .i64 2] ?_; (with_reducible refine (take_panics g s3 2 w0 _ ?side1 A6.out).mono ?_); (case side1 => exact upI HI0.out); rintro e w_ ⟨rfl, hw⟩; refine ⟨_, rfl, ?_⟩; subst hw) | ((with_reducible refine gate_callee (f := 93) rfl ?_); refine goesP (some 9) Tryz.func93 #[.pointer (some ⟨g, 0, none⟩), .int .i64 4] ?_; (with_reducible refine (take_panics g s1 4 w0 _ ?side1 A3.out).mono ?_); (case side1 => exact upI HI0.out); rintro e w_ ⟨rfl, hw⟩; refine ⟨_, rfl, ?_⟩; subst hw) | ((with_reducible refine gate_callee (f := 93) rfl ?_); refine goesP (some 6) Tryz.func93 #[.pointer (some ⟨g, 0, none⟩), .int .i64 4] ?_; (with_reducible refine (take_panics g s 4 w0 _ ?side1 A1.out).mono ?_); (case side1 => exact upI HI0.out); rintro e w_ ⟨rfl, hw⟩; refine ⟨_, rfl, ?_⟩; subst hw) | ((with_reducible refine gate_callee (f := 214) rfl ?_); refine goesS (some 10) Tryz.func214 #[.string t2, .int .i64 4] ?_; (with_reducible refine (journal_get_uint32.calls k t2 4 c _ A4.out).mono ?_); rintro e w' ⟨rfl, ⟨nd_c, rfl⟩⟩; refine ⟨_, rfl, ?_⟩) | ((with_reducible refine gate_callee (f := 214) rfl ?_); refine goesS (some 7) Tryz.func214 #[.string t1, .int .i64 4] ?_; (with_reducible refine (journal_get_uint32.calls k t1 4 n _ A2.out).mono ?_); rintro e w' ⟨rfl, ⟨nd_n, rfl⟩⟩; refine ⟨_, rfl, ?_⟩) | ((with_reducible refine gate_callee (f := 215) rfl ?_); refine goesS (some 26) Tryz.func215 #[.string t4, .int .i64 2] ?_; (with_reducible refine (journal_get_uint16.calls k t4 2 m _ A7.out).mono ?_); rintro e w' ⟨rfl, ⟨nd_m, rfl⟩⟩; refine ⟨_, rfl, ?_⟩) | ((with_reducible refine gate_callee (f := 32) rfl ?_); refine goesS (some 28) Tryz.func32 #[.string t3] ?_; (with_reducible refine (journal_Sum.calls k t3 m' _ A8.out).mono ?_); rintro e w' ⟨rfl, ⟨nd_s, rfl⟩⟩; refine ⟨_, rfl, ?_⟩)); first | (exact ⟨rfl, ⟨rfl, _, (upI HI0.out)⟩, (upB HB.out), (upK HK.out)⟩) | (go_ret; exact ⟨⟨by first | rfl | simp, (upI HI0.out)⟩, (upB HB.out), (upK HK.out)⟩))
end Go.Proofs.J.Print
end
section
namespace Go.Proofs.J.Print
open Go.RowKit Go.Proofs.PrintWords Go.Proofs.PrintLast Go.Proofs.PrintMore
def journal_get_uint64.l0 : Nat → ByteArray → Int → Int → Int → Option (Int)
 | 0, _, _, _, _ => none
 | k + 1, x0, x5, x7, x8 => if x8 < x7 then (if 0 ≤ x8 then (if x8 < (x0.size : Int) then (if 0 ≤ (wrap64 (8 * x8)) then (journal_get_uint64.l0 k x0 (Go.bits .or .u64 x5 (shl .u64 (IntKind.u64.wrap (bt x0 x8)) (wrap64 (8 * x8)))) x7 (wrap64 (x8 + 1))) else (none)) else (none)) else (none)) else (some x5)
def journal_get_uint64.f (k : Nat) (a0 : ByteArray) (a1 : Int) : Option (Int) := journal_get_uint64.l0 k a0 0 a1 0
set_option maxHeartbeats 8000000 in
set_option maxRecDepth 100000 in
theorem journal_get_uint64.calls (k : Nat) (a0 : ByteArray) (a1 : Int) (r : Int) (w : World) (h : journal_get_uint64.f k a0 a1 = some r) :
  Calls Tryz.prog 97 #[.string a0, .int .i64 a1] w fun e w' => e = .returned (.int .u64 r) ∧ Drawn0 w w' := by
 have H : (journal_get_uint64.l0 k a0 0 a1 0) = some r := h
 clear h
 have H' := Aside0.mk H
 clear H
 go_enter Tryz.func97, Tryz.ntmps97
 go_wp2
 go_loopg [5, 8] k (fun kq v5 v8 w' => ∃ (x5_1 : Int) (x8_1 : Int), v5 = .int .u64 x5_1 ∧ v8 = .int .i64 x8_1 ∧ Aside0 (journal_get_uint64.l0 kq a0 x5_1 a1 x8_1 = some r) ∧ Aside0 (kq ≤ k) ∧ Drawn0 w w')
 case atStart => exact ⟨(0), (0), eqS, eqS, H', ⟨Nat.le_refl _⟩, by repeat (first | exact Drawn0.refl _ | apply Drawn0.step)⟩
 case round =>
  clear H'
  try clear p2
  obtain ⟨x5_1, x8_1, rfl, rfl, HA, HK1, ⟨m1, rfl⟩⟩ := hrel
  cases gk with
  | zero => exact absurd HA.out (by simp [journal_get_uint64.l0])
  | succ k1 =>
   have H := HA.out
   clear HA
   simp only [journal_get_uint64.l0] at H
   by_cases c3 : x8_1 < a1
   ·rw [if_pos c3] at H
    have c3b0 := decide_eq_true c3
    clear c3
    by_cases c4 : 0 ≤ x8_1
    ·rw [if_pos c4] at H
     have c4b0 := decide_eq_true c4
     clear c4
     by_cases c5 : x8_1 < (a0.size : Int)
     ·rw [if_pos c5] at H
      have c5b0 := decide_eq_true c5
      clear c5
      obtain ⟨ji7, hji7⟩ : ∃ j_ : Int, (wrap64 (8 * x8_1)) = j_ := ⟨_, rfl⟩
      replace H : (if 0 ≤ (ji7) then (journal_get_uint64.l0 k1 a0 (Go.bits .or .u64 x5_1 (shl .u64 (IntKind.u64.wrap (bt a0 x8_1)) (ji7))) a1 (wrap64 (x8_1 + 1))) else (none)) = some r := by first | (rw [hji7] at H; exact H) | (simp only [hji7] at H ⊢; exact H)
      have hji7w : (IntKind.i64.wrap (8 * x8_1)) = ji7 := (i64_w _).trans hji7
      by_cases c8 : 0 ≤ (ji7)
      ·rw [if_pos c8] at H
       have c8b0 := eq_true c8
       have c8b1 := decide_eq_true c8
       clear c8
       obtain ⟨ji9, hji9⟩ : ∃ j_ : Int, (shl .u64 (IntKind.u64.wrap (bt a0 x8_1)) (ji7)) = j_ := ⟨_, rfl⟩
       replace H : (journal_get_uint64.l0 k1 a0 (Go.bits .or .u64 x5_1 (ji9)) a1 (wrap64 (x8_1 + 1))) = some r := by first | (rw [hji9] at H; exact H) | (simp only [hji9] at H ⊢; exact H)
       have hji9_ : (IntKind.u64.wrap ((IntKind.u64.wrap (bt a0 x8_1)) * 2 ^ min (ji7).toNat 64)) = ji9 := hji9
       have hji9z : (ji7) ≤ 64 → (IntKind.u64.wrap ((IntKind.u64.wrap (bt a0 x8_1)) * 2 ^ (ji7).toNat)) = ji9 := shl_small hji9
       have H' := Aside0.mk H
       clear H
       have p6 : 0 ≤ (x8_1 : Int) := of_decide_eq_true byA
       have q6 : x8_1 < (a0.size : Int) := of_decide_eq_true byA
       have hx6 := bt_at a0 x8_1
       replace p6 := eq_true p6
       replace q6 := eq_true q6
       go_wp2
       go_roundg k1
       case measure => have := HK1.out; omega
       case rel => exact ⟨(Go.bits .or .u64 x5_1 (ji9)), (wrap64 (x8_1 + 1)), (by first | rfl | (simp; done) | (simp only [← hji9] <;> (first | rfl | simp)) | (simp [*]; done)), eqS, H', ⟨by have := HK1.out; omega⟩, by repeat (first | exact Drawn0.refl _ | apply Drawn0.step)⟩
      ·rw [if_neg c8] at H
       exact absurd H (by simp)
     ·rw [if_neg c5] at H
      exact absurd H (by simp)
    ·rw [if_neg c4] at H
     exact absurd H (by simp)
   ·rw [if_neg c3] at H
    have c3b0 := decide_eq_false c3
    clear c3
    obtain rfl := Option.some.inj H
    go_wp2
    go_ret
    exact ⟨eqS, by repeat (first | exact Drawn0.refl _ | apply Drawn0.step)⟩
end Go.Proofs.J.Print
end
