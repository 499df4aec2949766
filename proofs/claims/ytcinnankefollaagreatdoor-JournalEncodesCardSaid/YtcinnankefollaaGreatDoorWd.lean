/- On the way to the law 'JournalEncodes': what the functions that it reaches compute, step by step, and the plain law (JPF217 .. JGk). Each theorem states its own conditions. -/
import Derived.Test.YtcinnankefollaaGreatDoorWc
set_option linter.unusedVariables false
set_option linter.unusedSimpArgs false
section
namespace Go.Proofs.J.Print
open Go.RowKit Go.Proofs.PrintWords Go.Proofs.PrintLast Go.Proofs.PrintMore
def pedigreeref01_Name.f (k : Nat) (a0 : ByteArray) : Option (Bool) := (pedigreeref01_written.f k a0 97 122).bind fun t331 => (if t331 = true then ((pedigreeref01_Keyword.f a0).bind fun t332 => (some (!t332))) else (some false))
set_option maxHeartbeats 8000000 in
set_option maxRecDepth 100000 in
theorem pedigreeref01_Name.calls (k : Nat) (a0 : ByteArray) (r : Bool) (w : World) (h : pedigreeref01_Name.f k a0 = some r) :
  Calls Tryz.prog 217 #[.string a0] w fun e w' => e = .returned (.bool r) ∧ Drawn0 w w' := by
 have H : ((pedigreeref01_written.f k a0 97 122).bind fun t331 => (if t331 = true then ((pedigreeref01_Keyword.f a0).bind fun t332 => (some (!t332))) else (some false))) = some r := h
 clear h
 replace H := Option.bind_eq_some_iff.mp H
 obtain ⟨t331, A20, H⟩ := H
 replace H : (if t331 = true then ((pedigreeref01_Keyword.f a0).bind fun t332 => (some (!t332))) else (some false)) = some r := H
 have A2 := Aside0.mk A20
 clear A20
 by_cases c3 : t331 = true
 ·subst c3
  have H1 : ((pedigreeref01_Keyword.f a0).bind fun t332 => (some (!t332))) = some r := by rw [if_pos rfl] at H; exact H
  clear H
  have H := H1
  clear H1
  replace H := Option.bind_eq_some_iff.mp H
  obtain ⟨t332, A40, H⟩ := H
  replace H : (some (!t332)) = some r := H
  have A4 := Aside0.mk A40
  clear A40
  obtain rfl := Option.some.inj H
  go_enter Tryz.func217, Tryz.ntmps217
  go_wp2_with (first | ((with_reducible refine gate_callee (f := 283) rfl ?_); refine goesS (some 4) Tryz.func283 #[.string a0, .int .u8 97, .int .u8 122] ?_; (with_reducible refine (pedigreeref01_written.calls k a0 97 122 true _ A2.out).mono ?_); rintro e w' ⟨rfl, ⟨nd, rfl⟩⟩; refine ⟨_, rfl, ?_⟩) | (go_at_call 284; (with_reducible refine (pedigreeref01_Keyword.calls a0 t332 _ A4.out).mono ?_); rintro e w' ⟨rfl, ⟨nd, rfl⟩⟩))
  go_ret
  exact ⟨eqS, by repeat (first | exact Drawn0.refl _ | apply Drawn0.step)⟩
 ·replace c3 := Bool.eq_false_iff.mpr c3
  subst c3
  have H1 : (some false) = some r := by rw [if_neg (show ¬ (false = true) by decide)] at H; exact H
  clear H
  have H := H1
  clear H1
  obtain rfl := Option.some.inj H
  go_enter Tryz.func217, Tryz.ntmps217
  go_wp2_with (first | ((with_reducible refine gate_callee (f := 283) rfl ?_); refine goesS (some 4) Tryz.func283 #[.string a0, .int .u8 97, .int .u8 122] ?_; (with_reducible refine (pedigreeref01_written.calls k a0 97 122 false _ A2.out).mono ?_); rintro e w' ⟨rfl, ⟨nd, rfl⟩⟩; refine ⟨_, rfl, ?_⟩))
  go_ret
  exact ⟨eqS, by repeat (first | exact Drawn0.refl _ | apply Drawn0.step)⟩
end Go.Proofs.J.Print
end
section
namespace Go.Proofs.J.Print
open Go.RowKit Go.Proofs.PrintWords Go.Proofs.PrintLast Go.Proofs.PrintMore
def pedigreeref01_Check.f (a0_0 : Int) (a0_1 : Int) (a0_2 : ByteArray) : Option (Int) := if a0_0 = 1 then (if a0_2.toList = ([] : List UInt8) then (some 0) else (if a0_0 = 2 then (if a0_1 = 0 then (if (a0_2.size : Int) ≤ 200 then (some 0) else (some 10)) else (some 10)) else (some 10))) else (if a0_0 = 2 then (if a0_1 = 0 then (if (a0_2.size : Int) ≤ 200 then (some 0) else (some 10)) else (some 10)) else (some 10))
set_option maxHeartbeats 8000000 in
set_option maxRecDepth 100000 in
theorem pedigreeref01_Check.calls (a0_0 : Int) (a0_1 : Int) (a0_2 : ByteArray) (r : Int) (w : World) (h : pedigreeref01_Check.f a0_0 a0_1 a0_2 = some r) :
  Calls Tryz.prog 218 #[.agg #[.int .i8 a0_0, .int .i64 a0_1, .string a0_2]] w fun e w' => e = .returned (.int .i64 r) ∧ Below w.heap.size w w' := by
 have hu85 := Tryz.underlying85
 have HB := Aside0.mk (Below.refl w.heap.size w)
 have H : (if a0_0 = 1 then (if a0_2.toList = ([] : List UInt8) then (some 0) else (if a0_0 = 2 then (if a0_1 = 0 then (if (a0_2.size : Int) ≤ 200 then (some 0) else (some 10)) else (some 10)) else (some 10))) else (if a0_0 = 2 then (if a0_1 = 0 then (if (a0_2.size : Int) ≤ 200 then (some 0) else (some 10)) else (some 10)) else (some 10))) = some r := h
 clear h
 by_cases c2 : a0_0 = 1
 focus
  rw [if_pos c2] at H
  have c2b0 : (a0_0 == 1) = true := beq_iff_eq.mpr c2
  have c2b1 : (a0_0 != 1) = false := bne_eq_false_iff_eq.mpr c2
  clear c2
  by_cases c3 : a0_2.toList = ([] : List UInt8)
  focus
   rw [if_pos c3] at H
   have c3b0 : (a0_2.toList == ([] : List UInt8)) = true := beq_iff_eq.mpr c3
   have c3b1 : (a0_2.toList != ([] : List UInt8)) = false := bne_eq_false_iff_eq.mpr c3
   clear c3
   obtain rfl := Option.some.inj H
  rotate_right
  focus
   rw [if_neg c3] at H
   have c3b0 : (a0_2.toList == ([] : List UInt8)) = false := beq_eq_false_iff_ne.mpr c3
   have c3b1 : (a0_2.toList != ([] : List UInt8)) = true := bne_iff_ne.mpr c3
   by_cases c6 : a0_0 = 2
   focus
    rw [if_pos c6] at H
    have c6b0 : (a0_0 == 2) = true := beq_iff_eq.mpr c6
    have c6b1 : (a0_0 != 2) = false := bne_eq_false_iff_eq.mpr c6
    clear c6
    by_cases c7 : a0_1 = 0
    focus
     rw [if_pos c7] at H
     have c7b0 : (a0_1 == 0) = true := beq_iff_eq.mpr c7
     have c7b1 : (a0_1 != 0) = false := bne_eq_false_iff_eq.mpr c7
     clear c7
     by_cases c8 : (a0_2.size : Int) ≤ 200
     focus
      rw [if_pos c8] at H
      have c8b0 := decide_eq_true c8
      have c8b1 : decide (a0_2.size ≤ 200) = true := decide_eq_true (by omega)
      clear c8
      obtain rfl := Option.some.inj H
     rotate_right
     focus
      rw [if_neg c8] at H
      have c8b0 := decide_eq_false c8
      have c8b1 : decide (a0_2.size ≤ 200) = false := decide_eq_false (by omega)
      clear c8
      obtain rfl := Option.some.inj H
    rotate_right
    focus
     rw [if_neg c7] at H
     have c7b0 : (a0_1 == 0) = false := beq_eq_false_iff_ne.mpr c7
     have c7b1 : (a0_1 != 0) = true := bne_iff_ne.mpr c7
     obtain rfl := Option.some.inj H
   rotate_right
   focus
    rw [if_neg c6] at H
    have c6b0 : (a0_0 == 2) = false := beq_eq_false_iff_ne.mpr c6
    have c6b1 : (a0_0 != 2) = true := bne_iff_ne.mpr c6
    obtain rfl := Option.some.inj H
 rotate_right
 focus
  rw [if_neg c2] at H
  have c2b0 : (a0_0 == 1) = false := beq_eq_false_iff_ne.mpr c2
  have c2b1 : (a0_0 != 1) = true := bne_iff_ne.mpr c2
  by_cases c17 : a0_0 = 2
  focus
   rw [if_pos c17] at H
   have c17b0 : (a0_0 == 2) = true := beq_iff_eq.mpr c17
   have c17b1 : (a0_0 != 2) = false := bne_eq_false_iff_eq.mpr c17
   clear c17
   by_cases c18 : a0_1 = 0
   focus
    rw [if_pos c18] at H
    have c18b0 : (a0_1 == 0) = true := beq_iff_eq.mpr c18
    have c18b1 : (a0_1 != 0) = false := bne_eq_false_iff_eq.mpr c18
    clear c18
    by_cases c19 : (a0_2.size : Int) ≤ 200
    focus
     rw [if_pos c19] at H
     have c19b0 := decide_eq_true c19
     have c19b1 : decide (a0_2.size ≤ 200) = true := decide_eq_true (by omega)
     clear c19
     obtain rfl := Option.some.inj H
    rotate_right
    focus
     rw [if_neg c19] at H
     have c19b0 := decide_eq_false c19
     have c19b1 : decide (a0_2.size ≤ 200) = false := decide_eq_false (by omega)
     clear c19
     obtain rfl := Option.some.inj H
   rotate_right
   focus
    rw [if_neg c18] at H
    have c18b0 : (a0_1 == 0) = false := beq_eq_false_iff_ne.mpr c18
    have c18b1 : (a0_1 != 0) = true := bne_iff_ne.mpr c18
    obtain rfl := Option.some.inj H
  rotate_right
  focus
   rw [if_neg c17] at H
   have c17b0 : (a0_0 == 2) = false := beq_eq_false_iff_ne.mpr c17
   have c17b1 : (a0_0 != 2) = true := bne_iff_ne.mpr c17
   obtain rfl := Option.some.inj H
 all_goals (go_enter Tryz.func218, Tryz.ntmps218; go_wp2_with (first | ((with_reducible refine gate_dst (N := 1) rfl ?_); (try (refine gate_guard (by rfl) ?_; dsimp only)); refine boxS 1 #[.int .i8 a0_0, .int .i64 a0_1, .string a0_2] 85 ?_; intro gb333 hg wq1 hbox hb; have n0_ := Aside0.mk (below_step (upB HB.out) hb); have n1_ := Aside0.mk (hbox); have n2_ := Aside0.mk (geB hg (upB HB.out) : w.heap.size ≤ gb333); have n3_ := Aside0.mk (geB hg (upB HB.out) : w.heap.size ≤ gb333); clear HB; have HB := n0_; have BK333 := n1_; have GW333 := n2_; have GE333 := n3_; clear n0_ n1_ n2_ n3_; clear hb hbox hg; have hczq1_0 : wq1.cell? ⟨gb333, 0, none⟩ = some (.int .i8 a0_0) := (blk_cell BK333.out 0).trans rfl; have hczq1_1 : wq1.cell? ⟨gb333, 1, none⟩ = some (.int .i64 a0_1) := (blk_cell BK333.out 1).trans rfl; have hczq1_2 : wq1.cell? ⟨gb333, 2, none⟩ = some (.string a0_2) := (blk_cell BK333.out 2).trans rfl; have hfzq1_0 := blk_frozen BK333.out 0; have hfzq1_1 := blk_frozen BK333.out 1; have hfzq1_2 := blk_frozen BK333.out 2)); first | (go_ret; exact ⟨eqE, upB HB.out⟩))
end Go.Proofs.J.Print
end
section
namespace Go.Proofs.J.Print
open Go.RowKit Go.Proofs.PrintWords Go.Proofs.PrintLast Go.Proofs.PrintMore
mutual
def pedigreeref29_mayBe.j0 : Nat → Bool → ByteArray → List (S85) → Option (Bool)
 | 0, _, _, _ => none
 | k + 1, x13, x335000, x335001 => if x13 = true then (some false) else (pedigreeref29_mayBe.l0 k 0 x335000 x335001)
def pedigreeref29_mayBe.l0 : Nat → Int → ByteArray → List (S85) → Option (Bool)
 | 0, _, _, _ => none
 | k + 1, x3, x335000, x335001 => if x3 < (x335001.length : Int) then (if 0 ≤ x3 then ((pedigreeref01_Check.f ((rd_T85 x335001 x3).f0) ((rd_T85 x335001 x3).f1) ((rd_T85 x335001 x3).f2)).bind fun t337 => (if t337 = 0 then (pedigreeref29_mayBe.l0 k (wrap64 (x3 + 1)) x335000 x335001) else (some false))) else (none)) else (some true)
end
def pedigreeref29_mayBe.f (k : Nat) (a0_0 : ByteArray) (l0_1 : List (S85)) : Option (Bool) := (pedigreeref01_Name.f k a0_0).bind fun t335 => (if t335 = true then (pedigreeref29_mayBe.j0 k (decide ((l0_1.length : Int) > 24)) a0_0 l0_1) else (pedigreeref29_mayBe.j0 k true a0_0 l0_1))
set_option maxHeartbeats 8000000 in
set_option maxRecDepth 100000 in
theorem pedigreeref29_mayBe.calls (k : Nat) (a0_0 : ByteArray) (A0_1 : Option Addr) (c0_1 : Nat) (l0_1 : List (S85)) (r : Bool) (w : World) (hr0_1 : Kd.C k85 w A0_1 l0_1.length l0_1) (hc0_1 : l0_1.length ≤ c0_1) (h : pedigreeref29_mayBe.f k a0_0 l0_1 = some r) :
  Calls Tryz.prog 100 #[.agg #[.string a0_0, .slice A0_1 l0_1.length c0_1]] w fun e w' => e = .returned (.bool r) ∧ Below w.heap.size w w' := by
 have hu90 := Tryz.underlying90
 have hu85 := Tryz.underlying85
 have HR0_1 := Aside0.mk hr0_1
 have HC0_1 := Aside0.mk hc0_1
 clear hr0_1 hc0_1
 have HB := Aside0.mk (Below.refl w.heap.size w)
 have H : ((pedigreeref01_Name.f k a0_0).bind fun t335 => (if t335 = true then (pedigreeref29_mayBe.j0 k (decide ((l0_1.length : Int) > 24)) a0_0 l0_1) else (pedigreeref29_mayBe.j0 k true a0_0 l0_1))) = some r := h
 clear h
 have HC2 := Aside0.mk H
 clear H
 go_enter Tryz.func100, Tryz.ntmps100
 go_upto_region 1 with (first | ((with_reducible refine gate_dst (N := 1) rfl ?_); (try (refine gate_guard (by rfl) ?_; dsimp only)); refine boxS 1 #[.string a0_0, .slice A0_1 l0_1.length c0_1] 90 ?_; intro gb334 hg w3 hbox hb; have n0_ := Aside0.mk (below_step (upB HB.out) hb); have n1_ := Aside0.mk (hbox); have n2_ := Aside0.mk (geB hg (upB HB.out) : w.heap.size ≤ gb334); have n3_ := Aside0.mk (geB hg (upB HB.out) : w.heap.size ≤ gb334); clear HB; have HB := n0_; have BK334 := n1_; have GW334 := n2_; have GE334 := n3_; clear n0_ n1_ n2_ n3_; clear hb hbox hg))
 (try simp only [Act.put, List.setIfInBounds_toArray, List.set_cons_zero, List.set_cons_succ])
 go_cut [13] (fun v13 wc => ∃ (kq : Nat) (x13_1 : Bool), v13 = .bool x13_1 ∧ Aside0 (pedigreeref29_mayBe.j0 kq x13_1 a0_0 l0_1 = some r) ∧ Aside0 (kq ≤ k) ∧ Aside0 (wc.heap[gb334]? = some (.cells #[.string a0_0, (.slice A0_1 l0_1.length c0_1)] 90 (0, 0))) ∧ Aside0 (Below w.heap.size w wc))
 case first =>
  have H := HC2.out
  clear HC2
  replace H := Option.bind_eq_some_iff.mp H
  obtain ⟨t335, A40, H⟩ := H
  replace H : (if t335 = true then (pedigreeref29_mayBe.j0 k (decide ((l0_1.length : Int) > 24)) a0_0 l0_1) else (pedigreeref29_mayBe.j0 k true a0_0 l0_1)) = some r := H
  have A4 := Aside0.mk A40
  clear A40
  by_cases c5 : t335 = true
  ·subst c5
   have H1 : (pedigreeref29_mayBe.j0 k (decide ((l0_1.length : Int) > 24)) a0_0 l0_1) = some r := by rw [if_pos rfl] at H; exact H
   clear H
   have H := H1
   clear H1
   have H' := Aside0.mk H
   clear H
   have hcz6_0 : w3.cell? ⟨gb334, 0, none⟩ = some (.string a0_0) := (blk_cell BK334.out 0).trans rfl
   have hcz6_1 : w3.cell? ⟨gb334, 1, none⟩ = some (.slice A0_1 l0_1.length c0_1) := (blk_cell BK334.out 1).trans rfl
   have hfz6_0 := blk_frozen BK334.out 0
   have hfz6_1 := blk_frozen BK334.out 1
   go_wp2_with (first | ((with_reducible refine gate_callee (f := 217) rfl ?_); refine goesS (some 6) Tryz.func217 #[.string a0_0] ?_; (with_reducible refine (pedigreeref01_Name.calls k a0_0 true _ A4.out).mono ?_); rintro e w' ⟨rfl, ⟨nd, rfl⟩⟩; refine ⟨_, rfl, ?_⟩))
   go_meet
   case rel => exact ⟨_, (decide ((l0_1.length : Int) > 24)), eqS, H', ⟨by first | omega | exact Nat.le_refl _⟩, ⟨upO BK334.out⟩, ⟨upB HB.out⟩⟩
  ·replace c5 := Bool.eq_false_iff.mpr c5
   subst c5
   have H1 : (pedigreeref29_mayBe.j0 k true a0_0 l0_1) = some r := by rw [if_neg (show ¬ (false = true) by decide)] at H; exact H
   clear H
   have H := H1
   clear H1
   have H' := Aside0.mk H
   clear H
   have hcz7_0 : w3.cell? ⟨gb334, 0, none⟩ = some (.string a0_0) := (blk_cell BK334.out 0).trans rfl
   have hcz7_1 : w3.cell? ⟨gb334, 1, none⟩ = some (.slice A0_1 l0_1.length c0_1) := (blk_cell BK334.out 1).trans rfl
   have hfz7_0 := blk_frozen BK334.out 0
   have hfz7_1 := blk_frozen BK334.out 1
   go_wp2_with (first | ((with_reducible refine gate_callee (f := 217) rfl ?_); refine goesS (some 6) Tryz.func217 #[.string a0_0] ?_; (with_reducible refine (pedigreeref01_Name.calls k a0_0 false _ A4.out).mono ?_); rintro e w' ⟨rfl, ⟨nd, rfl⟩⟩; refine ⟨_, rfl, ?_⟩))
   go_meet
   case rel => exact ⟨_, (true), eqS, H', ⟨by first | omega | exact Nat.le_refl _⟩, ⟨upO BK334.out⟩, ⟨upB HB.out⟩⟩
 case rest =>
  clear HC2
  try clear c1
  try clear c2
  try clear p2
  try clear c5
  try clear hcz6_0
  try clear hcz6_1
  try clear hcz7_0
  try clear hcz7_1
  try clear hfz6_0
  try clear hfz6_1
  try clear hfz7_0
  try clear hfz7_1
  obtain ⟨kq, x13_1, rfl, HA, HJ1, BK334, HB⟩ := hcut
  cases kq with
  | zero => exact absurd HA.out (by simp [pedigreeref29_mayBe.j0])
  | succ kj1 =>
   have H := HA.out
   clear HA
   simp only [pedigreeref29_mayBe.j0] at H
   by_cases c8 : x13_1 = true
   ·subst c8
    have H1 : (some false) = some r := by rw [if_pos rfl] at H; exact H
    clear H
    have H := H1
    clear H1
    obtain rfl := Option.some.inj H
    go_wp2
    go_ret
    exact ⟨eqE, upB HB.out⟩
   ·replace c8 := Bool.eq_false_iff.mpr c8
    subst c8
    have H1 : (pedigreeref29_mayBe.l0 kj1 0 a0_0 l0_1) = some r := by rw [if_neg (show ¬ (false = true) by decide)] at H; exact H
    clear H
    have H := H1
    clear H1
    have H' := Aside0.mk H
    clear H
    go_wp2
    go_loopg [3] kj1 (fun kq v3 w' => ∃ (x3_2 : Int), v3 = .int .i64 x3_2 ∧ Aside0 (pedigreeref29_mayBe.l0 kq x3_2 a0_0 l0_1 = some r) ∧ Aside0 (kq ≤ kj1) ∧ Aside0 (w'.heap[gb334]? = some (.cells #[.string a0_0, (.slice A0_1 l0_1.length c0_1)] 90 (0, 0))) ∧ Aside0 (Below w.heap.size w w'))
    case atStart => exact ⟨(0), eqS, H', ⟨Nat.le_refl _⟩, ⟨upO BK334.out⟩, ⟨upB HB.out⟩⟩
    case round =>
     clear H'
     try clear c1
     try clear c2
     try clear p2
     try clear c5
     try clear c8
     try clear hcz6_0
     try clear hcz6_1
     try clear hcz7_0
     try clear hcz7_1
     try clear hfz6_0
     try clear hfz6_1
     try clear hfz7_0
     try clear hfz7_1
     try clear p2
     obtain ⟨x3_2, rfl, HA, HK2, BK334, HB⟩ := hrel
     cases gk with
     | zero => exact absurd HA.out (by simp [pedigreeref29_mayBe.l0])
     | succ k2 =>
      have H := HA.out
      clear HA
      simp only [pedigreeref29_mayBe.l0] at H
      by_cases c9 : x3_2 < (l0_1.length : Int)
      ·rw [if_pos c9] at H
       have c9b0 := decide_eq_true c9
       clear c9
       by_cases c10 : 0 ≤ x3_2
       ·rw [if_pos c10] at H
        have c10b0 := decide_eq_true c10
        clear c10
        replace H := Option.bind_eq_some_iff.mp H
        obtain ⟨t337, A110, H⟩ := H
        replace H : (if t337 = 0 then (pedigreeref29_mayBe.l0 k2 (wrap64 (x3_2 + 1)) a0_0 l0_1) else (some false)) = some r := H
        have A11 := Aside0.mk A110
        clear A110
        by_cases c12 : t337 = 0
        ·rw [if_pos c12] at H
         have c12b0 : (t337 == 0) = true := beq_iff_eq.mpr c12
         have c12b1 : (t337 != 0) = false := bne_eq_false_iff_eq.mpr c12
         clear c12
         have H' := Aside0.mk H
         clear H
         have hcz13_0 : wr.cell? ⟨gb334, 0, none⟩ = some (.string a0_0) := (blk_cell BK334.out 0).trans rfl
         have hcz13_1 : wr.cell? ⟨gb334, 1, none⟩ = some (.slice A0_1 l0_1.length c0_1) := (blk_cell BK334.out 1).trans rfl
         have hfz13_0 := blk_frozen BK334.out 0
         have hfz13_1 := blk_frozen BK334.out 1
         have p336 : 0 ≤ (x3_2 : Int) := of_decide_eq_true byA
         have q336 : x3_2 < (l0_1.length : Int) := of_decide_eq_true byA
         obtain ⟨ad336, e336, hx336_0, hx336_1, hx336_2⟩ := at_T85 HR0_1.out x3_2 p336 q336
         cases e336
         replace hx336_0 := cellB HB.out hx336_0
         replace hx336_1 := cellB HB.out hx336_1
         replace hx336_2 := cellB HB.out hx336_2
         replace p336 := eq_true p336
         replace q336 := eq_true q336
         go_wp2_with (first | ((with_reducible refine gate_callee (f := 218) rfl ?_); refine goesS (some 26) Tryz.func218 #[.agg #[.int .i8 ((rd_T85 l0_1 x3_2).f0), .int .i64 ((rd_T85 l0_1 x3_2).f1), .string ((rd_T85 l0_1 x3_2).f2)]] ?_; (with_reducible refine (pedigreeref01_Check.calls ((rd_T85 l0_1 x3_2).f0) ((rd_T85 l0_1 x3_2).f1) ((rd_T85 l0_1 x3_2).f2) t337 _ A11.out).mono ?_); rintro e w14 ⟨rfl, hb⟩; refine ⟨_, rfl, ?_⟩; have n0_ := Aside0.mk (blk_below (g := gb334) (o := .cells #[.string a0_0, .slice (some ad336) l0_1.length c0_1] 90 (0, 0)) (upO BK334.out) hb); have n1_ := Aside0.mk (below_step (upB HB.out) hb); clear BK334; clear HB; have BK334 := n0_; have HB := n1_; clear n0_ n1_; (try clear hb); (try clear hb2); (try clear hk); (try clear hi)))
         go_roundg k2
         case measure => have := HJ1.out; have := HK2.out; omega
         case rel => exact ⟨(wrap64 (x3_2 + 1)), eqS, H', ⟨by have := HJ1.out; have := HK2.out; omega⟩, ⟨upO BK334.out⟩, ⟨upB HB.out⟩⟩
        ·rw [if_neg c12] at H
         have c12b0 : (t337 == 0) = false := beq_eq_false_iff_ne.mpr c12
         have c12b1 : (t337 != 0) = true := bne_iff_ne.mpr c12
         obtain rfl := Option.some.inj H
         have hcz15_0 : wr.cell? ⟨gb334, 0, none⟩ = some (.string a0_0) := (blk_cell BK334.out 0).trans rfl
         have hcz15_1 : wr.cell? ⟨gb334, 1, none⟩ = some (.slice A0_1 l0_1.length c0_1) := (blk_cell BK334.out 1).trans rfl
         have hfz15_0 := blk_frozen BK334.out 0
         have hfz15_1 := blk_frozen BK334.out 1
         have p336 : 0 ≤ (x3_2 : Int) := of_decide_eq_true byA
         have q336 : x3_2 < (l0_1.length : Int) := of_decide_eq_true byA
         obtain ⟨ad336, e336, hx336_0, hx336_1, hx336_2⟩ := at_T85 HR0_1.out x3_2 p336 q336
         cases e336
         replace hx336_0 := cellB HB.out hx336_0
         replace hx336_1 := cellB HB.out hx336_1
         replace hx336_2 := cellB HB.out hx336_2
         replace p336 := eq_true p336
         replace q336 := eq_true q336
         go_wp2_with (first | ((with_reducible refine gate_callee (f := 218) rfl ?_); refine goesS (some 26) Tryz.func218 #[.agg #[.int .i8 ((rd_T85 l0_1 x3_2).f0), .int .i64 ((rd_T85 l0_1 x3_2).f1), .string ((rd_T85 l0_1 x3_2).f2)]] ?_; (with_reducible refine (pedigreeref01_Check.calls ((rd_T85 l0_1 x3_2).f0) ((rd_T85 l0_1 x3_2).f1) ((rd_T85 l0_1 x3_2).f2) t337 _ A11.out).mono ?_); rintro e w16 ⟨rfl, hb⟩; refine ⟨_, rfl, ?_⟩; have n0_ := Aside0.mk (blk_below (g := gb334) (o := .cells #[.string a0_0, .slice (some ad336) l0_1.length c0_1] 90 (0, 0)) (upO BK334.out) hb); have n1_ := Aside0.mk (below_step (upB HB.out) hb); clear BK334; clear HB; have BK334 := n0_; have HB := n1_; clear n0_ n1_; (try clear hb); (try clear hb2); (try clear hk); (try clear hi)))
         go_ret
         exact ⟨eqE, upB HB.out⟩
       ·rw [if_neg c10] at H
        exact absurd H (by simp)
      ·rw [if_neg c9] at H
       have c9b0 := decide_eq_false c9
       clear c9
       obtain rfl := Option.some.inj H
       have hcz17_0 : wr.cell? ⟨gb334, 0, none⟩ = some (.string a0_0) := (blk_cell BK334.out 0).trans rfl
       have hcz17_1 : wr.cell? ⟨gb334, 1, none⟩ = some (.slice A0_1 l0_1.length c0_1) := (blk_cell BK334.out 1).trans rfl
       have hfz17_0 := blk_frozen BK334.out 0
       have hfz17_1 := blk_frozen BK334.out 1
       go_wp2
       go_ret
       exact ⟨eqE, upB HB.out⟩
end Go.Proofs.J.Print
end
section
namespace Go.Proofs.J.Print
open Go.RowKit Go.Proofs.PrintWords Go.Proofs.PrintLast Go.Proofs.PrintMore
def pedigreeref29_inOrder.l0 : Nat → List (S90) → Int → Option (Bool)
 | 0, _, _ => none
 | k + 1, x0, x3 => if x3 < (x0.length : Int) then (if 0 ≤ x3 then ((pedigreeref29_mayBe.f k ((rd_T90 x0 x3).f0) ((rd_T90 x0 x3).f1)).bind fun t110 => (if t110 = true then (if x3 > 0 then (if 0 ≤ (wrap64 (x3 - 1)) then (if (wrap64 (x3 - 1)) < (x0.length : Int) then ((pedigreeref01_CompareFacts.f k ((rd_T90 x0 (wrap64 (x3 - 1))).f0) ((rd_T90 x0 (wrap64 (x3 - 1))).f1) ((rd_T90 x0 x3).f0) ((rd_T90 x0 x3).f1)).bind fun t113 => (if t113 ≥ 0 then (some false) else (pedigreeref29_inOrder.l0 k x0 (wrap64 (x3 + 1))))) else (none)) else (none)) else (pedigreeref29_inOrder.l0 k x0 (wrap64 (x3 + 1)))) else (some false))) else (none)) else (some true)
def pedigreeref29_inOrder.f (k : Nat) (l0 : List (S90)) : Option (Bool) := pedigreeref29_inOrder.l0 k l0 0
def pedigreeref29_inOrder.T4 : Bool × List (List Nat × List Nat) := (true, [([], []), ([], []), ([0, 1], [0, 1]), ([2], [2]), ([3], [3]), ([4], [4]), ([5, 4], [5]), ([6], [6]), ([7, 6], [6, 7]), ([8, 6, 6], [6, 8]), ([9], [9]), ([9], [9]), ([11, 9], [9, 11]), ([10, 12, 9], [9, 10, 12]), ([13, 9], [9, 13]), ([9], [9]), ([9], [9]), ([15, 16, 9], [9, 15, 16]), ([17, 9], [9, 17]), ([14, 18, 9, 9], [9, 14, 18]), ([19, 9], [9, 19]), ([9, 20, 6], [6, 9, 20]), ([6, 21], [6, 21])])
def pedigreeref29_inOrder.B4 : List Nat := [0, 0, 3, 7, 15, 31, 63, 127, 255, 511, 1023, 1023, 3071, 8191, 16383, 1023, 1023, 99327, 230399, 524287, 1048575, 2097151, 4194303]
theorem pedigreeref29_inOrder.tab4 : rtab .any (opsOf Tryz.f40 4) = pedigreeref29_inOrder.T4 := by kernel_rfl
theorem pedigreeref29_inOrder.bits4 : waitsOk pedigreeref29_inOrder.T4.2 pedigreeref29_inOrder.B4 = true := by kernel_rfl
set_option maxHeartbeats 8000000 in
set_option maxRecDepth 100000 in
theorem pedigreeref29_inOrder.calls (k : Nat) (A0 : Option Addr) (c0 : Nat) (l0 : List (S90)) (r : Bool) (w : World) (hr0 : Kd.C k90 w A0 l0.length l0) (hc0 : l0.length ≤ c0) (h : pedigreeref29_inOrder.f k l0 = some r) :
  Calls Tryz.prog 40 #[.slice A0 l0.length c0] w fun e w' => e = .returned (.bool r) ∧ Below w.heap.size w w' := by
 have hu90 := Tryz.underlying90
 have HR0 := Aside0.mk hr0
 have HC0 := Aside0.mk hc0
 clear hr0 hc0
 have HB := Aside0.mk (Below.refl w.heap.size w)
 have H : (pedigreeref29_inOrder.l0 k l0 0) = some r := h
 clear h
 have H' := Aside0.mk H
 clear H
 go_enter Tryz.func40, Tryz.ntmps40
 go_wp2
 go_loopg [3] k (fun kq v3 w' => ∃ (x3_1 : Int), v3 = .int .i64 x3_1 ∧ Aside0 (pedigreeref29_inOrder.l0 kq l0 x3_1 = some r) ∧ Aside0 (kq ≤ k) ∧ Aside0 (Below w.heap.size w w'))
 case atStart => exact ⟨(0), eqS, H', ⟨Nat.le_refl _⟩, ⟨upB HB.out⟩⟩
 case round =>
  clear H'
  obtain ⟨x3_1, rfl, HA, HK1, HB⟩ := hrel
  cases gk with
  | zero => exact absurd HA.out (by simp [pedigreeref29_inOrder.l0])
  | succ k1 =>
   have H := HA.out
   clear HA
   simp only [pedigreeref29_inOrder.l0] at H
   by_cases c2 : x3_1 < (l0.length : Int)
   ·rw [if_pos c2] at H
    have c2b0 := decide_eq_true c2
    clear c2
    by_cases c3 : 0 ≤ x3_1
    ·rw [if_pos c3] at H
     have c3b0 := decide_eq_true c3
     clear c3
     replace H := Option.bind_eq_some_iff.mp H
     obtain ⟨t110, A40, H⟩ := H
     replace H : (if t110 = true then (if x3_1 > 0 then (if 0 ≤ (wrap64 (x3_1 - 1)) then (if (wrap64 (x3_1 - 1)) < (l0.length : Int) then ((pedigreeref01_CompareFacts.f k1 ((rd_T90 l0 (wrap64 (x3_1 - 1))).f0) ((rd_T90 l0 (wrap64 (x3_1 - 1))).f1) ((rd_T90 l0 x3_1).f0) ((rd_T90 l0 x3_1).f1)).bind fun t113 => (if t113 ≥ 0 then (some false) else (pedigreeref29_inOrder.l0 k1 l0 (wrap64 (x3_1 + 1))))) else (none)) else (none)) else (pedigreeref29_inOrder.l0 k1 l0 (wrap64 (x3_1 + 1)))) else (some false)) = some r := H
     have A4 := Aside0.mk A40
     clear A40
     by_cases c5 : t110 = true
     ·subst c5
      have H1 : (if x3_1 > 0 then (if 0 ≤ (wrap64 (x3_1 - 1)) then (if (wrap64 (x3_1 - 1)) < (l0.length : Int) then ((pedigreeref01_CompareFacts.f k1 ((rd_T90 l0 (wrap64 (x3_1 - 1))).f0) ((rd_T90 l0 (wrap64 (x3_1 - 1))).f1) ((rd_T90 l0 x3_1).f0) ((rd_T90 l0 x3_1).f1)).bind fun t113 => (if t113 ≥ 0 then (some false) else (pedigreeref29_inOrder.l0 k1 l0 (wrap64 (x3_1 + 1))))) else (none)) else (none)) else (pedigreeref29_inOrder.l0 k1 l0 (wrap64 (x3_1 + 1)))) = some r := by rw [if_pos rfl] at H; exact H
      clear H
      have H := H1
      clear H1
      by_cases c6 : x3_1 > 0
      ·rw [if_pos c6] at H
       have c6b0 := decide_eq_true c6
       clear c6
       obtain ⟨ji7, hji7⟩ : ∃ j_ : Int, (wrap64 (x3_1 - 1)) = j_ := ⟨_, rfl⟩
       replace H : (if 0 ≤ (ji7) then (if (ji7) < (l0.length : Int) then ((pedigreeref01_CompareFacts.f k1 ((rd_T90 l0 (ji7)).f0) ((rd_T90 l0 (ji7)).f1) ((rd_T90 l0 x3_1).f0) ((rd_T90 l0 x3_1).f1)).bind fun t113 => (if t113 ≥ 0 then (some false) else (pedigreeref29_inOrder.l0 k1 l0 (wrap64 (x3_1 + 1))))) else (none)) else (none)) = some r := by first | (rw [hji7] at H; exact H) | (simp only [hji7] at H ⊢; exact H)
       (try rw [hji7] at A4)
       have hji7w : (IntKind.i64.wrap (x3_1 - 1)) = ji7 := (i64_w _).trans hji7
       by_cases c8 : 0 ≤ (ji7)
       ·rw [if_pos c8] at H
        have c8b0 := decide_eq_true c8
        clear c8
        by_cases c9 : (ji7) < (l0.length : Int)
        ·rw [if_pos c9] at H
         have c9b0 := decide_eq_true c9
         clear c9
         replace H := Option.bind_eq_some_iff.mp H
         obtain ⟨t113, A100, H⟩ := H
         replace H : (if t113 ≥ 0 then (some false) else (pedigreeref29_inOrder.l0 k1 l0 (wrap64 (x3_1 + 1)))) = some r := H
         have A10 := Aside0.mk A100
         clear A100
         by_cases c11 : t113 ≥ 0
         ·rw [if_pos c11] at H
          have c11b0 := decide_eq_true c11
          clear c11
          obtain rfl := Option.some.inj H
          try go_wp2
          have n0_ := Aside0.mk (below_drew1 HB.out)
          clear HB
          have HB := n0_
          clear n0_
          have p109 : 0 ≤ (x3_1 : Int) := of_decide_eq_true byA
          have q109 : x3_1 < (l0.length : Int) := of_decide_eq_true byA
          obtain ⟨ad109, A109_1, c109_1, e109, hx109_0, hx109_1, hl109_1, hi109_1⟩ := at_T90 HR0.out x3_1 p109 q109
          have hw109_1 := hx109_1
          have hw109_0 := hx109_0
          cases e109
          replace hx109_0 := cellB HB.out hx109_0
          replace hx109_1 := cellB HB.out hx109_1
          have HR109_1 := Aside0.mk hi109_1
          have HC109_1 := Aside0.mk hl109_1
          clear hi109_1 hl109_1
          replace p109 := eq_true p109
          replace q109 := eq_true q109
          have p111 : 0 ≤ ((ji7) : Int) := of_decide_eq_true byA
          have q111 : (ji7) < (l0.length : Int) := of_decide_eq_true byA
          obtain ⟨ad111, A111_1, c111_1, e111, hx111_0, hx111_1, hl111_1, hi111_1⟩ := at_T90 HR0.out (ji7) p111 q111
          have hw111_1 := hx111_1
          have hw111_0 := hx111_0
          obtain rfl : ad109 = ad111 := (by injection e111)
          replace hx111_0 := cellB HB.out hx111_0
          replace hx111_1 := cellB HB.out hx111_1
          have HR111_1 := Aside0.mk hi111_1
          have HC111_1 := Aside0.mk hl111_1
          clear hi111_1 hl111_1
          replace p111 := eq_true p111
          replace q111 := eq_true q111
          have p112 : 0 ≤ (x3_1 : Int) := of_decide_eq_true byA
          have q112 : x3_1 < (l0.length : Int) := of_decide_eq_true byA
          obtain ⟨ad112, A112_1, c112_1, e112, hx112_0, hx112_1, hl112_1, hi112_1⟩ := at_T90 HR0.out x3_1 p112 q112
          have hw112_1 := hx112_1
          have hw112_0 := hx112_0
          obtain rfl : ad109 = ad112 := (by injection e112)
          obtain ⟨rfl, rfl⟩ : A109_1 = A112_1 ∧ c109_1 = c112_1 := by
           have z_ := hw109_1.symm.trans hw112_1
           injection z_ with z_
           injection z_ with z1_ z2_ z3_
           exact ⟨z1_, z3_⟩
          replace hx112_0 := cellB HB.out hx112_0
          replace hx112_1 := cellB HB.out hx112_1
          have HR112_1 := Aside0.mk hi112_1
          have HC112_1 := Aside0.mk hl112_1
          clear hi112_1 hl112_1
          replace p112 := eq_true p112
          replace q112 := eq_true q112
          refine start_ (n := 23) (S := fun w' => w'.cell? (ad109.add ((x3_1).toNat * 2)) = some (.string ((rd_T90 l0 x3_1).f0)) ∧ w'.cell? ⟨(ad109.add ((x3_1).toNat * 2)).block, (ad109.add ((x3_1).toNat * 2)).off + 1, none⟩ = some (.slice A109_1 ((rd_T90 l0 x3_1).f1).length c109_1) ∧ w'.cell? (ad109.add (((ji7)).toNat * 2)) = some (.string ((rd_T90 l0 (ji7)).f0)) ∧ w'.cell? ⟨(ad109.add (((ji7)).toNat * 2)).block, (ad109.add (((ji7)).toNat * 2)).off + 1, none⟩ = some (.slice A111_1 ((rd_T90 l0 (ji7)).f1).length c111_1) ∧ w'.cell? (ad109.add ((x3_1).toNat * 2)) = some (.string ((rd_T90 l0 x3_1).f0)) ∧ w'.cell? ⟨(ad109.add ((x3_1).toNat * 2)).block, (ad109.add ((x3_1).toNat * 2)).off + 1, none⟩ = some (.slice A109_1 ((rd_T90 l0 x3_1).f1).length c109_1)) (ds := []) #[false,false,false,false,false,false,false,false,false,false,false,false,false,false,false,false,false,false,false,false,false,false,false] (by kernel_rfl) rfl rfl ⟨(cellB HB.out hw109_0), (cellB HB.out hw109_1), (cellB HB.out hw111_0), (cellB HB.out hw111_1), (cellB HB.out hw112_0), (cellB HB.out hw112_1)⟩ (fun hHeld => ?_); refine with_tabW pedigreeref29_inOrder.tab4 pedigreeref29_inOrder.bits4 (fun HT_ HW_ => ?_)
          generalize wr.drew = w12 at HB HR109_1 HR111_1 HR112_1 hx109_0 hx109_1 hx111_0 hx111_1 hx112_0 hx112_1 hHeld ⊢
          refine pureS 0 (some 10) HT_ ?_
          refine pureS 1 (some 11) HT_ ?_
          refine pureS 2 (some 12) HT_ ?_
          refine takeS 3 (some 13) HT_ HW_ hHeld ?_
          refine one_ (i := 4) (N := some 14) #[true, true, true, true, true, false,false,false,false,false,false,false,false,false,false,false,false,false,false,false,false,false,false] rfl rfl (one_of HT_.out (by kernel_rfl)) (by decide) (fun K hK => ?_)
          refine goes_ Tryz.func100 (by kernel_rfl) rfl #[.agg #[.string ((rd_T90 l0 x3_1).f0), .slice A109_1 ((rd_T90 l0 x3_1).f1).length c109_1]] (by rfl) rfl rfl (by (try simp only [List.map_toArray, List.map_cons, List.map_nil]); first | done | rfl | (simp only [List.length_drop, List.length_take]; rfl)) ?_
          with_reducible refine (pedigreeref29_mayBe.calls k1 ((rd_T90 l0 x3_1).f0) _ _ ((rd_T90 l0 x3_1).f1) true _ ?side1 ?side2 A4.out).mono ?_
          (case side1 => exact upC (Kd.C_below HR109_1.out HB.out))
          (case side2 => exact HC109_1.out)
          rintro e w13 ⟨rfl, hb⟩
          refine ⟨_, rfl, ?_⟩
          have n0_ := Aside0.mk (below_step (upB HB.out) hb)
          clear HB
          have HB := n0_
          clear n0_
          (try clear hb)
          (try clear hb2)
          (try clear hk)
          (try clear hi)
          refine hK.out _ _ ⟨(cellB HB.out hw109_0), (cellB HB.out hw109_1), (cellB HB.out hw111_0), (cellB HB.out hw111_1), (cellB HB.out hw112_0), (cellB HB.out hw112_1)⟩ (fun hHeld => ?_)
          clear hK K
          refine normS (some 14) ?_
          refine pureS 5 (some 15) HT_ ?_
          refine pureS 6 (some 16) HT_ ?_
          refine pureS 7 (some 17) HT_ ?_
          refine pureS 8 (some 18) HT_ ?_
          refine pureS 9 (some 19) HT_ ?_
          refine pureS 10 (some 20) HT_ ?_
          refine pureS 11 (some 21) HT_ ?_
          refine pureS 12 (some 22) HT_ ?_
          refine pureS 13 (some 23) HT_ ?_
          refine pureS 15 (some 25) HT_ ?_
          refine pureS 16 (some 26) HT_ ?_
          refine pureS 17 (some 27) HT_ ?_
          refine takeS 14 (some 24) HT_ HW_ hHeld ?_
          refine takeS 18 (some 28) HT_ HW_ hHeld ?_
          refine one_ (i := 19) (N := some 29) #[true, true, true, true, true, true, true, true, true, true, true, true, true, true, true, true, true, true, true, true, false,false,false] rfl rfl (one_of HT_.out (by kernel_rfl)) (by decide) (fun K hK => ?_)
          refine goes_ Tryz.func101 (by kernel_rfl) rfl #[.agg #[.string ((rd_T90 l0 (ji7)).f0), .slice A111_1 ((rd_T90 l0 (ji7)).f1).length c111_1], .agg #[.string ((rd_T90 l0 x3_1).f0), .slice A109_1 ((rd_T90 l0 x3_1).f1).length c109_1]] (by rfl) rfl rfl (by (try simp only [List.map_toArray, List.map_cons, List.map_nil]); first | done | (simp only [hji7]; rfl) | rfl | (simp only [List.length_drop, List.length_take]; rfl)) ?_
          with_reducible refine (pedigreeref01_CompareFacts.calls k1 ((rd_T90 l0 (ji7)).f0) _ _ ((rd_T90 l0 (ji7)).f1) ((rd_T90 l0 x3_1).f0) _ _ ((rd_T90 l0 x3_1).f1) t113 _ ?side1 ?side2 ?side3 ?side4 A10.out).mono ?_
          (case side1 => exact upC (Kd.C_below HR111_1.out HB.out))
          (case side2 => exact HC111_1.out)
          (case side3 => exact upC (Kd.C_below HR112_1.out HB.out))
          (case side4 => exact HC112_1.out)
          rintro e w14 ⟨rfl, hb⟩
          refine ⟨_, rfl, ?_⟩
          have n0_ := Aside0.mk (below_step (upB HB.out) hb)
          clear HB
          have HB := n0_
          clear n0_
          (try clear hb)
          (try clear hb2)
          (try clear hk)
          (try clear hi)
          refine hK.out _ _ ⟨(cellB HB.out hw109_0), (cellB HB.out hw109_1), (cellB HB.out hw111_0), (cellB HB.out hw111_1), (cellB HB.out hw112_0), (cellB HB.out hw112_1)⟩ (fun hHeld => ?_)
          clear hK K
          refine normS (some 29) ?_
          refine pureS 20 (some 30) HT_ ?_
          refine pureS 21 (some 31) HT_ ?_
          refine pureS 22 (some 32) HT_ ?_
          refine done_ (done_of HT_.out (by kernel_rfl)) ?_
          try go_wp2
          go_ret
          exact ⟨by first | rfl | (simp [errW_none, errW_some] <;> rfl) | (simp only [← hji7]; first | rfl | (simp [errW_none, errW_some] <;> rfl)) | (simp [*, errW_none, errW_some] <;> rfl), upB HB.out⟩
         ·rw [if_neg c11] at H
          have c11b0 := decide_eq_false c11
          clear c11
          have H' := Aside0.mk H
          clear H
          try go_wp2
          have n0_ := Aside0.mk (below_drew1 HB.out)
          clear HB
          have HB := n0_
          clear n0_
          have p109 : 0 ≤ (x3_1 : Int) := of_decide_eq_true byA
          have q109 : x3_1 < (l0.length : Int) := of_decide_eq_true byA
          obtain ⟨ad109, A109_1, c109_1, e109, hx109_0, hx109_1, hl109_1, hi109_1⟩ := at_T90 HR0.out x3_1 p109 q109
          have hw109_1 := hx109_1
          have hw109_0 := hx109_0
          cases e109
          replace hx109_0 := cellB HB.out hx109_0
          replace hx109_1 := cellB HB.out hx109_1
          have HR109_1 := Aside0.mk hi109_1
          have HC109_1 := Aside0.mk hl109_1
          clear hi109_1 hl109_1
          replace p109 := eq_true p109
          replace q109 := eq_true q109
          have p111 : 0 ≤ ((ji7) : Int) := of_decide_eq_true byA
          have q111 : (ji7) < (l0.length : Int) := of_decide_eq_true byA
          obtain ⟨ad111, A111_1, c111_1, e111, hx111_0, hx111_1, hl111_1, hi111_1⟩ := at_T90 HR0.out (ji7) p111 q111
          have hw111_1 := hx111_1
          have hw111_0 := hx111_0
          obtain rfl : ad109 = ad111 := (by injection e111)
          replace hx111_0 := cellB HB.out hx111_0
          replace hx111_1 := cellB HB.out hx111_1
          have HR111_1 := Aside0.mk hi111_1
          have HC111_1 := Aside0.mk hl111_1
          clear hi111_1 hl111_1
          replace p111 := eq_true p111
          replace q111 := eq_true q111
          have p112 : 0 ≤ (x3_1 : Int) := of_decide_eq_true byA
          have q112 : x3_1 < (l0.length : Int) := of_decide_eq_true byA
          obtain ⟨ad112, A112_1, c112_1, e112, hx112_0, hx112_1, hl112_1, hi112_1⟩ := at_T90 HR0.out x3_1 p112 q112
          have hw112_1 := hx112_1
          have hw112_0 := hx112_0
          obtain rfl : ad109 = ad112 := (by injection e112)
          obtain ⟨rfl, rfl⟩ : A109_1 = A112_1 ∧ c109_1 = c112_1 := by
           have z_ := hw109_1.symm.trans hw112_1
           injection z_ with z_
           injection z_ with z1_ z2_ z3_
           exact ⟨z1_, z3_⟩
          replace hx112_0 := cellB HB.out hx112_0
          replace hx112_1 := cellB HB.out hx112_1
          have HR112_1 := Aside0.mk hi112_1
          have HC112_1 := Aside0.mk hl112_1
          clear hi112_1 hl112_1
          replace p112 := eq_true p112
          replace q112 := eq_true q112
          refine start_ (n := 23) (S := fun w' => w'.cell? (ad109.add ((x3_1).toNat * 2)) = some (.string ((rd_T90 l0 x3_1).f0)) ∧ w'.cell? ⟨(ad109.add ((x3_1).toNat * 2)).block, (ad109.add ((x3_1).toNat * 2)).off + 1, none⟩ = some (.slice A109_1 ((rd_T90 l0 x3_1).f1).length c109_1) ∧ w'.cell? (ad109.add (((ji7)).toNat * 2)) = some (.string ((rd_T90 l0 (ji7)).f0)) ∧ w'.cell? ⟨(ad109.add (((ji7)).toNat * 2)).block, (ad109.add (((ji7)).toNat * 2)).off + 1, none⟩ = some (.slice A111_1 ((rd_T90 l0 (ji7)).f1).length c111_1) ∧ w'.cell? (ad109.add ((x3_1).toNat * 2)) = some (.string ((rd_T90 l0 x3_1).f0)) ∧ w'.cell? ⟨(ad109.add ((x3_1).toNat * 2)).block, (ad109.add ((x3_1).toNat * 2)).off + 1, none⟩ = some (.slice A109_1 ((rd_T90 l0 x3_1).f1).length c109_1)) (ds := []) #[false,false,false,false,false,false,false,false,false,false,false,false,false,false,false,false,false,false,false,false,false,false,false] (by kernel_rfl) rfl rfl ⟨(cellB HB.out hw109_0), (cellB HB.out hw109_1), (cellB HB.out hw111_0), (cellB HB.out hw111_1), (cellB HB.out hw112_0), (cellB HB.out hw112_1)⟩ (fun hHeld => ?_); refine with_tabW pedigreeref29_inOrder.tab4 pedigreeref29_inOrder.bits4 (fun HT_ HW_ => ?_)
          generalize wr.drew = w15 at HB HR109_1 HR111_1 HR112_1 hx109_0 hx109_1 hx111_0 hx111_1 hx112_0 hx112_1 hHeld ⊢
          refine pureS 0 (some 10) HT_ ?_
          refine pureS 1 (some 11) HT_ ?_
          refine pureS 2 (some 12) HT_ ?_
          refine takeS 3 (some 13) HT_ HW_ hHeld ?_
          refine one_ (i := 4) (N := some 14) #[true, true, true, true, true, false,false,false,false,false,false,false,false,false,false,false,false,false,false,false,false,false,false] rfl rfl (one_of HT_.out (by kernel_rfl)) (by decide) (fun K hK => ?_)
          refine goes_ Tryz.func100 (by kernel_rfl) rfl #[.agg #[.string ((rd_T90 l0 x3_1).f0), .slice A109_1 ((rd_T90 l0 x3_1).f1).length c109_1]] (by rfl) rfl rfl (by (try simp only [List.map_toArray, List.map_cons, List.map_nil]); first | done | rfl | (simp only [List.length_drop, List.length_take]; rfl)) ?_
          with_reducible refine (pedigreeref29_mayBe.calls k1 ((rd_T90 l0 x3_1).f0) _ _ ((rd_T90 l0 x3_1).f1) true _ ?side1 ?side2 A4.out).mono ?_
          (case side1 => exact upC (Kd.C_below HR109_1.out HB.out))
          (case side2 => exact HC109_1.out)
          rintro e w16 ⟨rfl, hb⟩
          refine ⟨_, rfl, ?_⟩
          have n0_ := Aside0.mk (below_step (upB HB.out) hb)
          clear HB
          have HB := n0_
          clear n0_
          (try clear hb)
          (try clear hb2)
          (try clear hk)
          (try clear hi)
          refine hK.out _ _ ⟨(cellB HB.out hw109_0), (cellB HB.out hw109_1), (cellB HB.out hw111_0), (cellB HB.out hw111_1), (cellB HB.out hw112_0), (cellB HB.out hw112_1)⟩ (fun hHeld => ?_)
          clear hK K
          refine normS (some 14) ?_
          refine pureS 5 (some 15) HT_ ?_
          refine pureS 6 (some 16) HT_ ?_
          refine pureS 7 (some 17) HT_ ?_
          refine pureS 8 (some 18) HT_ ?_
          refine pureS 9 (some 19) HT_ ?_
          refine pureS 10 (some 20) HT_ ?_
          refine pureS 11 (some 21) HT_ ?_
          refine pureS 12 (some 22) HT_ ?_
          refine pureS 13 (some 23) HT_ ?_
          refine pureS 15 (some 25) HT_ ?_
          refine pureS 16 (some 26) HT_ ?_
          refine pureS 17 (some 27) HT_ ?_
          refine takeS 14 (some 24) HT_ HW_ hHeld ?_
          refine takeS 18 (some 28) HT_ HW_ hHeld ?_
          refine one_ (i := 19) (N := some 29) #[true, true, true, true, true, true, true, true, true, true, true, true, true, true, true, true, true, true, true, true, false,false,false] rfl rfl (one_of HT_.out (by kernel_rfl)) (by decide) (fun K hK => ?_)
          refine goes_ Tryz.func101 (by kernel_rfl) rfl #[.agg #[.string ((rd_T90 l0 (ji7)).f0), .slice A111_1 ((rd_T90 l0 (ji7)).f1).length c111_1], .agg #[.string ((rd_T90 l0 x3_1).f0), .slice A109_1 ((rd_T90 l0 x3_1).f1).length c109_1]] (by rfl) rfl rfl (by (try simp only [List.map_toArray, List.map_cons, List.map_nil]); first | done | (simp only [hji7]; rfl) | rfl | (simp only [List.length_drop, List.length_take]; rfl)) ?_
          with_reducible refine (pedigreeref01_CompareFacts.calls k1 ((rd_T90 l0 (ji7)).f0) _ _ ((rd_T90 l0 (ji7)).f1) ((rd_T90 l0 x3_1).f0) _ _ ((rd_T90 l0 x3_1).f1) t113 _ ?side1 ?side2 ?side3 ?side4 A10.out).mono ?_
          (case side1 => exact upC (Kd.C_below HR111_1.out HB.out))
          (case side2 => exact HC111_1.out)
          (case side3 => exact upC (Kd.C_below HR112_1.out HB.out))
          (case side4 => exact HC112_1.out)
          rintro e w17 ⟨rfl, hb⟩
          refine ⟨_, rfl, ?_⟩
          have n0_ := Aside0.mk (below_step (upB HB.out) hb)
          clear HB
          have HB := n0_
          clear n0_
          (try clear hb)
          (try clear hb2)
          (try clear hk)
          (try clear hi)
          refine hK.out _ _ ⟨(cellB HB.out hw109_0), (cellB HB.out hw109_1), (cellB HB.out hw111_0), (cellB HB.out hw111_1), (cellB HB.out hw112_0), (cellB HB.out hw112_1)⟩ (fun hHeld => ?_)
          clear hK K
          refine normS (some 29) ?_
          refine pureS 20 (some 30) HT_ ?_
          refine pureS 21 (some 31) HT_ ?_
          refine pureS 22 (some 32) HT_ ?_
          refine done_ (done_of HT_.out (by kernel_rfl)) ?_
          try go_wp2
          go_roundg k1
          case measure => have := HK1.out; omega
          case rel => exact ⟨(wrap64 (x3_1 + 1)), eqS, H', ⟨by have := HK1.out; omega⟩, ⟨upB HB.out⟩⟩
        ·rw [if_neg c9] at H
         exact absurd H (by simp)
       ·rw [if_neg c8] at H
        exact absurd H (by simp)
      ·rw [if_neg c6] at H
       have c6b0 := decide_eq_false c6
       clear c6
       have H' := Aside0.mk H
       clear H
       try go_wp2
       have n0_ := Aside0.mk (below_drew1 HB.out)
       clear HB
       have HB := n0_
       clear n0_
       have p109 : 0 ≤ (x3_1 : Int) := of_decide_eq_true byA
       have q109 : x3_1 < (l0.length : Int) := of_decide_eq_true byA
       obtain ⟨ad109, A109_1, c109_1, e109, hx109_0, hx109_1, hl109_1, hi109_1⟩ := at_T90 HR0.out x3_1 p109 q109
       have hw109_1 := hx109_1
       have hw109_0 := hx109_0
       cases e109
       replace hx109_0 := cellB HB.out hx109_0
       replace hx109_1 := cellB HB.out hx109_1
       have HR109_1 := Aside0.mk hi109_1
       have HC109_1 := Aside0.mk hl109_1
       clear hi109_1 hl109_1
       replace p109 := eq_true p109
       replace q109 := eq_true q109
       refine start_ (n := 23) (S := fun w' => w'.cell? (ad109.add ((x3_1).toNat * 2)) = some (.string ((rd_T90 l0 x3_1).f0)) ∧ w'.cell? ⟨(ad109.add ((x3_1).toNat * 2)).block, (ad109.add ((x3_1).toNat * 2)).off + 1, none⟩ = some (.slice A109_1 ((rd_T90 l0 x3_1).f1).length c109_1)) (ds := []) #[false,false,false,false,false,false,false,false,false,false,false,false,false,false,false,false,false,false,false,false,false,false,false] (by kernel_rfl) rfl rfl ⟨(cellB HB.out hw109_0), (cellB HB.out hw109_1)⟩ (fun hHeld => ?_); refine with_tabW pedigreeref29_inOrder.tab4 pedigreeref29_inOrder.bits4 (fun HT_ HW_ => ?_)
       generalize wr.drew = w18 at HB HR109_1 hx109_0 hx109_1 hHeld ⊢
       refine pureS 0 (some 10) HT_ ?_
       refine pureS 1 (some 11) HT_ ?_
       refine pureS 2 (some 12) HT_ ?_
       refine takeS 3 (some 13) HT_ HW_ hHeld ?_
       refine one_ (i := 4) (N := some 14) #[true, true, true, true, true, false,false,false,false,false,false,false,false,false,false,false,false,false,false,false,false,false,false] rfl rfl (one_of HT_.out (by kernel_rfl)) (by decide) (fun K hK => ?_)
       refine goes_ Tryz.func100 (by kernel_rfl) rfl #[.agg #[.string ((rd_T90 l0 x3_1).f0), .slice A109_1 ((rd_T90 l0 x3_1).f1).length c109_1]] (by rfl) rfl rfl (by (try simp only [List.map_toArray, List.map_cons, List.map_nil]); first | done | rfl | (simp only [List.length_drop, List.length_take]; rfl)) ?_
       with_reducible refine (pedigreeref29_mayBe.calls k1 ((rd_T90 l0 x3_1).f0) _ _ ((rd_T90 l0 x3_1).f1) true _ ?side1 ?side2 A4.out).mono ?_
       (case side1 => exact upC (Kd.C_below HR109_1.out HB.out))
       (case side2 => exact HC109_1.out)
       rintro e w19 ⟨rfl, hb⟩
       refine ⟨_, rfl, ?_⟩
       have n0_ := Aside0.mk (below_step (upB HB.out) hb)
       clear HB
       have HB := n0_
       clear n0_
       (try clear hb)
       (try clear hb2)
       (try clear hk)
       (try clear hi)
       refine hK.out _ _ ⟨(cellB HB.out hw109_0), (cellB HB.out hw109_1)⟩ (fun hHeld => ?_)
       clear hK K
       refine normS (some 14) ?_
       refine pureS 5 (some 15) HT_ ?_
       refine pureS 6 (some 16) HT_ ?_
       refine pureS 7 (some 17) HT_ ?_
       refine pureS 8 (some 18) HT_ ?_
       refine pureS 9 (some 19) HT_ ?_
       refine pure_ (i := 10) (N := some 20) (v := undef) (a' := ?_) #[true, true, true, true, true, true, true, true, true, true, true, false,false,false,false,false,false,false,false,false,false,false,false] rfl rfl (any_of HT_.out (by kernel_rfl)) (fun _ _ _ h => h) (Or.inr ⟨by rfl, rfl⟩) ?_ ?_
       rotate_left
       ·simp only [Act.put, List.setIfInBounds_toArray, List.set_cons_zero, List.set_cons_succ, i64_w, i32_w]
        rfl
       refine pure_ (i := 11) (N := some 21) (v := undef) (a' := ?_) #[true, true, true, true, true, true, true, true, true, true, true, true, false,false,false,false,false,false,false,false,false,false,false] rfl rfl (any_of HT_.out (by kernel_rfl)) (fun _ _ _ h => h) (Or.inr ⟨by rfl, rfl⟩) ?_ ?_
       rotate_left
       ·simp only [Act.put, List.setIfInBounds_toArray, List.set_cons_zero, List.set_cons_succ, i64_w, i32_w]
        rfl
       refine pure_ (i := 12) (N := some 22) (v := undef) (a' := ?_) #[true, true, true, true, true, true, true, true, true, true, true, true, true, false,false,false,false,false,false,false,false,false,false] rfl rfl (any_of HT_.out (by kernel_rfl)) (fun _ _ _ h => h) (Or.inr ⟨by rfl, rfl⟩) ?_ ?_
       rotate_left
       ·simp only [Act.put, List.setIfInBounds_toArray, List.set_cons_zero, List.set_cons_succ, i64_w, i32_w]
        rfl
       refine pure_ (i := 13) (N := some 23) (v := undef) (a' := ?_) #[true, true, true, true, true, true, true, true, true, true, true, true, true, true, false,false,false,false,false,false,false,false,false] rfl rfl (any_of HT_.out (by kernel_rfl)) (fun _ _ _ h => h) (Or.inr ⟨by rfl, rfl⟩) ?_ ?_
       rotate_left
       ·simp only [Act.put, List.setIfInBounds_toArray, List.set_cons_zero, List.set_cons_succ, i64_w, i32_w]
        rfl
       refine pure_ (i := 14) (N := some 24) (v := undef) (a' := ?_) #[true, true, true, true, true, true, true, true, true, true, true, true, true, true, true, false,false,false,false,false,false,false,false] rfl rfl (any_of HT_.out (by kernel_rfl)) (fun _ _ _ h => h) (Or.inr ⟨by rfl, rfl⟩) ?_ ?_
       rotate_left
       ·simp only [Act.put, List.setIfInBounds_toArray, List.set_cons_zero, List.set_cons_succ, i64_w, i32_w]
        rfl
       refine pure_ (i := 15) (N := some 25) (v := undef) (a' := ?_) #[true, true, true, true, true, true, true, true, true, true, true, true, true, true, true, true, false,false,false,false,false,false,false] rfl rfl (any_of HT_.out (by kernel_rfl)) (fun _ _ _ h => h) (Or.inr ⟨by rfl, rfl⟩) ?_ ?_
       rotate_left
       ·simp only [Act.put, List.setIfInBounds_toArray, List.set_cons_zero, List.set_cons_succ, i64_w, i32_w]
        rfl
       refine pure_ (i := 16) (N := some 26) (v := undef) (a' := ?_) #[true, true, true, true, true, true, true, true, true, true, true, true, true, true, true, true, true, false,false,false,false,false,false] rfl rfl (any_of HT_.out (by kernel_rfl)) (fun _ _ _ h => h) (Or.inr ⟨by rfl, rfl⟩) ?_ ?_
       rotate_left
       ·simp only [Act.put, List.setIfInBounds_toArray, List.set_cons_zero, List.set_cons_succ, i64_w, i32_w]
        rfl
       refine pure_ (i := 17) (N := some 27) (v := undef) (a' := ?_) #[true, true, true, true, true, true, true, true, true, true, true, true, true, true, true, true, true, true, false,false,false,false,false] rfl rfl (any_of HT_.out (by kernel_rfl)) (fun _ _ _ h => h) (Or.inr ⟨by rfl, rfl⟩) ?_ ?_
       rotate_left
       ·simp only [Act.put, List.setIfInBounds_toArray, List.set_cons_zero, List.set_cons_succ, i64_w, i32_w]
        rfl
       refine pure_ (i := 18) (N := some 28) (v := undef) (a' := ?_) #[true, true, true, true, true, true, true, true, true, true, true, true, true, true, true, true, true, true, true, false,false,false,false] rfl rfl (any_of HT_.out (by kernel_rfl)) (fun _ _ _ h => h) (Or.inr ⟨by rfl, rfl⟩) ?_ ?_
       rotate_left
       ·simp only [Act.put, List.setIfInBounds_toArray, List.set_cons_zero, List.set_cons_succ, i64_w, i32_w]
        rfl
       refine pure_ (i := 19) (N := some 29) (v := undef) (a' := ?_) #[true, true, true, true, true, true, true, true, true, true, true, true, true, true, true, true, true, true, true, true, false,false,false] rfl rfl (any_of HT_.out (by kernel_rfl)) (fun _ _ _ h => h) (Or.inr ⟨by rfl, rfl⟩) ?_ ?_
       rotate_left
       ·simp only [Act.put, List.setIfInBounds_toArray, List.set_cons_zero, List.set_cons_succ, i64_w, i32_w]
        rfl
       refine pure_ (i := 20) (N := some 30) (v := undef) (a' := ?_) #[true, true, true, true, true, true, true, true, true, true, true, true, true, true, true, true, true, true, true, true, true, false,false] rfl rfl (any_of HT_.out (by kernel_rfl)) (fun _ _ _ h => h) (Or.inr ⟨by rfl, rfl⟩) ?_ ?_
       rotate_left
       ·simp only [Act.put, List.setIfInBounds_toArray, List.set_cons_zero, List.set_cons_succ, i64_w, i32_w]
        rfl
       refine pureS 21 (some 31) HT_ ?_
       refine pureS 22 (some 32) HT_ ?_
       refine done_ (done_of HT_.out (by kernel_rfl)) ?_
       try go_wp2
       go_roundg k1
       case measure => have := HK1.out; omega
       case rel => exact ⟨(wrap64 (x3_1 + 1)), eqS, H', ⟨by have := HK1.out; omega⟩, ⟨upB HB.out⟩⟩
     ·replace c5 := Bool.eq_false_iff.mpr c5
      subst c5
      have H1 : (some false) = some r := by rw [if_neg (show ¬ (false = true) by decide)] at H; exact H
      clear H
      have H := H1
      clear H1
      obtain rfl := Option.some.inj H
      try go_wp2
      have n0_ := Aside0.mk (below_drew1 HB.out)
      clear HB
      have HB := n0_
      clear n0_
      have p109 : 0 ≤ (x3_1 : Int) := of_decide_eq_true byA
      have q109 : x3_1 < (l0.length : Int) := of_decide_eq_true byA
      obtain ⟨ad109, A109_1, c109_1, e109, hx109_0, hx109_1, hl109_1, hi109_1⟩ := at_T90 HR0.out x3_1 p109 q109
      have hw109_1 := hx109_1
      have hw109_0 := hx109_0
      cases e109
      replace hx109_0 := cellB HB.out hx109_0
      replace hx109_1 := cellB HB.out hx109_1
      have HR109_1 := Aside0.mk hi109_1
      have HC109_1 := Aside0.mk hl109_1
      clear hi109_1 hl109_1
      replace p109 := eq_true p109
      replace q109 := eq_true q109
      refine start_ (n := 23) (S := fun w' => w'.cell? (ad109.add ((x3_1).toNat * 2)) = some (.string ((rd_T90 l0 x3_1).f0)) ∧ w'.cell? ⟨(ad109.add ((x3_1).toNat * 2)).block, (ad109.add ((x3_1).toNat * 2)).off + 1, none⟩ = some (.slice A109_1 ((rd_T90 l0 x3_1).f1).length c109_1)) (ds := []) #[false,false,false,false,false,false,false,false,false,false,false,false,false,false,false,false,false,false,false,false,false,false,false] (by kernel_rfl) rfl rfl ⟨(cellB HB.out hw109_0), (cellB HB.out hw109_1)⟩ (fun hHeld => ?_); refine with_tabW pedigreeref29_inOrder.tab4 pedigreeref29_inOrder.bits4 (fun HT_ HW_ => ?_)
      generalize wr.drew = w20 at HB HR109_1 hx109_0 hx109_1 hHeld ⊢
      refine pureS 0 (some 10) HT_ ?_
      refine pureS 1 (some 11) HT_ ?_
      refine pureS 2 (some 12) HT_ ?_
      refine takeS 3 (some 13) HT_ HW_ hHeld ?_
      refine one_ (i := 4) (N := some 14) #[true, true, true, true, true, false,false,false,false,false,false,false,false,false,false,false,false,false,false,false,false,false,false] rfl rfl (one_of HT_.out (by kernel_rfl)) (by decide) (fun K hK => ?_)
      refine goes_ Tryz.func100 (by kernel_rfl) rfl #[.agg #[.string ((rd_T90 l0 x3_1).f0), .slice A109_1 ((rd_T90 l0 x3_1).f1).length c109_1]] (by rfl) rfl rfl (by (try simp only [List.map_toArray, List.map_cons, List.map_nil]); first | done | rfl | (simp only [List.length_drop, List.length_take]; rfl)) ?_
      with_reducible refine (pedigreeref29_mayBe.calls k1 ((rd_T90 l0 x3_1).f0) _ _ ((rd_T90 l0 x3_1).f1) false _ ?side1 ?side2 A4.out).mono ?_
      (case side1 => exact upC (Kd.C_below HR109_1.out HB.out))
      (case side2 => exact HC109_1.out)
      rintro e w21 ⟨rfl, hb⟩
      refine ⟨_, rfl, ?_⟩
      have n0_ := Aside0.mk (below_step (upB HB.out) hb)
      clear HB
      have HB := n0_
      clear n0_
      (try clear hb)
      (try clear hb2)
      (try clear hk)
      (try clear hi)
      refine hK.out _ _ ⟨(cellB HB.out hw109_0), (cellB HB.out hw109_1)⟩ (fun hHeld => ?_)
      clear hK K
      refine normS (some 14) ?_
      refine pureS 5 (some 15) HT_ ?_
      refine pureS 6 (some 16) HT_ ?_
      refine pure_ (i := 7) (N := some 17) (v := undef) (a' := ?_) #[true, true, true, true, true, true, true, true, false,false,false,false,false,false,false,false,false,false,false,false,false,false,false] rfl rfl (any_of HT_.out (by kernel_rfl)) (fun _ _ _ h => h) (Or.inr ⟨by rfl, rfl⟩) ?_ ?_
      rotate_left
      ·simp only [Act.put, List.setIfInBounds_toArray, List.set_cons_zero, List.set_cons_succ, i64_w, i32_w]
       rfl
      refine pure_ (i := 8) (N := some 18) (v := undef) (a' := ?_) #[true, true, true, true, true, true, true, true, true, false,false,false,false,false,false,false,false,false,false,false,false,false,false] rfl rfl (any_of HT_.out (by kernel_rfl)) (fun _ _ _ h => h) (Or.inr ⟨by rfl, rfl⟩) ?_ ?_
      rotate_left
      ·simp only [Act.put, List.setIfInBounds_toArray, List.set_cons_zero, List.set_cons_succ, i64_w, i32_w]
       rfl
      refine pure_ (i := 9) (N := some 19) (v := undef) (a' := ?_) #[true, true, true, true, true, true, true, true, true, true, false,false,false,false,false,false,false,false,false,false,false,false,false] rfl rfl (any_of HT_.out (by kernel_rfl)) (fun _ _ _ h => h) (Or.inr ⟨by rfl, rfl⟩) ?_ ?_
      rotate_left
      ·simp only [Act.put, List.setIfInBounds_toArray, List.set_cons_zero, List.set_cons_succ, i64_w, i32_w]
       rfl
      refine pure_ (i := 10) (N := some 20) (v := undef) (a' := ?_) #[true, true, true, true, true, true, true, true, true, true, true, false,false,false,false,false,false,false,false,false,false,false,false] rfl rfl (any_of HT_.out (by kernel_rfl)) (fun _ _ _ h => h) (Or.inr ⟨by rfl, rfl⟩) ?_ ?_
      rotate_left
      ·simp only [Act.put, List.setIfInBounds_toArray, List.set_cons_zero, List.set_cons_succ, i64_w, i32_w]
       rfl
      refine pure_ (i := 11) (N := some 21) (v := undef) (a' := ?_) #[true, true, true, true, true, true, true, true, true, true, true, true, false,false,false,false,false,false,false,false,false,false,false] rfl rfl (any_of HT_.out (by kernel_rfl)) (fun _ _ _ h => h) (Or.inr ⟨by rfl, rfl⟩) ?_ ?_
      rotate_left
      ·simp only [Act.put, List.setIfInBounds_toArray, List.set_cons_zero, List.set_cons_succ, i64_w, i32_w]
       rfl
      refine pure_ (i := 12) (N := some 22) (v := undef) (a' := ?_) #[true, true, true, true, true, true, true, true, true, true, true, true, true, false,false,false,false,false,false,false,false,false,false] rfl rfl (any_of HT_.out (by kernel_rfl)) (fun _ _ _ h => h) (Or.inr ⟨by rfl, rfl⟩) ?_ ?_
      rotate_left
      ·simp only [Act.put, List.setIfInBounds_toArray, List.set_cons_zero, List.set_cons_succ, i64_w, i32_w]
       rfl
      refine pure_ (i := 13) (N := some 23) (v := undef) (a' := ?_) #[true, true, true, true, true, true, true, true, true, true, true, true, true, true, false,false,false,false,false,false,false,false,false] rfl rfl (any_of HT_.out (by kernel_rfl)) (fun _ _ _ h => h) (Or.inr ⟨by rfl, rfl⟩) ?_ ?_
      rotate_left
      ·simp only [Act.put, List.setIfInBounds_toArray, List.set_cons_zero, List.set_cons_succ, i64_w, i32_w]
       rfl
      refine pure_ (i := 14) (N := some 24) (v := undef) (a' := ?_) #[true, true, true, true, true, true, true, true, true, true, true, true, true, true, true, false,false,false,false,false,false,false,false] rfl rfl (any_of HT_.out (by kernel_rfl)) (fun _ _ _ h => h) (Or.inr ⟨by rfl, rfl⟩) ?_ ?_
      rotate_left
      ·simp only [Act.put, List.setIfInBounds_toArray, List.set_cons_zero, List.set_cons_succ, i64_w, i32_w]
       rfl
      refine pure_ (i := 15) (N := some 25) (v := undef) (a' := ?_) #[true, true, true, true, true, true, true, true, true, true, true, true, true, true, true, true, false,false,false,false,false,false,false] rfl rfl (any_of HT_.out (by kernel_rfl)) (fun _ _ _ h => h) (Or.inr ⟨by rfl, rfl⟩) ?_ ?_
      rotate_left
      ·simp only [Act.put, List.setIfInBounds_toArray, List.set_cons_zero, List.set_cons_succ, i64_w, i32_w]
       rfl
      refine pure_ (i := 16) (N := some 26) (v := undef) (a' := ?_) #[true, true, true, true, true, true, true, true, true, true, true, true, true, true, true, true, true, false,false,false,false,false,false] rfl rfl (any_of HT_.out (by kernel_rfl)) (fun _ _ _ h => h) (Or.inr ⟨by rfl, rfl⟩) ?_ ?_
      rotate_left
      ·simp only [Act.put, List.setIfInBounds_toArray, List.set_cons_zero, List.set_cons_succ, i64_w, i32_w]
       rfl
      refine pure_ (i := 17) (N := some 27) (v := undef) (a' := ?_) #[true, true, true, true, true, true, true, true, true, true, true, true, true, true, true, true, true, true, false,false,false,false,false] rfl rfl (any_of HT_.out (by kernel_rfl)) (fun _ _ _ h => h) (Or.inr ⟨by rfl, rfl⟩) ?_ ?_
      rotate_left
      ·simp only [Act.put, List.setIfInBounds_toArray, List.set_cons_zero, List.set_cons_succ, i64_w, i32_w]
       rfl
      refine pure_ (i := 18) (N := some 28) (v := undef) (a' := ?_) #[true, true, true, true, true, true, true, true, true, true, true, true, true, true, true, true, true, true, true, false,false,false,false] rfl rfl (any_of HT_.out (by kernel_rfl)) (fun _ _ _ h => h) (Or.inr ⟨by rfl, rfl⟩) ?_ ?_
      rotate_left
      ·simp only [Act.put, List.setIfInBounds_toArray, List.set_cons_zero, List.set_cons_succ, i64_w, i32_w]
       rfl
      refine pure_ (i := 19) (N := some 29) (v := undef) (a' := ?_) #[true, true, true, true, true, true, true, true, true, true, true, true, true, true, true, true, true, true, true, true, false,false,false] rfl rfl (any_of HT_.out (by kernel_rfl)) (fun _ _ _ h => h) (Or.inr ⟨by rfl, rfl⟩) ?_ ?_
      rotate_left
      ·simp only [Act.put, List.setIfInBounds_toArray, List.set_cons_zero, List.set_cons_succ, i64_w, i32_w]
       rfl
      refine pure_ (i := 20) (N := some 30) (v := undef) (a' := ?_) #[true, true, true, true, true, true, true, true, true, true, true, true, true, true, true, true, true, true, true, true, true, false,false] rfl rfl (any_of HT_.out (by kernel_rfl)) (fun _ _ _ h => h) (Or.inr ⟨by rfl, rfl⟩) ?_ ?_
      rotate_left
      ·simp only [Act.put, List.setIfInBounds_toArray, List.set_cons_zero, List.set_cons_succ, i64_w, i32_w]
       rfl
      refine pure_ (i := 21) (N := some 31) (v := undef) (a' := ?_) #[true, true, true, true, true, true, true, true, true, true, true, true, true, true, true, true, true, true, true, true, true, true, false] rfl rfl (any_of HT_.out (by kernel_rfl)) (fun _ _ _ h => h) (Or.inr ⟨by rfl, rfl⟩) ?_ ?_
      rotate_left
      ·simp only [Act.put, List.setIfInBounds_toArray, List.set_cons_zero, List.set_cons_succ, i64_w, i32_w]
       rfl
      refine pureS 22 (some 32) HT_ ?_
      refine done_ (done_of HT_.out (by kernel_rfl)) ?_
      try go_wp2
      go_ret
      exact ⟨eqE, upB HB.out⟩
    ·rw [if_neg c3] at H
     exact absurd H (by simp)
   ·rw [if_neg c2] at H
    have c2b0 := decide_eq_false c2
    clear c2
    obtain rfl := Option.some.inj H
    go_wp2
    go_ret
    exact ⟨eqE, upB HB.out⟩
end Go.Proofs.J.Print
end
section
namespace Go.Proofs.J.Print
open Go.RowKit Go.Proofs.PrintWords Go.Proofs.PrintLast Go.Proofs.PrintMore
mutual
def pedigreeref29_Good.j0 : Nat → Bool → Int → List (S90) → List (S90) → Option (Bool)
 | 0, _, _, _, _ => none
 | k + 1, x18, x105000, x105001, x105002 => if x18 = true then (some false) else (pedigreeref29_Good.l0 k 0 x105000 x105001 x105002)
def pedigreeref29_Good.l0 : Nat → Int → Int → List (S90) → List (S90) → Option (Bool)
 | 0, _, _, _, _ => none
 | k + 1, x3, x105000, x105001, x105002 => if x3 < (x105001.length : Int) then (if 0 ≤ x3 then ((pedigreeref29_Stands.f k x105002 ((rd_T90 x105001 x3).f0) ((rd_T90 x105001 x3).f1)).bind fun t108 => (if t108 = true then (some false) else (pedigreeref29_Good.l0 k (wrap64 (x3 + 1)) x105000 x105001 x105002))) else (none)) else (some true)
end
def pedigreeref29_Good.f (k : Nat) (a0_0 : Int) (l0_1 : List (S90)) (l0_2 : List (S90)) : Option (Bool) := if a0_0 < 1 then (pedigreeref29_Good.j0 k true a0_0 l0_1 l0_2) else ((pedigreeref29_inOrder.f k l0_1).bind fun t105 => (if t105 = true then ((pedigreeref29_inOrder.f k l0_2).bind fun t106 => (pedigreeref29_Good.j0 k (!t106) a0_0 l0_1 l0_2)) else (pedigreeref29_Good.j0 k true a0_0 l0_1 l0_2)))
def pedigreeref29_Good.T6 : Bool × List (List Nat × List Nat) := (true, [([], []), ([0], [0]), ([], []), ([2], [2]), ([], []), ([3, 4], [3, 4]), ([5], [5]), ([1, 6], [1, 6])])
def pedigreeref29_Good.B6 : List Nat := [0, 1, 0, 4, 0, 28, 60, 127]
theorem pedigreeref29_Good.tab6 : rtab .any (opsOf Tryz.f15 6) = pedigreeref29_Good.T6 := by kernel_rfl
theorem pedigreeref29_Good.bits6 : waitsOk pedigreeref29_Good.T6.2 pedigreeref29_Good.B6 = true := by kernel_rfl
set_option maxHeartbeats 8000000 in
set_option maxRecDepth 100000 in
theorem pedigreeref29_Good.calls (k : Nat) (a0_0 : Int) (A0_1 : Option Addr) (c0_1 : Nat) (l0_1 : List (S90)) (A0_2 : Option Addr) (c0_2 : Nat) (l0_2 : List (S90)) (r : Bool) (w : World) (hr0_1 : Kd.C k90 w A0_1 l0_1.length l0_1) (hc0_1 : l0_1.length ≤ c0_1) (hr0_2 : Kd.C k90 w A0_2 l0_2.length l0_2) (hc0_2 : l0_2.length ≤ c0_2) (h : pedigreeref29_Good.f k a0_0 l0_1 l0_2 = some r) :
  Calls Tryz.prog 15 #[.agg #[.int .i64 a0_0, .slice A0_1 l0_1.length c0_1, .slice A0_2 l0_2.length c0_2]] w fun e w' => e = .returned (.bool r) ∧ Below w.heap.size w w' := by
 have hu24 := Tryz.underlying24
 have hu90 := Tryz.underlying90
 have HR0_1 := Aside0.mk hr0_1
 have HC0_1 := Aside0.mk hc0_1
 clear hr0_1 hc0_1
 have HR0_2 := Aside0.mk hr0_2
 have HC0_2 := Aside0.mk hc0_2
 clear hr0_2 hc0_2
 have HB := Aside0.mk (Below.refl w.heap.size w)
 have H : (if a0_0 < 1 then (pedigreeref29_Good.j0 k true a0_0 l0_1 l0_2) else ((pedigreeref29_inOrder.f k l0_1).bind fun t105 => (if t105 = true then ((pedigreeref29_inOrder.f k l0_2).bind fun t106 => (pedigreeref29_Good.j0 k (!t106) a0_0 l0_1 l0_2)) else (pedigreeref29_Good.j0 k true a0_0 l0_1 l0_2)))) = some r := h
 clear h
 have HC2 := Aside0.mk H
 clear H
 go_enter Tryz.func15, Tryz.ntmps15
 go_upto_region 1 with (first | ((with_reducible refine gate_dst (N := 1) rfl ?_); refine boxS 1 #[.int .i64 a0_0, .slice A0_1 l0_1.length c0_1, .slice A0_2 l0_2.length c0_2] 24 ?_; intro gb104 hg w3 hbox hb; have n0_ := Aside0.mk (below_step (upB HB.out) hb); have n1_ := Aside0.mk (hbox); have n2_ := Aside0.mk (geB hg (upB HB.out) : w.heap.size ≤ gb104); have n3_ := Aside0.mk (geB hg (upB HB.out) : w.heap.size ≤ gb104); clear HB; have HB := n0_; have BK104 := n1_; have GW104 := n2_; have GE104 := n3_; clear n0_ n1_ n2_ n3_; clear hb hbox hg))
 (try simp only [Act.put, List.setIfInBounds_toArray, List.set_cons_zero, List.set_cons_succ])
 go_cut [18] (fun v18 wc => ∃ (kq : Nat) (x18_1 : Bool), v18 = .bool x18_1 ∧ Aside0 (pedigreeref29_Good.j0 kq x18_1 a0_0 l0_1 l0_2 = some r) ∧ Aside0 (kq ≤ k) ∧ Aside0 (wc.heap[gb104]? = some (.cells #[.int .i64 a0_0, (.slice A0_1 l0_1.length c0_1), (.slice A0_2 l0_2.length c0_2)] 24 (0, 0))) ∧ Aside0 (Below w.heap.size w wc))
 case first =>
  have H := HC2.out
  clear HC2
  by_cases c4 : a0_0 < 1
  ·rw [if_pos c4] at H
   have c4b0 := decide_eq_true c4
   clear c4
   (first | rw [c4b0] | (simp only [i64_w, i32_w]; rw [c4b0]) | skip)
   have H' := Aside0.mk H
   clear H
   have hcz5_0 : w3.cell? ⟨gb104, 0, none⟩ = some (.int .i64 a0_0) := (blk_cell BK104.out 0).trans rfl
   have hcz5_1 : w3.cell? ⟨gb104, 1, none⟩ = some (.slice A0_1 l0_1.length c0_1) := (blk_cell BK104.out 1).trans rfl
   have hcz5_2 : w3.cell? ⟨gb104, 2, none⟩ = some (.slice A0_2 l0_2.length c0_2) := (blk_cell BK104.out 2).trans rfl
   have hfz5_0 := blk_frozen BK104.out 0
   have hfz5_1 := blk_frozen BK104.out 1
   have hfz5_2 := blk_frozen BK104.out 2
   go_wp2
   go_meet
   case rel => exact ⟨_, (true), eqS, H', ⟨by first | omega | exact Nat.le_refl _⟩, ⟨upO BK104.out⟩, ⟨upB HB.out⟩⟩
  ·rw [if_neg c4] at H
   have c4b0 := decide_eq_false c4
   clear c4
   (first | rw [c4b0] | (simp only [i64_w, i32_w]; rw [c4b0]) | skip)
   replace H := Option.bind_eq_some_iff.mp H
   obtain ⟨t105, A60, H⟩ := H
   replace H : (if t105 = true then ((pedigreeref29_inOrder.f k l0_2).bind fun t106 => (pedigreeref29_Good.j0 k (!t106) a0_0 l0_1 l0_2)) else (pedigreeref29_Good.j0 k true a0_0 l0_1 l0_2)) = some r := H
   have A6 := Aside0.mk A60
   clear A60
   by_cases c7 : t105 = true
   ·subst c7
    have H1 : ((pedigreeref29_inOrder.f k l0_2).bind fun t106 => (pedigreeref29_Good.j0 k (!t106) a0_0 l0_1 l0_2)) = some r := by rw [if_pos rfl] at H; exact H
    clear H
    have H := H1
    clear H1
    replace H := Option.bind_eq_some_iff.mp H
    obtain ⟨t106, A80, H⟩ := H
    replace H : (pedigreeref29_Good.j0 k (!t106) a0_0 l0_1 l0_2) = some r := H
    have A8 := Aside0.mk A80
    clear A80
    have H' := Aside0.mk H
    clear H
    have hcz9_0 : w3.cell? ⟨gb104, 0, none⟩ = some (.int .i64 a0_0) := (blk_cell BK104.out 0).trans rfl
    have hcz9_1 : w3.cell? ⟨gb104, 1, none⟩ = some (.slice A0_1 l0_1.length c0_1) := (blk_cell BK104.out 1).trans rfl
    have hcz9_2 : w3.cell? ⟨gb104, 2, none⟩ = some (.slice A0_2 l0_2.length c0_2) := (blk_cell BK104.out 2).trans rfl
    have hfz9_0 := blk_frozen BK104.out 0
    have hfz9_1 := blk_frozen BK104.out 1
    have hfz9_2 := blk_frozen BK104.out 2
    go_wp2_with (first | (go_at_call 40; (with_reducible refine (pedigreeref29_inOrder.calls k _ _ l0_1 true _ ?side1 ?side2 A6.out).mono ?_); (case side1 => exact upC (Kd.C_below HR0_1.out HB.out)); (case side2 => exact HC0_1.out); rintro e w10 ⟨rfl, hb⟩; have n0_ := Aside0.mk (blk_below (g := gb104) (o := .cells #[.int .i64 a0_0, .slice A0_1 l0_1.length c0_1, .slice A0_2 l0_2.length c0_2] 24 (0, 0)) (upO BK104.out) hb); have n1_ := Aside0.mk (below_step (upB HB.out) hb); clear BK104; clear HB; have BK104 := n0_; have HB := n1_; clear n0_ n1_; (try clear hb); (try clear hb2); (try clear hk); (try clear hi); have hcz11_0 : w10.cell? ⟨gb104, 0, none⟩ = some (.int .i64 a0_0) := (blk_cell BK104.out 0).trans rfl; have hcz11_1 : w10.cell? ⟨gb104, 1, none⟩ = some (.slice A0_1 l0_1.length c0_1) := (blk_cell BK104.out 1).trans rfl; have hcz11_2 : w10.cell? ⟨gb104, 2, none⟩ = some (.slice A0_2 l0_2.length c0_2) := (blk_cell BK104.out 2).trans rfl; have hfz11_0 := blk_frozen BK104.out 0; have hfz11_1 := blk_frozen BK104.out 1; have hfz11_2 := blk_frozen BK104.out 2) | (go_at_call 40; (with_reducible refine (pedigreeref29_inOrder.calls k _ _ l0_2 t106 _ ?side1 ?side2 A8.out).mono ?_); (case side1 => exact upC (Kd.C_below HR0_2.out HB.out)); (case side2 => exact HC0_2.out); rintro e w12 ⟨rfl, hb⟩; have n0_ := Aside0.mk (blk_below (g := gb104) (o := .cells #[.int .i64 a0_0, .slice A0_1 l0_1.length c0_1, .slice A0_2 l0_2.length c0_2] 24 (0, 0)) (upO BK104.out) hb); have n1_ := Aside0.mk (below_step (upB HB.out) hb); clear BK104; clear HB; have BK104 := n0_; have HB := n1_; clear n0_ n1_; (try clear hb); (try clear hb2); (try clear hk); (try clear hi)))
    go_meet
    case rel => exact ⟨_, (!t106), eqS, H', ⟨by first | omega | exact Nat.le_refl _⟩, ⟨upO BK104.out⟩, ⟨upB HB.out⟩⟩
   ·replace c7 := Bool.eq_false_iff.mpr c7
    subst c7
    have H1 : (pedigreeref29_Good.j0 k true a0_0 l0_1 l0_2) = some r := by rw [if_neg (show ¬ (false = true) by decide)] at H; exact H
    clear H
    have H := H1
    clear H1
    have H' := Aside0.mk H
    clear H
    have hcz13_0 : w3.cell? ⟨gb104, 0, none⟩ = some (.int .i64 a0_0) := (blk_cell BK104.out 0).trans rfl
    have hcz13_1 : w3.cell? ⟨gb104, 1, none⟩ = some (.slice A0_1 l0_1.length c0_1) := (blk_cell BK104.out 1).trans rfl
    have hcz13_2 : w3.cell? ⟨gb104, 2, none⟩ = some (.slice A0_2 l0_2.length c0_2) := (blk_cell BK104.out 2).trans rfl
    have hfz13_0 := blk_frozen BK104.out 0
    have hfz13_1 := blk_frozen BK104.out 1
    have hfz13_2 := blk_frozen BK104.out 2
    go_wp2_with (first | (go_at_call 40; (with_reducible refine (pedigreeref29_inOrder.calls k _ _ l0_1 false _ ?side1 ?side2 A6.out).mono ?_); (case side1 => exact upC (Kd.C_below HR0_1.out HB.out)); (case side2 => exact HC0_1.out); rintro e w14 ⟨rfl, hb⟩; have n0_ := Aside0.mk (blk_below (g := gb104) (o := .cells #[.int .i64 a0_0, .slice A0_1 l0_1.length c0_1, .slice A0_2 l0_2.length c0_2] 24 (0, 0)) (upO BK104.out) hb); have n1_ := Aside0.mk (below_step (upB HB.out) hb); clear BK104; clear HB; have BK104 := n0_; have HB := n1_; clear n0_ n1_; (try clear hb); (try clear hb2); (try clear hk); (try clear hi)))
    go_meet
    case rel => exact ⟨_, (true), eqS, H', ⟨by first | omega | exact Nat.le_refl _⟩, ⟨upO BK104.out⟩, ⟨upB HB.out⟩⟩
 case rest =>
  clear HC2
  try clear c1
  try clear p2
  try clear c4
  try clear c4b0
  try clear c7
  try clear hcz11_0
  try clear hcz11_1
  try clear hcz11_2
  try clear hcz13_0
  try clear hcz13_1
  try clear hcz13_2
  try clear hcz5_0
  try clear hcz5_1
  try clear hcz5_2
  try clear hcz9_0
  try clear hcz9_1
  try clear hcz9_2
  try clear hfz11_0
  try clear hfz11_1
  try clear hfz11_2
  try clear hfz13_0
  try clear hfz13_1
  try clear hfz13_2
  try clear hfz5_0
  try clear hfz5_1
  try clear hfz5_2
  try clear hfz9_0
  try clear hfz9_1
  try clear hfz9_2
  obtain ⟨kq, x18_1, rfl, HA, HJ1, BK104, HB⟩ := hcut
  cases kq with
  | zero => exact absurd HA.out (by simp [pedigreeref29_Good.j0])
  | succ kj1 =>
   have H := HA.out
   clear HA
   simp only [pedigreeref29_Good.j0] at H
   by_cases c15 : x18_1 = true
   ·subst c15
    have H1 : (some false) = some r := by rw [if_pos rfl] at H; exact H
    clear H
    have H := H1
    clear H1
    obtain rfl := Option.some.inj H
    go_wp2
    go_ret
    exact ⟨eqE, upB HB.out⟩
   ·replace c15 := Bool.eq_false_iff.mpr c15
    subst c15
    have H1 : (pedigreeref29_Good.l0 kj1 0 a0_0 l0_1 l0_2) = some r := by rw [if_neg (show ¬ (false = true) by decide)] at H; exact H
    clear H
    have H := H1
    clear H1
    have H' := Aside0.mk H
    clear H
    go_wp2
    go_loopg [3] kj1 (fun kq v3 w' => ∃ (x3_2 : Int), v3 = .int .i64 x3_2 ∧ Aside0 (pedigreeref29_Good.l0 kq x3_2 a0_0 l0_1 l0_2 = some r) ∧ Aside0 (kq ≤ kj1) ∧ Aside0 (w'.heap[gb104]? = some (.cells #[.int .i64 a0_0, (.slice A0_1 l0_1.length c0_1), (.slice A0_2 l0_2.length c0_2)] 24 (0, 0))) ∧ Aside0 (Below w.heap.size w w'))
    case atStart => exact ⟨(0), eqS, H', ⟨Nat.le_refl _⟩, ⟨upO BK104.out⟩, ⟨upB HB.out⟩⟩
    case round =>
     clear H'
     try clear c1
     try clear p2
     try clear c4
     try clear c4b0
     try clear c7
     try clear c15
     try clear hcz11_0
     try clear hcz11_1
     try clear hcz11_2
     try clear hcz13_0
     try clear hcz13_1
     try clear hcz13_2
     try clear hcz5_0
     try clear hcz5_1
     try clear hcz5_2
     try clear hcz9_0
     try clear hcz9_1
     try clear hcz9_2
     try clear hfz11_0
     try clear hfz11_1
     try clear hfz11_2
     try clear hfz13_0
     try clear hfz13_1
     try clear hfz13_2
     try clear hfz5_0
     try clear hfz5_1
     try clear hfz5_2
     try clear hfz9_0
     try clear hfz9_1
     try clear hfz9_2
     try clear p2
     obtain ⟨x3_2, rfl, HA, HK2, BK104, HB⟩ := hrel
     cases gk with
     | zero => exact absurd HA.out (by simp [pedigreeref29_Good.l0])
     | succ k2 =>
      have H := HA.out
      clear HA
      simp only [pedigreeref29_Good.l0] at H
      by_cases c16 : x3_2 < (l0_1.length : Int)
      ·rw [if_pos c16] at H
       have c16b0 := decide_eq_true c16
       clear c16
       by_cases c17 : 0 ≤ x3_2
       ·rw [if_pos c17] at H
        have c17b0 := decide_eq_true c17
        clear c17
        replace H := Option.bind_eq_some_iff.mp H
        obtain ⟨t108, A180, H⟩ := H
        replace H : (if t108 = true then (some false) else (pedigreeref29_Good.l0 k2 (wrap64 (x3_2 + 1)) a0_0 l0_1 l0_2)) = some r := H
        have A18 := Aside0.mk A180
        clear A180
        by_cases c19 : t108 = true
        ·subst c19
         have H1 : (some false) = some r := by rw [if_pos rfl] at H; exact H
         clear H
         have H := H1
         clear H1
         obtain rfl := Option.some.inj H
         have hcz20_0 : wr.cell? ⟨gb104, 0, none⟩ = some (.int .i64 a0_0) := (blk_cell BK104.out 0).trans rfl
         have hcz20_1 : wr.cell? ⟨gb104, 1, none⟩ = some (.slice A0_1 l0_1.length c0_1) := (blk_cell BK104.out 1).trans rfl
         have hcz20_2 : wr.cell? ⟨gb104, 2, none⟩ = some (.slice A0_2 l0_2.length c0_2) := (blk_cell BK104.out 2).trans rfl
         have hfz20_0 := blk_frozen BK104.out 0
         have hfz20_1 := blk_frozen BK104.out 1
         have hfz20_2 := blk_frozen BK104.out 2
         try go_wp2
         have n0_ := Aside0.mk (blk_drew BK104.out)
         have n1_ := Aside0.mk (below_drew1 HB.out)
         clear BK104
         clear HB
         have BK104 := n0_
         have HB := n1_
         clear n0_ n1_
         have p107 : 0 ≤ (x3_2 : Int) := of_decide_eq_true byA
         have q107 : x3_2 < (l0_1.length : Int) := of_decide_eq_true byA
         obtain ⟨ad107, A107_1, c107_1, e107, hx107_0, hx107_1, hl107_1, hi107_1⟩ := at_T90 HR0_1.out x3_2 p107 q107
         have hw107_1 := hx107_1
         have hw107_0 := hx107_0
         cases e107
         replace hx107_0 := cellB HB.out hx107_0
         replace hx107_1 := cellB HB.out hx107_1
         have HR107_1 := Aside0.mk hi107_1
         have HC107_1 := Aside0.mk hl107_1
         clear hi107_1 hl107_1
         replace p107 := eq_true p107
         replace q107 := eq_true q107
         refine start_ (n := 8) (S := fun w' => w'.cell? ⟨gb104, 0, none⟩ = some (.int .i64 a0_0) ∧ w'.cell? ⟨gb104, 1, none⟩ = some (.slice (some ad107) l0_1.length c0_1) ∧ w'.cell? ⟨gb104, 2, none⟩ = some (.slice A0_2 l0_2.length c0_2) ∧ w'.cell? (ad107.add ((x3_2).toNat * 2)) = some (.string ((rd_T90 l0_1 x3_2).f0)) ∧ w'.cell? ⟨(ad107.add ((x3_2).toNat * 2)).block, (ad107.add ((x3_2).toNat * 2)).off + 1, none⟩ = some (.slice A107_1 ((rd_T90 l0_1 x3_2).f1).length c107_1)) (ds := []) #[false,false,false,false,false,false,false,false] (by kernel_rfl) rfl rfl ⟨(blk_cell BK104.out 0).trans rfl, (blk_cell BK104.out 1).trans rfl, (blk_cell BK104.out 2).trans rfl, (cellB HB.out hw107_0), (cellB HB.out hw107_1)⟩ (fun hHeld => ?_); refine with_tabW pedigreeref29_Good.tab6 pedigreeref29_Good.bits6 (fun HT_ HW_ => ?_)
         generalize wr.drew = w21 at BK104 HB HR107_1 hx107_0 hx107_1 hHeld ⊢
         refine pureS 0 (some 26) HT_ ?_
         refine pureS 2 (some 28) HT_ ?_
         refine pureS 4 (some 30) HT_ ?_
         refine takeS 1 (some 27) HT_ HW_ hHeld ?_
         refine takeS 3 (some 29) HT_ HW_ hHeld ?_
         refine pureS 5 (some 31) HT_ ?_
         refine takeS 6 (some 32) HT_ HW_ hHeld ?_
         refine one_ (i := 7) (N := some 33) #[true, true, true, true, true, true, true, true] rfl rfl (one_of HT_.out (by kernel_rfl)) (by decide) (fun K hK => ?_)
         refine goes_ Tryz.func41 (by kernel_rfl) rfl #[.slice A0_2 l0_2.length c0_2, .agg #[.string ((rd_T90 l0_1 x3_2).f0), .slice A107_1 ((rd_T90 l0_1 x3_2).f1).length c107_1]] (by rfl) rfl rfl (by (try simp only [List.map_toArray, List.map_cons, List.map_nil]); first | done | rfl | (simp only [List.length_drop, List.length_take]; rfl)) ?_
         with_reducible refine (pedigreeref29_Stands.calls k2 _ _ l0_2 ((rd_T90 l0_1 x3_2).f0) _ _ ((rd_T90 l0_1 x3_2).f1) true _ ?side1 ?side2 ?side3 ?side4 A18.out).mono ?_
         (case side1 => exact upC (Kd.C_below HR0_2.out HB.out))
         (case side2 => exact HC0_2.out)
         (case side3 => exact upC (Kd.C_below HR107_1.out HB.out))
         (case side4 => exact HC107_1.out)
         rintro e w22 ⟨rfl, hb⟩
         refine ⟨_, rfl, ?_⟩
         have n0_ := Aside0.mk (blk_below (g := gb104) (o := .cells #[.int .i64 a0_0, .slice (some ad107) l0_1.length c0_1, .slice A0_2 l0_2.length c0_2] 24 (0, 0)) (upO BK104.out) hb)
         have n1_ := Aside0.mk (below_step (upB HB.out) hb)
         clear BK104
         clear HB
         have BK104 := n0_
         have HB := n1_
         clear n0_ n1_
         (try clear hb)
         (try clear hb2)
         (try clear hk)
         (try clear hi)
         refine hK.out _ _ ⟨(blk_cell BK104.out 0).trans rfl, (blk_cell BK104.out 1).trans rfl, (blk_cell BK104.out 2).trans rfl, (cellB HB.out hw107_0), (cellB HB.out hw107_1)⟩ (fun hHeld => ?_)
         clear hK K
         refine normS (some 33) ?_
         refine done_ (done_of HT_.out (by kernel_rfl)) ?_
         try go_wp2
         go_ret
         exact ⟨eqE, upB HB.out⟩
        ·replace c19 := Bool.eq_false_iff.mpr c19
         subst c19
         have H1 : (pedigreeref29_Good.l0 k2 (wrap64 (x3_2 + 1)) a0_0 l0_1 l0_2) = some r := by rw [if_neg (show ¬ (false = true) by decide)] at H; exact H
         clear H
         have H := H1
         clear H1
         have H' := Aside0.mk H
         clear H
         have hcz23_0 : wr.cell? ⟨gb104, 0, none⟩ = some (.int .i64 a0_0) := (blk_cell BK104.out 0).trans rfl
         have hcz23_1 : wr.cell? ⟨gb104, 1, none⟩ = some (.slice A0_1 l0_1.length c0_1) := (blk_cell BK104.out 1).trans rfl
         have hcz23_2 : wr.cell? ⟨gb104, 2, none⟩ = some (.slice A0_2 l0_2.length c0_2) := (blk_cell BK104.out 2).trans rfl
         have hfz23_0 := blk_frozen BK104.out 0
         have hfz23_1 := blk_frozen BK104.out 1
         have hfz23_2 := blk_frozen BK104.out 2
         try go_wp2
         have n0_ := Aside0.mk (blk_drew BK104.out)
         have n1_ := Aside0.mk (below_drew1 HB.out)
         clear BK104
         clear HB
         have BK104 := n0_
         have HB := n1_
         clear n0_ n1_
         have p107 : 0 ≤ (x3_2 : Int) := of_decide_eq_true byA
         have q107 : x3_2 < (l0_1.length : Int) := of_decide_eq_true byA
         obtain ⟨ad107, A107_1, c107_1, e107, hx107_0, hx107_1, hl107_1, hi107_1⟩ := at_T90 HR0_1.out x3_2 p107 q107
         have hw107_1 := hx107_1
         have hw107_0 := hx107_0
         cases e107
         replace hx107_0 := cellB HB.out hx107_0
         replace hx107_1 := cellB HB.out hx107_1
         have HR107_1 := Aside0.mk hi107_1
         have HC107_1 := Aside0.mk hl107_1
         clear hi107_1 hl107_1
         replace p107 := eq_true p107
         replace q107 := eq_true q107
         refine start_ (n := 8) (S := fun w' => w'.cell? ⟨gb104, 0, none⟩ = some (.int .i64 a0_0) ∧ w'.cell? ⟨gb104, 1, none⟩ = some (.slice (some ad107) l0_1.length c0_1) ∧ w'.cell? ⟨gb104, 2, none⟩ = some (.slice A0_2 l0_2.length c0_2) ∧ w'.cell? (ad107.add ((x3_2).toNat * 2)) = some (.string ((rd_T90 l0_1 x3_2).f0)) ∧ w'.cell? ⟨(ad107.add ((x3_2).toNat * 2)).block, (ad107.add ((x3_2).toNat * 2)).off + 1, none⟩ = some (.slice A107_1 ((rd_T90 l0_1 x3_2).f1).length c107_1)) (ds := []) #[false,false,false,false,false,false,false,false] (by kernel_rfl) rfl rfl ⟨(blk_cell BK104.out 0).trans rfl, (blk_cell BK104.out 1).trans rfl, (blk_cell BK104.out 2).trans rfl, (cellB HB.out hw107_0), (cellB HB.out hw107_1)⟩ (fun hHeld => ?_); refine with_tabW pedigreeref29_Good.tab6 pedigreeref29_Good.bits6 (fun HT_ HW_ => ?_)
         generalize wr.drew = w24 at BK104 HB HR107_1 hx107_0 hx107_1 hHeld ⊢
         refine pureS 0 (some 26) HT_ ?_
         refine pureS 2 (some 28) HT_ ?_
         refine pureS 4 (some 30) HT_ ?_
         refine takeS 1 (some 27) HT_ HW_ hHeld ?_
         refine takeS 3 (some 29) HT_ HW_ hHeld ?_
         refine pureS 5 (some 31) HT_ ?_
         refine takeS 6 (some 32) HT_ HW_ hHeld ?_
         refine one_ (i := 7) (N := some 33) #[true, true, true, true, true, true, true, true] rfl rfl (one_of HT_.out (by kernel_rfl)) (by decide) (fun K hK => ?_)
         refine goes_ Tryz.func41 (by kernel_rfl) rfl #[.slice A0_2 l0_2.length c0_2, .agg #[.string ((rd_T90 l0_1 x3_2).f0), .slice A107_1 ((rd_T90 l0_1 x3_2).f1).length c107_1]] (by rfl) rfl rfl (by (try simp only [List.map_toArray, List.map_cons, List.map_nil]); first | done | rfl | (simp only [List.length_drop, List.length_take]; rfl)) ?_
         with_reducible refine (pedigreeref29_Stands.calls k2 _ _ l0_2 ((rd_T90 l0_1 x3_2).f0) _ _ ((rd_T90 l0_1 x3_2).f1) false _ ?side1 ?side2 ?side3 ?side4 A18.out).mono ?_
         (case side1 => exact upC (Kd.C_below HR0_2.out HB.out))
         (case side2 => exact HC0_2.out)
         (case side3 => exact upC (Kd.C_below HR107_1.out HB.out))
         (case side4 => exact HC107_1.out)
         rintro e w25 ⟨rfl, hb⟩
         refine ⟨_, rfl, ?_⟩
         have n0_ := Aside0.mk (blk_below (g := gb104) (o := .cells #[.int .i64 a0_0, .slice (some ad107) l0_1.length c0_1, .slice A0_2 l0_2.length c0_2] 24 (0, 0)) (upO BK104.out) hb)
         have n1_ := Aside0.mk (below_step (upB HB.out) hb)
         clear BK104
         clear HB
         have BK104 := n0_
         have HB := n1_
         clear n0_ n1_
         (try clear hb)
         (try clear hb2)
         (try clear hk)
         (try clear hi)
         refine hK.out _ _ ⟨(blk_cell BK104.out 0).trans rfl, (blk_cell BK104.out 1).trans rfl, (blk_cell BK104.out 2).trans rfl, (cellB HB.out hw107_0), (cellB HB.out hw107_1)⟩ (fun hHeld => ?_)
         clear hK K
         refine normS (some 33) ?_
         refine done_ (done_of HT_.out (by kernel_rfl)) ?_
         try go_wp2
         go_roundg k2
         case measure => have := HJ1.out; have := HK2.out; omega
         case rel => exact ⟨(wrap64 (x3_2 + 1)), eqS, H', ⟨by have := HJ1.out; have := HK2.out; omega⟩, ⟨upO BK104.out⟩, ⟨upB HB.out⟩⟩
       ·rw [if_neg c17] at H
        exact absurd H (by simp)
      ·rw [if_neg c16] at H
       have c16b0 := decide_eq_false c16
       clear c16
       obtain rfl := Option.some.inj H
       have hcz26_0 : wr.cell? ⟨gb104, 0, none⟩ = some (.int .i64 a0_0) := (blk_cell BK104.out 0).trans rfl
       have hcz26_1 : wr.cell? ⟨gb104, 1, none⟩ = some (.slice A0_1 l0_1.length c0_1) := (blk_cell BK104.out 1).trans rfl
       have hcz26_2 : wr.cell? ⟨gb104, 2, none⟩ = some (.slice A0_2 l0_2.length c0_2) := (blk_cell BK104.out 2).trans rfl
       have hfz26_0 := blk_frozen BK104.out 0
       have hfz26_1 := blk_frozen BK104.out 1
       have hfz26_2 := blk_frozen BK104.out 2
       go_wp2
       go_ret
       exact ⟨eqE, upB HB.out⟩
end Go.Proofs.J.Print
end
section
namespace Go.Proofs.J.Print
open Go.RowKit Go.Proofs.PrintWords Go.Proofs.PrintLast Go.Proofs.PrintMore
def pedigreeref29_Bytes.l0 : Nat → Int → Int → ByteArray → Int → Option (ByteArray)
 | 0, _, _, _, _ => none
 | k + 1, x0, x1, x5, x6 => if x6 < x1 then ((some (([(Int.tmod x0 256) % 256] : List Int) : List Int)).bind fun y109 => (if x5.size + (strOfNums y109).size ≤ 9223372036854775807 then (pedigreeref29_Bytes.l0 k (IntKind.u64.wrap (Int.tdiv x0 256)) x1 (x5 ++ (strOfNums y109)) (wrap64 (x6 + 1))) else (none))) else (some x5)
def pedigreeref29_Bytes.f (k : Nat) (a0 : Int) (a1 : Int) : Option (ByteArray) := pedigreeref29_Bytes.l0 k a0 a1 (⟨#[]⟩ : ByteArray) 0
set_option maxHeartbeats 8000000 in
set_option maxRecDepth 100000 in
theorem pedigreeref29_Bytes.calls (k : Nat) (a0 : Int) (a1 : Int) (r : ByteArray) (w : World) (h : pedigreeref29_Bytes.f k a0 a1 = some r) :
  Calls Tryz.prog 19 #[.int .u64 a0, .int .i64 a1] w fun e w' => e = .returned (.string r) ∧ Below w.heap.size w w' := by
 have HB := Aside0.mk (Below.refl w.heap.size w)
 have H : (pedigreeref29_Bytes.l0 k a0 a1 (⟨#[]⟩ : ByteArray) 0) = some r := h
 clear h
 have H' := Aside0.mk H
 clear H
 go_enter Tryz.func19, Tryz.ntmps19
 go_wp2
 go_loopg [0, 5, 6] k (fun kq v0 v5 v6 w' => ∃ (x0_1 : Int) (x5_1 : ByteArray) (x6_1 : Int), v0 = .int .u64 x0_1 ∧ v5 = .string x5_1 ∧ v6 = .int .i64 x6_1 ∧ Aside0 (pedigreeref29_Bytes.l0 kq x0_1 a1 x5_1 x6_1 = some r) ∧ Aside0 (kq ≤ k) ∧ Aside0 (Below w.heap.size w w'))
 case atStart => exact ⟨(a0), ((⟨#[]⟩ : ByteArray)), (0), eqS, eqS, eqS, H', ⟨Nat.le_refl _⟩, ⟨upB HB.out⟩⟩
 case round =>
  clear H'
  try clear c1
  try clear p2
  obtain ⟨x0_1, x5_1, x6_1, rfl, rfl, rfl, HA, HK1, HB⟩ := hrel
  cases gk with
  | zero => exact absurd HA.out (by simp [pedigreeref29_Bytes.l0])
  | succ k1 =>
   have H := HA.out
   clear HA
   simp only [pedigreeref29_Bytes.l0] at H
   by_cases c3 : x6_1 < a1
   ·rw [if_pos c3] at H
    have c3b0 := decide_eq_true c3
    clear c3
    obtain ⟨y109, hy109⟩ : ∃ y_ : List Int, y_ = (([(Int.tmod x0_1 256) % 256] : List Int)) := ⟨_, rfl⟩
    replace H : (if x5_1.size + (strOfNums y109).size ≤ 9223372036854775807 then (pedigreeref29_Bytes.l0 k1 (IntKind.u64.wrap (Int.tdiv x0_1 256)) a1 (x5_1 ++ (strOfNums y109)) (wrap64 (x6_1 + 1))) else (none)) = some r := by first | (rw [hy109]; with_reducible exact H) | (have H2_ := (Option.bind_some _ _).symm.trans H; rw [hy109]; with_reducible exact H2_) | (have H2_ := (Option.bind_some _ _).symm.trans H; with_reducible exact H2_) | with_reducible exact H | (rw [hy109]; exact H) | exact H
    have Ny109 := Aside0.mk hy109
    clear hy109
    by_cases c4 : x5_1.size + (strOfNums y109).size ≤ 9223372036854775807
    ·rw [if_pos c4] at H
     have c4b0 := eq_true c4
     have c4b1 := decide_eq_true c4
     try have c4b2 : (9223372036854775807 < x5_1.size + (strOfNums y109).size) = False := eq_false (Nat.not_lt.2 c4)
     have H' := Aside0.mk H
     clear H
     go_wp2_with (first | ((with_reducible refine gate_dst (N := 16) rfl ?_); refine Kd.R_lit (Kd.int .u8) _ 5 ?hg (N := 16) ?hd (xs := ([(Int.tmod x0_1 256) % 256] : List Int)) (inner := [.int .u8 ((Int.tmod x0_1 256) % 256)]) (ok := fun _ => True) (okp := fun _ => True) ?hr ?hp (fun _ hk => hk) trivial (Below.refl _ _) (Nat.le_refl _) (by simp) ?_; (case hd => rfl); (case hg => rfl); (case hr => first | (go_simp; done) | (go_simp; rfl)); (case hp => exact (Reps.one (show Kd.M (Kd.int .u8) _ _ _ ((Int.tmod x0_1 256) % 256) [.int .u8 ((Int.tmod x0_1 256) % 256)] from rfl) (Reps.none _ _))); intro v110 w5 ho6 hb hg_ hnew_; clear hg_ hnew_; (first | rw [← Ny109.out] at ho6 | (simp only [Int.reduceToNat] at ho6; rw [← Ny109.out] at ho6)); have n0_ := Aside0.mk (Kd.R_lower ho6 (below_size (upB HB.out))); have n1_ := Aside0.mk (below_step (upB HB.out) hb); clear HB; have HO111 := n0_; have HB := n1_; clear n0_ n1_; clear hb ho6; have hcv7 := own_string (P := Tryz.prog) Tryz.underlying78 Tryz.underlying5 Tryz.underlying9 (Kd.own_of_R HO111.out)))
     go_roundg k1
     case measure => have := HK1.out; omega
     case rel => exact ⟨(IntKind.u64.wrap (Int.tdiv x0_1 256)), (x5_1 ++ (strOfNums y109)), (wrap64 (x6_1 + 1)), eqS, eqS, eqS, H', ⟨by have := HK1.out; omega⟩, ⟨upB HB.out⟩⟩
    ·rw [if_neg c4] at H
     exact absurd H (by simp)
   ·rw [if_neg c3] at H
    have c3b0 := decide_eq_false c3
    clear c3
    obtain rfl := Option.some.inj H
    go_wp2
    go_ret
    exact ⟨eqE, upB HB.out⟩
end Go.Proofs.J.Print
end
section
namespace Go.Proofs.J.Print
open Go.RowKit Go.Proofs.PrintWords Go.Proofs.PrintLast Go.Proofs.PrintMore
def pedigreeref29_factBytes.l0 : Nat → ByteArray → Int → ByteArray → List (S85) → Option (ByteArray)
 | 0, _, _, _, _ => none
 | k + 1, x3, x4, x113000, x113001 => if x4 < (x113001.length : Int) then (if 0 ≤ x4 then (if ((rd_T85 x113001 x4).f0) = 1 then (if x3.size + 1 ≤ 9223372036854775807 then ((pedigreeref29_Bytes.f k (IntKind.u64.wrap ((rd_T85 x113001 x4).f1)) 8).bind fun t117 => (if (x3 ++ (⟨#[78]⟩ : ByteArray)).size + t117.size ≤ 9223372036854775807 then (pedigreeref29_factBytes.l0 k ((x3 ++ (⟨#[78]⟩ : ByteArray)) ++ t117) (wrap64 (x4 + 1)) x113000 x113001) else (none))) else (none)) else (if x3.size + 1 ≤ 9223372036854775807 then ((pedigreeref29_Bytes.f k (IntKind.u64.wrap ((((rd_T85 x113001 x4).f2).size : Int))) 1).bind fun t119 => (if (x3 ++ (⟨#[84]⟩ : ByteArray)).size + t119.size ≤ 9223372036854775807 then (if ((x3 ++ (⟨#[84]⟩ : ByteArray)) ++ t119).size + ((rd_T85 x113001 x4).f2).size ≤ 9223372036854775807 then (pedigreeref29_factBytes.l0 k (((x3 ++ (⟨#[84]⟩ : ByteArray)) ++ t119) ++ ((rd_T85 x113001 x4).f2)) (wrap64 (x4 + 1)) x113000 x113001) else (none)) else (none))) else (none))) else (none)) else (some x3)
def pedigreeref29_factBytes.f (k : Nat) (a0_0 : ByteArray) (l0_1 : List (S85)) : Option (ByteArray) := (pedigreeref29_Bytes.f k (IntKind.u64.wrap ((a0_0.size : Int))) 1).bind fun t113 => (if t113.size + a0_0.size ≤ 9223372036854775807 then ((pedigreeref29_Bytes.f k (IntKind.u64.wrap ((l0_1.length : Int))) 1).bind fun t114 => (if (t113 ++ a0_0).size + t114.size ≤ 9223372036854775807 then (pedigreeref29_factBytes.l0 k ((t113 ++ a0_0) ++ t114) 0 a0_0 l0_1) else (none))) else (none))
def pedigreeref29_factBytes.T1 : Bool × List (List Nat × List Nat) := (true, [([], []), ([0], [0]), ([1], [1]), ([2], [2]), ([3], [3]), ([], []), ([5], [5]), ([4, 6], [4, 6]), ([], []), ([8], [8]), ([9], [9]), ([10], [10]), ([11, 4], [11]), ([7, 12], [7, 12]), ([13, 12, 0, 1, 2, 3, 4, 5, 6, 7, 8, 9, 10, 11, 12, 13], [13])])
def pedigreeref29_factBytes.B1 : List Nat := [0, 1, 3, 7, 15, 0, 32, 127, 0, 256, 768, 1792, 3871, 8191, 16383]
theorem pedigreeref29_factBytes.tab1 : rtab .any (opsOf Tryz.f78 1) = pedigreeref29_factBytes.T1 := by kernel_rfl
theorem pedigreeref29_factBytes.bits1 : waitsOk pedigreeref29_factBytes.T1.2 pedigreeref29_factBytes.B1 = true := by kernel_rfl
def pedigreeref29_factBytes.T7 : Bool × List (List Nat × List Nat) := (true, [([], []), ([0], [0]), ([], []), ([2], [2]), ([], []), ([3, 4], [3, 4]), ([5], [5]), ([6], [6]), ([7], [7]), ([8], [8]), ([9], [9]), ([1, 10], [1, 10]), ([], []), ([12], [12]), ([], []), ([13, 14], [13, 14]), ([15], [15]), ([16], [16]), ([11, 17], [11, 17]), ([18, 10, 0, 1, 2, 3, 4, 5, 6, 7, 8, 9, 10, 11, 12, 13, 14, 15, 16, 17, 18], [0, 18])])
def pedigreeref29_factBytes.B7 : List Nat := [0, 1, 0, 4, 0, 28, 60, 124, 252, 508, 1020, 2047, 0, 4096, 0, 28672, 61440, 126976, 262143, 524287]
theorem pedigreeref29_factBytes.tab7 : rtab .any (opsOf Tryz.f78 7) = pedigreeref29_factBytes.T7 := by kernel_rfl
theorem pedigreeref29_factBytes.bits7 : waitsOk pedigreeref29_factBytes.T7.2 pedigreeref29_factBytes.B7 = true := by kernel_rfl
set_option maxHeartbeats 1500000 in
set_option maxRecDepth 100000 in
theorem pedigreeref29_factBytes.calls (k : Nat) (a0_0 : ByteArray) (A0_1 : Option Addr) (c0_1 : Nat) (l0_1 : List (S85)) (r : ByteArray) (w : World) (hr0_1 : Kd.C k85 w A0_1 l0_1.length l0_1) (hc0_1 : l0_1.length ≤ c0_1) (h : pedigreeref29_factBytes.f k a0_0 l0_1 = some r) :
  Calls Tryz.prog 78 #[.agg #[.string a0_0, .slice A0_1 l0_1.length c0_1]] w fun e w' => e = .returned (.string r) ∧ Below w.heap.size w w' := by
 have hu90 := Tryz.underlying90
 have HR0_1 := Aside0.mk hr0_1
 have HC0_1 := Aside0.mk hc0_1
 clear hr0_1 hc0_1
 have HB := Aside0.mk (Below.refl w.heap.size w)
 have H : ((pedigreeref29_Bytes.f k (IntKind.u64.wrap ((a0_0.size : Int))) 1).bind fun t113 => (if t113.size + a0_0.size ≤ 9223372036854775807 then ((pedigreeref29_Bytes.f k (IntKind.u64.wrap ((l0_1.length : Int))) 1).bind fun t114 => (if (t113 ++ a0_0).size + t114.size ≤ 9223372036854775807 then (pedigreeref29_factBytes.l0 k ((t113 ++ a0_0) ++ t114) 0 a0_0 l0_1) else (none))) else (none))) = some r := h
 clear h
 replace H := Option.bind_eq_some_iff.mp H
 obtain ⟨t113, A20, H⟩ := H
 replace H : (if t113.size + a0_0.size ≤ 9223372036854775807 then ((pedigreeref29_Bytes.f k (IntKind.u64.wrap ((l0_1.length : Int))) 1).bind fun t114 => (if (t113 ++ a0_0).size + t114.size ≤ 9223372036854775807 then (pedigreeref29_factBytes.l0 k ((t113 ++ a0_0) ++ t114) 0 a0_0 l0_1) else (none))) else (none)) = some r := H
 have A2 := Aside0.mk A20
 clear A20
 by_cases c3 : t113.size + a0_0.size ≤ 9223372036854775807
 ·rw [if_pos c3] at H
  have c3b0 := eq_true c3
  have c3b1 := decide_eq_true c3
  try have c3b2 : (9223372036854775807 < t113.size + a0_0.size) = False := eq_false (Nat.not_lt.2 c3)
  replace H := Option.bind_eq_some_iff.mp H
  obtain ⟨t114, A40, H⟩ := H
  replace H : (if (t113 ++ a0_0).size + t114.size ≤ 9223372036854775807 then (pedigreeref29_factBytes.l0 k ((t113 ++ a0_0) ++ t114) 0 a0_0 l0_1) else (none)) = some r := H
  have A4 := Aside0.mk A40
  clear A40
  by_cases c5 : (t113 ++ a0_0).size + t114.size ≤ 9223372036854775807
  ·rw [if_pos c5] at H
   have c5b0 := eq_true c5
   have c5b1 := decide_eq_true c5
   try have c5b2 : (9223372036854775807 < (t113 ++ a0_0).size + t114.size) = False := eq_false (Nat.not_lt.2 c5)
   have H' := Aside0.mk H
   clear H
   go_enter Tryz.func78, Tryz.ntmps78
   try go_wp2_with (first | ((with_reducible refine gate_dst (N := 1) rfl ?_); refine boxS 1 #[.string a0_0, .slice A0_1 l0_1.length c0_1] 90 ?_; intro gb112 hg w6 hbox hb; have n0_ := Aside0.mk (below_step (upB HB.out) hb); have n1_ := Aside0.mk (hbox); have n2_ := Aside0.mk (geB hg (upB HB.out) : w.heap.size ≤ gb112); have n3_ := Aside0.mk (geB hg (upB HB.out) : w.heap.size ≤ gb112); clear HB; have HB := n0_; have BK112 := n1_; have GW112 := n2_; have GE112 := n3_; clear n0_ n1_ n2_ n3_; clear hb hbox hg))
   have n0_ := Aside0.mk (blk_drew BK112.out)
   have n1_ := Aside0.mk (below_drew1 HB.out)
   clear BK112
   clear HB
   have BK112 := n0_
   have HB := n1_
   clear n0_ n1_
   try have c5b1f0 : Aside0 (¬ 9223372036854775807 < t113.size + a0_0.size + t114.size) := ⟨fitS c5b1⟩
   refine start_ (n := 15) (S := fun w' => w'.cell? ⟨gb112, 0, none⟩ = some (.string a0_0) ∧ w'.cell? ⟨gb112, 1, none⟩ = some (.slice A0_1 l0_1.length c0_1)) (ds := []) #[false,false,false,false,false,false,false,false,false,false,false,false,false,false,false] (by kernel_rfl) rfl rfl ⟨(blk_cell BK112.out 0).trans rfl, (blk_cell BK112.out 1).trans rfl⟩ (fun hHeld => ?_); refine with_tabW pedigreeref29_factBytes.tab1 pedigreeref29_factBytes.bits1 (fun HT_ HW_ => ?_)
   generalize w6.drew = w7 at BK112 HB hHeld ⊢
   refine pureS 0 (some 5) HT_ ?_
   refine pureS 5 (some 10) HT_ ?_
   refine pureS 8 (some 13) HT_ ?_
   refine takeS 1 (some 6) HT_ HW_ hHeld ?_
   refine pureS 2 (some 7) HT_ ?_
   refine pureS 3 (some 8) HT_ ?_
   refine takeS 6 (some 11) HT_ HW_ hHeld ?_
   refine takeS 9 (some 14) HT_ HW_ hHeld ?_
   refine pureS 10 (some 15) HT_ ?_
   refine pureS 11 (some 16) HT_ ?_
   refine one_ (i := 4) (N := some 9) #[true, true, true, true, true, true, true, false, true, true, true, true, false,false,false] rfl rfl (one_of HT_.out (by kernel_rfl)) (by decide) (fun K hK => ?_)
   refine goes_ Tryz.func19 (by kernel_rfl) rfl #[.int .u64 (IntKind.u64.wrap ((a0_0.size : Int))), .int .i64 1] (by rfl) rfl rfl (by (try simp only [List.map_toArray, List.map_cons, List.map_nil]); first | done | rfl | (simp only [List.length_drop, List.length_take]; rfl)) ?_
   with_reducible refine (pedigreeref29_Bytes.calls k (IntKind.u64.wrap ((a0_0.size : Int))) 1 t113 _ A2.out).mono ?_
   rintro e w8 ⟨rfl, hb⟩
   refine ⟨_, rfl, ?_⟩
   have n0_ := Aside0.mk (blk_below (g := gb112) (o := .cells #[.string a0_0, .slice A0_1 l0_1.length c0_1] 90 (0, 0)) (upO BK112.out) hb)
   have n1_ := Aside0.mk (below_step (upB HB.out) hb)
   clear BK112
   clear HB
   have BK112 := n0_
   have HB := n1_
   clear n0_ n1_
   (try clear hb)
   (try clear hb2)
   (try clear hk)
   (try clear hi)
   refine hK.out _ _ ⟨(blk_cell BK112.out 0).trans rfl, (blk_cell BK112.out 1).trans rfl⟩ (fun hHeld => ?_)
   clear hK K
   refine normS (some 9) ?_
   refine pureS 7 (some 12) HT_ ?_
   refine one_ (i := 12) (N := some 17) #[true, true, true, true, true, true, true, true, true, true, true, true, true, false,false] rfl rfl (one_of HT_.out (by kernel_rfl)) (by decide) (fun K hK => ?_)
   refine goes_ Tryz.func19 (by kernel_rfl) rfl #[.int .u64 (IntKind.u64.wrap ((l0_1.length : Int))), .int .i64 1] (by rfl) rfl rfl (by (try simp only [List.map_toArray, List.map_cons, List.map_nil]); first | done | rfl | (simp only [List.length_drop, List.length_take]; rfl)) ?_
   with_reducible refine (pedigreeref29_Bytes.calls k (IntKind.u64.wrap ((l0_1.length : Int))) 1 t114 _ A4.out).mono ?_
   rintro e w9 ⟨rfl, hb⟩
   refine ⟨_, rfl, ?_⟩
   have n0_ := Aside0.mk (blk_below (g := gb112) (o := .cells #[.string a0_0, .slice A0_1 l0_1.length c0_1] 90 (0, 0)) (upO BK112.out) hb)
   have n1_ := Aside0.mk (below_step (upB HB.out) hb)
   clear BK112
   clear HB
   have BK112 := n0_
   have HB := n1_
   clear n0_ n1_
   (try clear hb)
   (try clear hb2)
   (try clear hk)
   (try clear hi)
   refine hK.out _ _ ⟨(blk_cell BK112.out 0).trans rfl, (blk_cell BK112.out 1).trans rfl⟩ (fun hHeld => ?_)
   clear hK K
   refine normS (some 17) ?_
   refine pureS 13 (some 18) HT_ ?_
   refine pureS 14 (some 3) HT_ ?_
   refine done_ (done_of HT_.out (by kernel_rfl)) ?_
   try go_wp2
   go_loopg [3, 4] k (fun kq v3 v4 w' => ∃ (x3_1 : ByteArray) (x4_1 : Int), v3 = .string x3_1 ∧ v4 = .int .i64 x4_1 ∧ Aside0 (pedigreeref29_factBytes.l0 kq x3_1 x4_1 a0_0 l0_1 = some r) ∧ Aside0 (kq ≤ k) ∧ Aside0 (w'.heap[gb112]? = some (.cells #[.string a0_0, (.slice A0_1 l0_1.length c0_1)] 90 (0, 0))) ∧ Aside0 (Below w.heap.size w w'))
   case atStart => exact ⟨((t113 ++ a0_0) ++ t114), (0), eqS, eqS, H', ⟨Nat.le_refl _⟩, ⟨upO BK112.out⟩, ⟨upB HB.out⟩⟩
   case round =>
    clear H'
    try clear c1
    try clear p2
    try clear c3
    try clear c3b0
    try clear c3b1
    try clear c3b2
    try clear c5
    try clear c5b0
    try clear c5b1
    try clear c5b2
    try clear c7
    obtain ⟨x3_1, x4_1, rfl, rfl, HA, HK1, BK112, HB⟩ := hrel
    cases gk with
    | zero => exact absurd HA.out (by simp [pedigreeref29_factBytes.l0])
    | succ k1 =>
     have H := HA.out
     clear HA
     simp only [pedigreeref29_factBytes.l0] at H
     by_cases c10 : x4_1 < (l0_1.length : Int)
     ·rw [if_pos c10] at H
      have c10b0 := decide_eq_true c10
      clear c10
      by_cases c11 : 0 ≤ x4_1
      ·rw [if_pos c11] at H
       have c11b0 := decide_eq_true c11
       clear c11
       by_cases c12 : ((rd_T85 l0_1 x4_1).f0) = 1
       ·rw [if_pos c12] at H
        have c12b0 : (((rd_T85 l0_1 x4_1).f0) == 1) = true := beq_iff_eq.mpr c12
        have c12b1 : (((rd_T85 l0_1 x4_1).f0) != 1) = false := bne_eq_false_iff_eq.mpr c12
        clear c12
        by_cases c13 : x3_1.size + 1 ≤ 9223372036854775807
        ·rw [if_pos c13] at H
         have c13b0 := eq_true c13
         have c13b1 := decide_eq_true c13
         try have c13b2 : (9223372036854775807 < x3_1.size + 1) = False := eq_false (Nat.not_lt.2 c13)
         replace H := Option.bind_eq_some_iff.mp H
         obtain ⟨t117, A140, H⟩ := H
         replace H : (if (x3_1 ++ (⟨#[78]⟩ : ByteArray)).size + t117.size ≤ 9223372036854775807 then (pedigreeref29_factBytes.l0 k1 ((x3_1 ++ (⟨#[78]⟩ : ByteArray)) ++ t117) (wrap64 (x4_1 + 1)) a0_0 l0_1) else (none)) = some r := H
         have A14 := Aside0.mk A140
         clear A140
         by_cases c15 : (x3_1 ++ (⟨#[78]⟩ : ByteArray)).size + t117.size ≤ 9223372036854775807
         ·rw [if_pos c15] at H
          have c15b0 := eq_true c15
          have c15b1 := decide_eq_true c15
          try have c15b2 : (9223372036854775807 < (x3_1 ++ (⟨#[78]⟩ : ByteArray)).size + t117.size) = False := eq_false (Nat.not_lt.2 c15)
          have c15n : (9223372036854775807 < x3_1.size + 1 + t117.size) = False := eq_false (by have h_ := c15; rw [ByteArray.size_append] at h_; have e_ : (⟨#[78]⟩ : ByteArray).size = 1 := rfl; omega)
          have H' := Aside0.mk H
          clear H
          have hcz16_0 : wr.cell? ⟨gb112, 0, none⟩ = some (.string a0_0) := (blk_cell BK112.out 0).trans rfl
          have hcz16_1 : wr.cell? ⟨gb112, 1, none⟩ = some (.slice A0_1 l0_1.length c0_1) := (blk_cell BK112.out 1).trans rfl
          have hfz16_0 := blk_frozen BK112.out 0
          have hfz16_1 := blk_frozen BK112.out 1
          have p115 : 0 ≤ (x4_1 : Int) := of_decide_eq_true byA
          have q115 : x4_1 < (l0_1.length : Int) := of_decide_eq_true byA
          obtain ⟨ad115, e115, hx115_0, hx115_1, hx115_2⟩ := at_T85 HR0_1.out x4_1 p115 q115
          cases e115
          replace hx115_0 := cellB HB.out hx115_0
          replace hx115_1 := cellB HB.out hx115_1
          replace hx115_2 := cellB HB.out hx115_2
          replace p115 := eq_true p115
          replace q115 := eq_true q115
          have p116 : 0 ≤ (x4_1 : Int) := of_decide_eq_true byA
          have q116 : x4_1 < (l0_1.length : Int) := of_decide_eq_true byA
          obtain ⟨ad116, e116, hx116_0, hx116_1, hx116_2⟩ := at_T85 HR0_1.out x4_1 p116 q116
          obtain rfl : ad115 = ad116 := (by injection e116)
          replace hx116_0 := cellB HB.out hx116_0
          replace hx116_1 := cellB HB.out hx116_1
          replace hx116_2 := cellB HB.out hx116_2
          replace p116 := eq_true p116
          replace q116 := eq_true q116
          go_wp2_with (first | ((with_reducible refine gate_callee (f := 19) rfl ?_); refine goesS (some 42) Tryz.func19 #[.int .u64 (IntKind.u64.wrap ((rd_T85 l0_1 x4_1).f1)), .int .i64 8] ?_; (with_reducible refine (pedigreeref29_Bytes.calls k1 (IntKind.u64.wrap ((rd_T85 l0_1 x4_1).f1)) 8 t117 _ A14.out).mono ?_); rintro e w17 ⟨rfl, hb⟩; refine ⟨_, rfl, ?_⟩; have n0_ := Aside0.mk (blk_below (g := gb112) (o := .cells #[.string a0_0, .slice (some ad115) l0_1.length c0_1] 90 (0, 0)) (upO BK112.out) hb); have n1_ := Aside0.mk (below_step (upB HB.out) hb); clear BK112; clear HB; have BK112 := n0_; have HB := n1_; clear n0_ n1_; (try clear hb); (try clear hb2); (try clear hk); (try clear hi)))
          go_roundg k1
          case measure => have := HK1.out; omega
          case rel => exact ⟨((x3_1 ++ (⟨#[78]⟩ : ByteArray)) ++ t117), (wrap64 (x4_1 + 1)), eqS, eqS, H', ⟨by have := HK1.out; omega⟩, ⟨upO BK112.out⟩, ⟨upB HB.out⟩⟩
         ·rw [if_neg c15] at H
          exact absurd H (by simp)
        ·rw [if_neg c13] at H
         exact absurd H (by simp)
       ·rw [if_neg c12] at H
        have c12b0 : (((rd_T85 l0_1 x4_1).f0) == 1) = false := beq_eq_false_iff_ne.mpr c12
        have c12b1 : (((rd_T85 l0_1 x4_1).f0) != 1) = true := bne_iff_ne.mpr c12
        by_cases c18 : x3_1.size + 1 ≤ 9223372036854775807
        ·rw [if_pos c18] at H
         have c18b0 := eq_true c18
         have c18b1 := decide_eq_true c18
         try have c18b2 : (9223372036854775807 < x3_1.size + 1) = False := eq_false (Nat.not_lt.2 c18)
         replace H := Option.bind_eq_some_iff.mp H
         obtain ⟨t119, A190, H⟩ := H
         replace H : (if (x3_1 ++ (⟨#[84]⟩ : ByteArray)).size + t119.size ≤ 9223372036854775807 then (if ((x3_1 ++ (⟨#[84]⟩ : ByteArray)) ++ t119).size + ((rd_T85 l0_1 x4_1).f2).size ≤ 9223372036854775807 then (pedigreeref29_factBytes.l0 k1 (((x3_1 ++ (⟨#[84]⟩ : ByteArray)) ++ t119) ++ ((rd_T85 l0_1 x4_1).f2)) (wrap64 (x4_1 + 1)) a0_0 l0_1) else (none)) else (none)) = some r := H
         have A19 := Aside0.mk A190
         clear A190
         by_cases c20 : (x3_1 ++ (⟨#[84]⟩ : ByteArray)).size + t119.size ≤ 9223372036854775807
         ·rw [if_pos c20] at H
          have c20b0 := eq_true c20
          have c20b1 := decide_eq_true c20
          try have c20b2 : (9223372036854775807 < (x3_1 ++ (⟨#[84]⟩ : ByteArray)).size + t119.size) = False := eq_false (Nat.not_lt.2 c20)
          by_cases c21 : ((x3_1 ++ (⟨#[84]⟩ : ByteArray)) ++ t119).size + ((rd_T85 l0_1 x4_1).f2).size ≤ 9223372036854775807
          ·rw [if_pos c21] at H
           have c21b0 := eq_true c21
           have c21b1 := decide_eq_true c21
           try have c21b2 : (9223372036854775807 < ((x3_1 ++ (⟨#[84]⟩ : ByteArray)) ++ t119).size + ((rd_T85 l0_1 x4_1).f2).size) = False := eq_false (Nat.not_lt.2 c21)
           have H' := Aside0.mk H
           clear H
           have hcz22_0 : wr.cell? ⟨gb112, 0, none⟩ = some (.string a0_0) := (blk_cell BK112.out 0).trans rfl
           have hcz22_1 : wr.cell? ⟨gb112, 1, none⟩ = some (.slice A0_1 l0_1.length c0_1) := (blk_cell BK112.out 1).trans rfl
           have hfz22_0 := blk_frozen BK112.out 0
           have hfz22_1 := blk_frozen BK112.out 1
           have p115 : 0 ≤ (x4_1 : Int) := of_decide_eq_true byA
           have q115 : x4_1 < (l0_1.length : Int) := of_decide_eq_true byA
           obtain ⟨ad115, e115, hx115_0, hx115_1, hx115_2⟩ := at_T85 HR0_1.out x4_1 p115 q115
           cases e115
           replace hx115_0 := cellB HB.out hx115_0
           replace hx115_1 := cellB HB.out hx115_1
           replace hx115_2 := cellB HB.out hx115_2
           replace p115 := eq_true p115
           replace q115 := eq_true q115
           try go_wp2
           have n0_ := Aside0.mk (blk_drew BK112.out)
           have n1_ := Aside0.mk (below_drew1 HB.out)
           clear BK112
           clear HB
           have BK112 := n0_
           have HB := n1_
           clear n0_ n1_
           have p118 : 0 ≤ (x4_1 : Int) := of_decide_eq_true byA
           have q118 : x4_1 < (l0_1.length : Int) := of_decide_eq_true byA
           obtain ⟨ad118, e118, hx118_0, hx118_1, hx118_2⟩ := at_T85 HR0_1.out x4_1 p118 q118
           have hw118_2 := hx118_2
           have hw118_1 := hx118_1
           have hw118_0 := hx118_0
           obtain rfl : ad115 = ad118 := (by injection e118)
           replace hx118_0 := cellB HB.out hx118_0
           replace hx118_1 := cellB HB.out hx118_1
           replace hx118_2 := cellB HB.out hx118_2
           replace p118 := eq_true p118
           replace q118 := eq_true q118
           have p120 : 0 ≤ (x4_1 : Int) := of_decide_eq_true byA
           have q120 : x4_1 < (l0_1.length : Int) := of_decide_eq_true byA
           obtain ⟨ad120, e120, hx120_0, hx120_1, hx120_2⟩ := at_T85 HR0_1.out x4_1 p120 q120
           have hw120_2 := hx120_2
           have hw120_1 := hx120_1
           have hw120_0 := hx120_0
           obtain rfl : ad115 = ad120 := (by injection e120)
           replace hx120_0 := cellB HB.out hx120_0
           replace hx120_1 := cellB HB.out hx120_1
           replace hx120_2 := cellB HB.out hx120_2
           replace p120 := eq_true p120
           replace q120 := eq_true q120
           try have c21b1f0 : Aside0 (¬ 9223372036854775807 < x3_1.size + 1 + t119.size + ((rd_T85 l0_1 x4_1).f2).size) := ⟨fitS c21b1⟩
           try have c20b1f1 : Aside0 (¬ 9223372036854775807 < x3_1.size + 1 + t119.size) := ⟨fitS c20b1⟩
           try have c15b1f2 : Aside0 (¬ 9223372036854775807 < x3_1.size + 1 + t117.size) := ⟨fitS c15b1⟩
           try have c5b1f3 : Aside0 (¬ 9223372036854775807 < t113.size + a0_0.size + t114.size) := ⟨fitS c5b1⟩
           refine start_ (n := 20) (S := fun w' => w'.cell? ⟨gb112, 0, none⟩ = some (.string a0_0) ∧ w'.cell? ⟨gb112, 1, none⟩ = some (.slice (some ad115) l0_1.length c0_1) ∧ w'.cell? (ad115.add ((x4_1).toNat * 3)) = some (.int .i8 ((rd_T85 l0_1 x4_1).f0)) ∧ w'.cell? ⟨(ad115.add ((x4_1).toNat * 3)).block, (ad115.add ((x4_1).toNat * 3)).off + 1, none⟩ = some (.int .i64 ((rd_T85 l0_1 x4_1).f1)) ∧ w'.cell? ⟨(ad115.add ((x4_1).toNat * 3)).block, (ad115.add ((x4_1).toNat * 3)).off + 2, none⟩ = some (.string ((rd_T85 l0_1 x4_1).f2)) ∧ w'.cell? (ad115.add ((x4_1).toNat * 3)) = some (.int .i8 ((rd_T85 l0_1 x4_1).f0)) ∧ w'.cell? ⟨(ad115.add ((x4_1).toNat * 3)).block, (ad115.add ((x4_1).toNat * 3)).off + 1, none⟩ = some (.int .i64 ((rd_T85 l0_1 x4_1).f1)) ∧ w'.cell? ⟨(ad115.add ((x4_1).toNat * 3)).block, (ad115.add ((x4_1).toNat * 3)).off + 2, none⟩ = some (.string ((rd_T85 l0_1 x4_1).f2))) (ds := []) #[false,false,false,false,false,false,false,false,false,false,false,false,false,false,false,false,false,false,false,false] (by kernel_rfl) rfl rfl ⟨(blk_cell BK112.out 0).trans rfl, (blk_cell BK112.out 1).trans rfl, (cellB HB.out hw118_0), (cellB HB.out hw118_1), (cellB HB.out hw118_2), (cellB HB.out hw120_0), (cellB HB.out hw120_1), (cellB HB.out hw120_2)⟩ (fun hHeld => ?_); refine with_tabW pedigreeref29_factBytes.tab7 pedigreeref29_factBytes.bits7 (fun HT_ HW_ => ?_)
           generalize wr.drew = w23 at BK112 HB hx118_0 hx118_1 hx118_2 hx120_0 hx120_1 hx120_2 hHeld ⊢
           refine pureS 0 (some 44) HT_ ?_
           refine pureS 1 (some 45) HT_ ?_
           refine pureS 2 (some 46) HT_ ?_
           refine pureS 4 (some 48) HT_ ?_
           refine pureS 12 (some 56) HT_ ?_
           refine pureS 14 (some 58) HT_ ?_
           refine takeS 3 (some 47) HT_ HW_ hHeld ?_
           refine pureS 5 (some 49) HT_ ?_
           refine pureS 6 (some 50) HT_ ?_
           refine takeS 7 (some 51) HT_ HW_ hHeld ?_
           refine pureS 8 (some 52) HT_ ?_
           refine pureS 9 (some 53) HT_ ?_
           refine takeS 13 (some 57) HT_ HW_ hHeld ?_
           refine pureS 15 (some 59) HT_ ?_
           refine pureS 16 (some 60) HT_ ?_
           refine takeS 17 (some 61) HT_ HW_ hHeld ?_
           refine one_ (i := 10) (N := some 54) #[true, true, true, true, true, true, true, true, true, true, true, false, true, true, true, true, true, true, false,false] rfl rfl (one_of HT_.out (by kernel_rfl)) (by decide) (fun K hK => ?_)
           refine goes_ Tryz.func19 (by kernel_rfl) rfl #[.int .u64 (IntKind.u64.wrap ((((rd_T85 l0_1 x4_1).f2).size : Int))), .int .i64 1] (by rfl) rfl rfl (by (try simp only [List.map_toArray, List.map_cons, List.map_nil]); first | done | rfl | (simp only [List.length_drop, List.length_take]; rfl)) ?_
           with_reducible refine (pedigreeref29_Bytes.calls k1 (IntKind.u64.wrap ((((rd_T85 l0_1 x4_1).f2).size : Int))) 1 t119 _ A19.out).mono ?_
           rintro e w24 ⟨rfl, hb⟩
           refine ⟨_, rfl, ?_⟩
           have n0_ := Aside0.mk (blk_below (g := gb112) (o := .cells #[.string a0_0, .slice (some ad115) l0_1.length c0_1] 90 (0, 0)) (upO BK112.out) hb)
           have n1_ := Aside0.mk (below_step (upB HB.out) hb)
           clear BK112
           clear HB
           have BK112 := n0_
           have HB := n1_
           clear n0_ n1_
           (try clear hb)
           (try clear hb2)
           (try clear hk)
           (try clear hi)
           refine hK.out _ _ ⟨(blk_cell BK112.out 0).trans rfl, (blk_cell BK112.out 1).trans rfl, (cellB HB.out hw118_0), (cellB HB.out hw118_1), (cellB HB.out hw118_2), (cellB HB.out hw120_0), (cellB HB.out hw120_1), (cellB HB.out hw120_2)⟩ (fun hHeld => ?_)
           clear hK K
           refine normS (some 54) ?_
           refine pureS 11 (some 55) HT_ ?_
           refine pureS 18 (some 62) HT_ ?_
           refine pureS 19 (some 3) HT_ ?_
           refine done_ (done_of HT_.out (by kernel_rfl)) ?_
           try go_wp2
           go_roundg k1
           case measure => have := HK1.out; omega
           case rel => exact ⟨(((x3_1 ++ (⟨#[84]⟩ : ByteArray)) ++ t119) ++ ((rd_T85 l0_1 x4_1).f2)), (wrap64 (x4_1 + 1)), eqS, eqS, H', ⟨by have := HK1.out; omega⟩, ⟨upO BK112.out⟩, ⟨upB HB.out⟩⟩
          ·rw [if_neg c21] at H
           exact absurd H (by simp)
         ·rw [if_neg c20] at H
          exact absurd H (by simp)
        ·rw [if_neg c18] at H
         exact absurd H (by simp)
      ·rw [if_neg c11] at H
       exact absurd H (by simp)
     ·rw [if_neg c10] at H
      have c10b0 := decide_eq_false c10
      clear c10
      obtain rfl := Option.some.inj H
      have hcz25_0 : wr.cell? ⟨gb112, 0, none⟩ = some (.string a0_0) := (blk_cell BK112.out 0).trans rfl
      have hcz25_1 : wr.cell? ⟨gb112, 1, none⟩ = some (.slice A0_1 l0_1.length c0_1) := (blk_cell BK112.out 1).trans rfl
      have hfz25_0 := blk_frozen BK112.out 0
      have hfz25_1 := blk_frozen BK112.out 1
      go_wp2
      go_ret
      exact ⟨eqE, upB HB.out⟩
  ·rw [if_neg c5] at H
   exact absurd H (by simp)
 ·rw [if_neg c3] at H
  exact absurd H (by simp)
end Go.Proofs.J.Print
end
