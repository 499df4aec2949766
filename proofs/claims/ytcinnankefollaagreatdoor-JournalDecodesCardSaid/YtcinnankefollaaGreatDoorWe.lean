/- On the way to the law 'JournalDecodes': what the functions that it reaches compute, step by step, and the plain law (JPF95 .. JPF39). Each theorem states its own conditions. -/
import Derived.Test.YtcinnankefollaaGreatDoorWd
set_option linter.unusedVariables false
set_option linter.unusedSimpArgs false
section
namespace Go.Proofs.J.Print
open Go.RowKit Go.Proofs.PrintWords Go.Proofs.PrintLast Go.Proofs.PrintMore
def pedigreeref29_readFact.l0 : Nat → ByteArray → ByteArray → Int → ByteArray → List (S85) → Option (ByteArray × (List (S85)) × ByteArray × Bool)
 | 0, _, _, _, _, _ => none
 | k + 1, x0, x5, x9, x147000, x147001 => if 0 < (x5.size : Int) then (if x9 < (wrap64 (bt x5 0)) then ((pedigreeref29_readValue.f k x0).bind fun bt148 => (if bt148.2.2.2.2 = true then (if x147001.length < 4398046511104 then (pedigreeref29_readFact.l0 k bt148.2.2.2.1 x5 (wrap64 (x9 + 1)) x147000 (x147001 ++ [(⟨bt148.1, bt148.2.1, bt148.2.2.1⟩ : S85)])) else (none)) else (some ((⟨#[]⟩ : ByteArray), ([] : List (S85)), (⟨#[]⟩ : ByteArray), false)))) else (some (x147000, x147001, x0, true))) else (none)
def pedigreeref29_readFact.f (k : Nat) (a0 : ByteArray) : Option (ByteArray × (List (S85)) × ByteArray × Bool) := (pedigreeref29_take.f a0 1).bind fun bt137 => (if bt137.2.2 = true then (if 0 < (bt137.1.size : Int) then ((pedigreeref29_take.f bt137.2.1 (wrap64 (bt bt137.1 0))).bind fun bt140 => (if bt140.2.2 = true then ((pedigreeref29_take.f bt140.2.1 1).bind fun bt143 => (if bt143.2.2 = true then (pedigreeref29_readFact.l0 k bt143.2.1 bt143.1 0 bt140.1 ([] : List (S85))) else (some ((⟨#[]⟩ : ByteArray), ([] : List (S85)), (⟨#[]⟩ : ByteArray), false)))) else (some ((⟨#[]⟩ : ByteArray), ([] : List (S85)), (⟨#[]⟩ : ByteArray), false)))) else (none)) else (some ((⟨#[]⟩ : ByteArray), ([] : List (S85)), (⟨#[]⟩ : ByteArray), false)))
set_option maxHeartbeats 8000000 in
set_option maxRecDepth 100000 in
theorem pedigreeref29_readFact.calls (k : Nat) (a0 : ByteArray) (r1 : ByteArray) (r2 : List (S85)) (r3 : ByteArray) (r4 : Bool) (w : World) (h : pedigreeref29_readFact.f k a0 = some (r1, r2, r3, r4)) :
  Calls Tryz.prog 95 #[.string a0] w fun e w' => ∃ v1_ : Value, e = .returned (.tuple #[.agg #[.string r1, v1_], .string r3, .bool r4]) ∧ Kd.R k85 85 w' w.heap.size (fun _ => True) v1_ r2 ∧ Below w.heap.size w w' := by
 have hu90 := Tryz.underlying90
 have hu85 := Tryz.underlying85
 have HB := Aside0.mk (Below.refl w.heap.size w)
 have H : ((pedigreeref29_take.f a0 1).bind fun bt137 => (if bt137.2.2 = true then (if 0 < (bt137.1.size : Int) then ((pedigreeref29_take.f bt137.2.1 (wrap64 (bt bt137.1 0))).bind fun bt140 => (if bt140.2.2 = true then ((pedigreeref29_take.f bt140.2.1 1).bind fun bt143 => (if bt143.2.2 = true then (pedigreeref29_readFact.l0 k bt143.2.1 bt143.1 0 bt140.1 ([] : List (S85))) else (some ((⟨#[]⟩ : ByteArray), ([] : List (S85)), (⟨#[]⟩ : ByteArray), false)))) else (some ((⟨#[]⟩ : ByteArray), ([] : List (S85)), (⟨#[]⟩ : ByteArray), false)))) else (none)) else (some ((⟨#[]⟩ : ByteArray), ([] : List (S85)), (⟨#[]⟩ : ByteArray), false)))) = some (r1, r2, r3, r4) := h
 clear h
 replace H := Option.bind_eq_some_iff.mp H
 obtain ⟨⟨t137, t138, t139⟩, A20, H⟩ := H
 replace H : (if t139 = true then (if 0 < (t137.size : Int) then ((pedigreeref29_take.f t138 (wrap64 (bt t137 0))).bind fun bt140 => (if bt140.2.2 = true then ((pedigreeref29_take.f bt140.2.1 1).bind fun bt143 => (if bt143.2.2 = true then (pedigreeref29_readFact.l0 k bt143.2.1 bt143.1 0 bt140.1 ([] : List (S85))) else (some ((⟨#[]⟩ : ByteArray), ([] : List (S85)), (⟨#[]⟩ : ByteArray), false)))) else (some ((⟨#[]⟩ : ByteArray), ([] : List (S85)), (⟨#[]⟩ : ByteArray), false)))) else (none)) else (some ((⟨#[]⟩ : ByteArray), ([] : List (S85)), (⟨#[]⟩ : ByteArray), false))) = some (r1, r2, r3, r4) := H
 have A2 := Aside0.mk A20
 clear A20
 by_cases c3 : t139 = true
 focus
  subst c3
  have H1 : (if 0 < (t137.size : Int) then ((pedigreeref29_take.f t138 (wrap64 (bt t137 0))).bind fun bt140 => (if bt140.2.2 = true then ((pedigreeref29_take.f bt140.2.1 1).bind fun bt143 => (if bt143.2.2 = true then (pedigreeref29_readFact.l0 k bt143.2.1 bt143.1 0 bt140.1 ([] : List (S85))) else (some ((⟨#[]⟩ : ByteArray), ([] : List (S85)), (⟨#[]⟩ : ByteArray), false)))) else (some ((⟨#[]⟩ : ByteArray), ([] : List (S85)), (⟨#[]⟩ : ByteArray), false)))) else (none)) = some (r1, r2, r3, r4) := by rw [if_pos rfl] at H; exact H
  clear H
  have H := H1
  clear H1
  by_cases c4 : 0 < (t137.size : Int)
  focus
   rw [if_pos c4] at H
   have c4b0 := decide_eq_true c4
   have c4b1 : decide (0 < t137.size) = true := decide_eq_true (by omega)
   clear c4
   replace H := Option.bind_eq_some_iff.mp H
   obtain ⟨⟨t140, t141, t142⟩, A60, H⟩ := H
   replace H : (if t142 = true then ((pedigreeref29_take.f t141 1).bind fun bt143 => (if bt143.2.2 = true then (pedigreeref29_readFact.l0 k bt143.2.1 bt143.1 0 t140 ([] : List (S85))) else (some ((⟨#[]⟩ : ByteArray), ([] : List (S85)), (⟨#[]⟩ : ByteArray), false)))) else (some ((⟨#[]⟩ : ByteArray), ([] : List (S85)), (⟨#[]⟩ : ByteArray), false))) = some (r1, r2, r3, r4) := H
   have A6 := Aside0.mk A60
   clear A60
   by_cases c7 : t142 = true
   focus
    subst c7
    have H1 : ((pedigreeref29_take.f t141 1).bind fun bt143 => (if bt143.2.2 = true then (pedigreeref29_readFact.l0 k bt143.2.1 bt143.1 0 t140 ([] : List (S85))) else (some ((⟨#[]⟩ : ByteArray), ([] : List (S85)), (⟨#[]⟩ : ByteArray), false)))) = some (r1, r2, r3, r4) := by rw [if_pos rfl] at H; exact H
    clear H
    have H := H1
    clear H1
    replace H := Option.bind_eq_some_iff.mp H
    obtain ⟨⟨t143, t144, t145⟩, A80, H⟩ := H
    replace H : (if t145 = true then (pedigreeref29_readFact.l0 k t144 t143 0 t140 ([] : List (S85))) else (some ((⟨#[]⟩ : ByteArray), ([] : List (S85)), (⟨#[]⟩ : ByteArray), false))) = some (r1, r2, r3, r4) := H
    have A8 := Aside0.mk A80
    clear A80
    by_cases c9 : t145 = true
    focus
     subst c9
     have H1 : (pedigreeref29_readFact.l0 k t144 t143 0 t140 ([] : List (S85))) = some (r1, r2, r3, r4) := by rw [if_pos rfl] at H; exact H
     clear H
     have H := H1
     clear H1
     have H' := Aside0.mk H
     clear H
     go_enter Tryz.func95, Tryz.ntmps95
     go_wp2_with (first | ((with_reducible refine gate_dst (N := 2) rfl ?_); refine boxS 2 #[.string (⟨#[]⟩ : ByteArray), .slice none 0 0] 90 ?_; intro gb136 hg w10 hbox hb; have n0_ := Aside0.mk (below_step (upB HB.out) hb); have n1_ := Aside0.mk (hbox); have n2_ := Aside0.mk (geB hg (upB HB.out) : w.heap.size ≤ gb136); have n3_ := Aside0.mk (geB hg (upB HB.out) : w.heap.size ≤ gb136); clear HB; have HB := n0_; have BK136 := n1_; have GW136 := n2_; have GE136 := n3_; clear n0_ n1_ n2_ n3_; clear hb hbox hg) | ((with_reducible refine gate_callee (f := 94) rfl ?_); refine goesS (some 13) Tryz.func94 #[.string a0, .int .i64 1] ?_; (with_reducible refine (pedigreeref29_take.calls a0 1 t137 t138 true _ A2.out).mono ?_); rintro e w' ⟨rfl, ⟨nd, rfl⟩⟩; refine ⟨_, rfl, ?_⟩; (try (rw [drewN_self w10]; generalize hq_ : World.drewN w10 _ = w10; have n0_ : Aside0 (w10.heap[gb136]? = some (.cells #[.string (⟨#[]⟩ : ByteArray), .slice none 0 0] 90 (0, 0))) := ⟨by rw [← hq_]; exact (upO BK136.out)⟩; have n1_ : Aside0 (Below w.heap.size w w10) := ⟨by rw [← hq_]; exact (upB HB.out)⟩; clear BK136 HB hq_; have BK136 := n0_; have HB := n1_; clear n0_ n1_)); have p5 : 0 ≤ (0 : Int) := (by omega); have q5 : 0 < t137.size := (by have : (0 : Int) < (t137.size : Int) := of_decide_eq_true byA; omega); have hx5 : ∀ h : 0 < t137.size, ((t137[0]'h).toNat : Int) = bt t137 0 := bt_at t137 0; clear p5; have qi5 : (0 < (t137.size : Int)) = True := eq_true (of_decide_eq_true byA); replace q5 := eq_true q5) | ((with_reducible refine gate_callee (f := 94) rfl ?_); refine goesS (some 25) Tryz.func94 #[.string t138, .int .i64 (wrap64 (bt t137 0))] ?_; (with_reducible refine (pedigreeref29_take.calls t138 (wrap64 (bt t137 0)) t140 t141 true _ A6.out).mono ?_); rintro e w' ⟨rfl, ⟨nd, rfl⟩⟩; refine ⟨_, rfl, ?_⟩; (try (rw [drewN_self w10]; generalize hq_ : World.drewN w10 _ = w10; have n0_ : Aside0 (w10.heap[gb136]? = some (.cells #[.string (⟨#[]⟩ : ByteArray), .slice none 0 0] 90 (0, 0))) := ⟨by rw [← hq_]; exact (upO BK136.out)⟩; have n1_ : Aside0 (Below w.heap.size w w10) := ⟨by rw [← hq_]; exact (upB HB.out)⟩; clear BK136 HB hq_; have BK136 := n0_; have HB := n1_; clear n0_ n1_))) | ((with_reducible refine gate_callee (f := 94) rfl ?_); refine goesS (some 34) Tryz.func94 #[.string t141, .int .i64 1] ?_; (with_reducible refine (pedigreeref29_take.calls t141 1 t143 t144 true _ A8.out).mono ?_); rintro e w' ⟨rfl, ⟨nd, rfl⟩⟩; refine ⟨_, rfl, ?_⟩; (try (rw [drewN_self w10]; generalize hq_ : World.drewN w10 _ = w10; have n0_ : Aside0 (w10.heap[gb136]? = some (.cells #[.string (⟨#[]⟩ : ByteArray), .slice none 0 0] 90 (0, 0))) := ⟨by rw [← hq_]; exact (upO BK136.out)⟩; have n1_ : Aside0 (Below w.heap.size w w10) := ⟨by rw [← hq_]; exact (upB HB.out)⟩; clear BK136 HB hq_; have BK136 := n0_; have HB := n1_; clear n0_ n1_))) | ((with_reducible refine gate_dst (N := 8) rfl ?_); refine boxS 8 #[.string (⟨#[]⟩ : ByteArray), .slice none 0 0] 90 ?_; intro gb146 hg w11 hbox hb; have n0_ := Aside0.mk (blk_below (g := gb136) (o := .cells #[.string (⟨#[]⟩ : ByteArray), .slice none 0 0] 90 (0, 0)) (upO BK136.out) hb); have n1_ := Aside0.mk (below_step (upB HB.out) hb); have n2_ := Aside0.mk (hbox); have n3_ := Aside0.mk (geB hg (upB HB.out) : w.heap.size ≤ gb146); have n4_ := Aside0.mk (geB hg (upB HB.out) : w.heap.size ≤ gb146); have n5_ := Aside0.mk ((by rw [hg]; exact Nat.ne_of_lt (blk_lt (g := gb136) (o := .cells #[.string (⟨#[]⟩ : ByteArray), .slice none 0 0] 90 (0, 0)) (upO BK136.out)) : gb136 ≠ gb146)); have n6_ := Aside0.mk ((by rw [hg]; exact Nat.ne_of_gt (blk_lt (g := gb136) (o := .cells #[.string (⟨#[]⟩ : ByteArray), .slice none 0 0] 90 (0, 0)) (upO BK136.out)) : gb146 ≠ gb136)); clear BK136; clear HB; have BK136 := n0_; have HB := n1_; have BK146 := n2_; have GW146 := n3_; have GE146 := n4_; have NB136_146 := n5_; have NB146_136 := n6_; clear n0_ n1_ n2_ n3_ n4_ n5_ n6_; clear hb hbox hg; have hnb12 := NB146_136.out; have hnc12 := NB136_146.out; have hcz13_0 : w11.cell? ⟨gb146, 0, none⟩ = some (.string (⟨#[]⟩ : ByteArray)) := (blk_cell BK146.out 0).trans rfl; have hcz13_1 : w11.cell? ⟨gb146, 1, none⟩ = some (.slice none 0 0) := (blk_cell BK146.out 1).trans rfl; have hfz13_0 := blk_frozen BK146.out 0; have hfz13_1 := blk_frozen BK146.out 1))
     go_loopg [0, 9] k (fun kq v0 v9 w' => ∃ (x0_1 : ByteArray) (x9_1 : Int) (x137000_1 : ByteArray) (x147001_1 : List (S85)) (u147001 : Value), v0 = .string x0_1 ∧ v9 = .int .i64 x9_1 ∧ Aside0 (pedigreeref29_readFact.l0 kq x0_1 t143 x9_1 t140 x147001_1 = some (r1, r2, r3, r4)) ∧ Aside0 (kq ≤ k) ∧ Aside0 (Kd.R k85 85 w' w.heap.size (fun _ => True) u147001 x147001_1) ∧ Aside0 (w'.heap[gb136]? = some (.cells #[.string x137000_1, (.slice none 0 0)] 90 (0, 0))) ∧ Aside0 (w'.heap[gb146]? = some (.cells #[.string t140, u147001] 90 (0, 0))) ∧ Aside0 (Below w.heap.size w w'))
     case atStart => exact ⟨(t144), (0), ((⟨#[]⟩ : ByteArray)), (([] : List (S85))), (.slice none 0 0), eqS, eqS, H', ⟨Nat.le_refl _⟩, ⟨by first | exact Kd.R_nil _ _ _ _ _ | exact Kd.N_nil _ _ _ _ _ | exact Kd.V_nil _ _ _ _ _ | exact Kd.Q_nil _ _ _ _ _ | exact Kd.S_nil _ _ _ _ _⟩, ⟨by refine upO ?_; refine blk_far ?_ NB136_146.out _; refine upO ?_; refine blk_far ?_ NB136_146.out _; exact upO BK136.out⟩, ⟨by refine upO ?_; refine blk_put (cs := #[.string t140, .slice none 0 0]) ?_ 1 _ rfl; refine upO ?_; refine blk_put (cs := #[.string (⟨#[]⟩ : ByteArray), .slice none 0 0]) ?_ 0 _ rfl; exact upO BK146.out⟩, ⟨upB HB.out⟩⟩
     case' round =>
      clear H'
      try clear c1
      try clear p2
      try clear c3
      try clear c4
      try clear c4b0
      try clear c4b1
      try clear p5
      try clear q5
      try clear hx5
      try clear qi5
      try clear p6
      try clear c7
      try clear c9
      try clear c12
      try clear hcz13_0
      try clear hcz13_1
      try clear hfz13_0
      try clear hfz13_1
      try clear p5
      try clear q5
      obtain ⟨x0_1, x9_1, x137000_1, x147001_1, u147001, rfl, rfl, HA, HK1, HO_147001, BK136, BK146, HB⟩ := hrel
      rcases gk with _ | k1
      ·exact absurd HA.out (by simp [pedigreeref29_readFact.l0])
      focus
       have H := HA.out
       clear HA
       simp only [pedigreeref29_readFact.l0] at H
       by_cases c14 : 0 < (t143.size : Int)
       focus
        rw [if_pos c14] at H
        have c14b0 := decide_eq_true c14
        have c14b1 : decide (0 < t143.size) = true := decide_eq_true (by omega)
        clear c14
        by_cases c16 : x9_1 < (wrap64 (bt t143 0))
        focus
         rw [if_pos c16] at H
         have c16b0 := decide_eq_true c16
         clear c16
         replace H := Option.bind_eq_some_iff.mp H
         obtain ⟨⟨t148, t149, t150, t151, t152⟩, A170, H⟩ := H
         replace H : (if t152 = true then (if x147001_1.length < 4398046511104 then (pedigreeref29_readFact.l0 k1 t151 t143 (wrap64 (x9_1 + 1)) t140 (x147001_1 ++ [(⟨t148, t149, t150⟩ : S85)])) else (none)) else (some ((⟨#[]⟩ : ByteArray), ([] : List (S85)), (⟨#[]⟩ : ByteArray), false))) = some (r1, r2, r3, r4) := H
         have A17 := Aside0.mk A170
         clear A170
         by_cases c18 : t152 = true
         ·subst c18
          have H1 : (if x147001_1.length < 4398046511104 then (pedigreeref29_readFact.l0 k1 t151 t143 (wrap64 (x9_1 + 1)) t140 (x147001_1 ++ [(⟨t148, t149, t150⟩ : S85)])) else (none)) = some (r1, r2, r3, r4) := by rw [if_pos rfl] at H; exact H
          clear H
          have H := H1
          clear H1
          by_cases c19 : x147001_1.length < 4398046511104
          ·rw [if_pos c19] at H
           have LMc19 := Aside0.mk c19
           clear c19
           obtain ⟨y153, hy153⟩ : ∃ y_ : List (S85), y_ = (x147001_1 ++ [(⟨t148, t149, t150⟩ : S85)]) := ⟨_, rfl⟩
           replace H : (pedigreeref29_readFact.l0 k1 t151 t143 (wrap64 (x9_1 + 1)) t140 y153) = some (r1, r2, r3, r4) := by first | (rw [hy153]; with_reducible exact H) | (have H2_ := (Option.bind_some _ _).symm.trans H; rw [hy153]; with_reducible exact H2_) | (have H2_ := (Option.bind_some _ _).symm.trans H; with_reducible exact H2_) | with_reducible exact H | (rw [hy153]; exact H) | exact H
           have Ny153 := Aside0.mk hy153
           clear hy153
           have H' := Aside0.mk H
           clear H
           have p15 : 0 ≤ (0 : Int) := (by omega)
           have q15 : 0 < t143.size := (by have : (0 : Int) < (t143.size : Int) := of_decide_eq_true byA; omega)
           have hx15 : ∀ h : 0 < t143.size, ((t143[0]'h).toNat : Int) = bt t143 0 := bt_at t143 0
           clear p15
           have qi15 : (0 < (t143.size : Int)) = True := eq_true (of_decide_eq_true byA)
           replace q15 := eq_true q15
           go_wp2_with (first | ((with_reducible refine gate_dst (N := 10) rfl ?_); refine boxS 10 #[.int .i8 0, .int .i64 0, .string (⟨#[]⟩ : ByteArray)] 85 ?_; intro gb147 hg w20 hbox hb; have n0_ := Aside0.mk (Kd.R_below (Kd.R_elderB (upR HO_147001.out) gb147 (Nat.le_of_eq hg.symm)) hb); have n1_ := Aside0.mk (blk_below (g := gb136) (o := .cells #[.string x137000_1, .slice none 0 0] 90 (0, 0)) (upO BK136.out) hb); have n2_ := Aside0.mk (blk_below (g := gb146) (o := .cells #[.string t140, u147001] 90 (0, 0)) (upO BK146.out) hb); have n3_ := Aside0.mk (below_step (upB HB.out) hb); have n4_ := Aside0.mk (hbox); have n5_ := Aside0.mk (geB hg (upB HB.out) : w.heap.size ≤ gb147); have n6_ := Aside0.mk (geB hg (upB HB.out) : w.heap.size ≤ gb147); have n7_ := Aside0.mk ((by rw [hg]; exact Nat.ne_of_lt (blk_lt (g := gb136) (o := .cells #[.string x137000_1, .slice none 0 0] 90 (0, 0)) (upO BK136.out)) : gb136 ≠ gb147)); have n8_ := Aside0.mk ((by rw [hg]; exact Nat.ne_of_gt (blk_lt (g := gb136) (o := .cells #[.string x137000_1, .slice none 0 0] 90 (0, 0)) (upO BK136.out)) : gb147 ≠ gb136)); have n9_ := Aside0.mk ((by rw [hg]; exact Nat.ne_of_lt (blk_lt (g := gb146) (o := .cells #[.string t140, u147001] 90 (0, 0)) (upO BK146.out)) : gb146 ≠ gb147)); have n10_ := Aside0.mk ((by rw [hg]; exact Nat.ne_of_gt (blk_lt (g := gb146) (o := .cells #[.string t140, u147001] 90 (0, 0)) (upO BK146.out)) : gb147 ≠ gb146)); clear HO_147001; clear BK136; clear BK146; clear HB; have HO_147001 := n0_; have BK136 := n1_; have BK146 := n2_; have HB := n3_; have BK147 := n4_; have GW147 := n5_; have GE147 := n6_; have NB136_147 := n7_; have NB147_136 := n8_; have NB146_147 := n9_; have NB147_146 := n10_; clear n0_ n1_ n2_ n3_ n4_ n5_ n6_ n7_ n8_ n9_ n10_; clear hb hbox hg) | ((with_reducible refine gate_callee (f := 213) rfl ?_); refine goesS (some 52) Tryz.func213 #[.string x0_1] ?_; (with_reducible refine (pedigreeref29_readValue.calls k1 x0_1 t148 t149 t150 t151 true _ A17.out).mono ?_); rintro e w21 ⟨rfl, hb⟩; refine ⟨_, rfl, ?_⟩; have n0_ := Aside0.mk (Kd.R_below (upR HO_147001.out) hb); have n1_ := Aside0.mk (blk_below (g := gb136) (o := .cells #[.string x137000_1, .slice none 0 0] 90 (0, 0)) (upO BK136.out) hb); have n2_ := Aside0.mk (blk_below (g := gb146) (o := .cells #[.string t140, u147001] 90 (0, 0)) (upO BK146.out) hb); have n3_ := Aside0.mk (blk_below (g := gb147) (o := .cells #[.int .i8 0, .int .i64 0, .string (⟨#[]⟩ : ByteArray)] 85 (0, 0)) (upO BK147.out) hb); have n4_ := Aside0.mk (below_step (upB HB.out) hb); clear HO_147001; clear BK136; clear BK146; clear BK147; clear HB; have HO_147001 := n0_; have BK136 := n1_; have BK146 := n2_; have BK147 := n3_; have HB := n4_; clear n0_ n1_ n2_ n3_ n4_; (try clear hb); (try clear hb2); (try clear hk); (try clear hi); have hnb22 := NB147_136.out; have hnc22 := NB136_147.out; have hnb23 := NB147_146.out; have hnc23 := NB146_147.out; have hcz24_0 : w21.cell? ⟨gb147, 0, none⟩ = some (.int .i8 0) := (blk_cell BK147.out 0).trans rfl; have hcz24_1 : w21.cell? ⟨gb147, 1, none⟩ = some (.int .i64 0) := (blk_cell BK147.out 1).trans rfl; have hcz24_2 : w21.cell? ⟨gb147, 2, none⟩ = some (.string (⟨#[]⟩ : ByteArray)) := (blk_cell BK147.out 2).trans rfl; have hfz24_0 := blk_frozen BK147.out 0; have hfz24_1 := blk_frozen BK147.out 1; have hfz24_2 := blk_frozen BK147.out 2; have hnb25 := NB146_136.out; have hnc25 := NB136_146.out; have hcz26_0 : w21.cell? ⟨gb146, 0, none⟩ = some (.string t140) := (blk_cell BK146.out 0).trans rfl; have hcz26_1 : w21.cell? ⟨gb146, 1, none⟩ = some (u147001) := (blk_cell BK146.out 1).trans rfl; have hfz26_0 := blk_frozen BK146.out 0; have hfz26_1 := blk_frozen BK146.out 1) | ((with_reducible refine gate_builtin (b := .append) (xs := #[.tmp 60, .tmp 62]) rfl ?_); at_builtin; refine Kd.R_append k85 (w0 := w) w.heap.size rfl (.tmp 60) (.tmp 62) 88 85 (.agg #[(.int .i8 0), (.int .i64 0), (.string ⟨#[]⟩)]) 32 rfl Tryz.underlying88 info85 rfl (by decide) (by omega) u147001 x147001_1 (⟨t148, t149, t150⟩ : S85) [.int .i8 t148, .int .i64 t149, .string t150] (fun k_ => k_ ≠ gb147) (fun _ => False) rfl (by first | (go_simp; done) | (go_simp; rfl)) ?aP (fun _ hk => hk.elim) ?aF ?aO ?aB ?aS ?aL ?_; (case aP => exact k85_mkM _ _ _ (⟨t148, t149, t150⟩ : S85)); (case aB => exact (upB HB.out)); (case aF => exact (fun k_ hk => Kd.freshB (g := gb147) (o := .cells #[.int .i8 t148, .int .i64 t149, .string t150] 85 (0, 0)) (by refine upO ?_; refine blk_put (cs := #[.int .i8 t148, .int .i64 t149, .string (⟨#[]⟩ : ByteArray)]) ?_ 2 _ rfl; refine upO ?_; refine blk_put (cs := #[.int .i8 t148, .int .i64 0, .string (⟨#[]⟩ : ByteArray)]) ?_ 1 _ rfl; refine upO ?_; refine blk_put (cs := #[.int .i8 0, .int .i64 0, .string (⟨#[]⟩ : ByteArray)]) ?_ 0 _ rfl; exact upO BK147.out) k_ hk)); (case aO => exact (by (with_reducible repeat (first | apply Kd.R_alloc | apply Kd.R_drewN | apply Kd.R_drew)); exact Kd.R_mono (Kd.R_far (p := ⟨gb147, 2, none⟩) (Kd.R_far (p := ⟨gb147, 1, none⟩) (Kd.R_far (p := ⟨gb147, 0, none⟩) (Kd.R_mono HO_147001.out (fun k_ hk => (⟨hk, hk.2⟩ : _ ∧ k_ ≠ gb147))) (fun _ hk => hk.2) (.int .i8 t148)) (fun _ hk => hk.2) (.int .i64 t149)) (fun _ hk => hk.2) (.string t150)) (fun _ hk => hk.1.2))); (case aS => exact (below_size (upB HB.out))); (case aL => have := LMc19.out; omega); intro v154 w27 ho hb hg hat; rw [← Ny153.out] at ho; have n0_ := Aside0.mk (blk_grown (g := gb136) (o := .cells #[.string x137000_1, .slice none 0 0] 90 (0, 0)) (by refine upO ?_; refine blk_far ?_ NB136_147.out _; refine upO ?_; refine blk_far ?_ NB136_147.out _; refine upO ?_; refine blk_far ?_ NB136_147.out _; exact upO BK136.out) hg (Kd.R_ne HO_147001.out BK136.out (by decide))); have n1_ := Aside0.mk (blk_grown (g := gb146) (o := .cells #[.string t140, u147001] 90 (0, 0)) (by refine upO ?_; refine blk_far ?_ NB146_147.out _; refine upO ?_; refine blk_far ?_ NB146_147.out _; refine upO ?_; refine blk_far ?_ NB146_147.out _; exact upO BK146.out) hg (Kd.R_ne HO_147001.out BK146.out (by decide))); have n2_ := Aside0.mk (blk_grown (g := gb147) (o := .cells #[.int .i8 t148, .int .i64 t149, .string t150] 85 (0, 0)) (by refine upO ?_; refine blk_put (cs := #[.int .i8 t148, .int .i64 t149, .string (⟨#[]⟩ : ByteArray)]) ?_ 2 _ rfl; refine upO ?_; refine blk_put (cs := #[.int .i8 t148, .int .i64 0, .string (⟨#[]⟩ : ByteArray)]) ?_ 1 _ rfl; refine upO ?_; refine blk_put (cs := #[.int .i8 0, .int .i64 0, .string (⟨#[]⟩ : ByteArray)]) ?_ 0 _ rfl; exact upO BK147.out) hg (Kd.R_away HO_147001.out (fun _ hk => hk.2))); have n3_ := Aside0.mk (hb); have n4_ := Aside0.mk (ho); clear BK136; clear BK146; clear BK147; clear HB; clear HO_147001; have BK136 := n0_; have BK146 := n1_; have BK147 := n2_; have HB := n3_; have HO155 := n4_; clear n0_ n1_ n2_ n3_ n4_; clear ho hb hg hat; obtain ⟨Ao28, co28, eo28⟩ := Kd.R_slice HO155.out; subst eo28; have hcz29_0 : w27.cell? ⟨gb146, 0, none⟩ = some (.string t140) := (blk_cell BK146.out 0).trans rfl; have hcz29_1 : w27.cell? ⟨gb146, 1, none⟩ = some (u147001) := (blk_cell BK146.out 1).trans rfl; have hfz29_0 := blk_frozen BK146.out 0; have hfz29_1 := blk_frozen BK146.out 1))
           go_roundg k1
           case measure => have := HK1.out; omega
           case rel => exact ⟨(t151), (wrap64 (x9_1 + 1)), (x137000_1), (y153), (.slice Ao28 y153.length co28), eqS, eqS, H', ⟨by have := HK1.out; omega⟩, ⟨by (with_reducible repeat (first | apply Kd.R_alloc | apply Kd.R_drewN | apply Kd.R_drew)); exact Kd.R_mono (Kd.R_far (p := ⟨gb146, 1, none⟩) (Kd.R_types HO155.out BK146.out (by decide)) (fun _ hk => hk.2) (.slice Ao28 y153.length co28)) (fun _ hk => trivial)⟩, ⟨by refine upO ?_; refine blk_far ?_ NB136_146.out _; exact upO BK136.out⟩, ⟨by refine upO ?_; refine blk_put (cs := #[.string t140, u147001]) ?_ 1 _ rfl; exact upO BK146.out⟩, ⟨upB HB.out⟩⟩
          ·rw [if_neg c19] at H
           exact absurd H (by simp)
         focus
          replace c18 := Bool.eq_false_iff.mpr c18
          subst c18
          have H1 : (some ((⟨#[]⟩ : ByteArray), ([] : List (S85)), (⟨#[]⟩ : ByteArray), false)) = some (r1, r2, r3, r4) := by rw [if_neg (show ¬ (false = true) by decide)] at H; exact H
          clear H
          have H := H1
          clear H1
          simp only [Option.some.injEq, Prod.mk.injEq] at H
          obtain ⟨rfl, rfl, rfl, rfl⟩ := H
          have p15 : 0 ≤ (0 : Int) := (by omega)
          have q15 : 0 < t143.size := (by have : (0 : Int) < (t143.size : Int) := of_decide_eq_true byA; omega)
          have hx15 : ∀ h : 0 < t143.size, ((t143[0]'h).toNat : Int) = bt t143 0 := bt_at t143 0
          clear p15
          have qi15 : (0 < (t143.size : Int)) = True := eq_true (of_decide_eq_true byA)
          replace q15 := eq_true q15
        rotate_right
        ·rw [if_neg c16] at H
         have c16b0 := decide_eq_false c16
         clear c16
         simp only [Option.some.injEq, Prod.mk.injEq] at H
         obtain ⟨rfl, rfl, rfl, rfl⟩ := H
         have p15 : 0 ≤ (0 : Int) := (by omega)
         have q15 : 0 < t143.size := (by have : (0 : Int) < (t143.size : Int) := of_decide_eq_true byA; omega)
         have hx15 : ∀ h : 0 < t143.size, ((t143[0]'h).toNat : Int) = bt t143 0 := bt_at t143 0
         clear p15
         have qi15 : (0 < (t143.size : Int)) = True := eq_true (of_decide_eq_true byA)
         replace q15 := eq_true q15
         have hnb37 := NB146_136.out
         have hnc37 := NB136_146.out
         have hcz38_0 : wr.cell? ⟨gb146, 0, none⟩ = some (.string t140) := (blk_cell BK146.out 0).trans rfl
         have hcz38_1 : wr.cell? ⟨gb146, 1, none⟩ = some (u147001) := (blk_cell BK146.out 1).trans rfl
         have hfz38_0 := blk_frozen BK146.out 0
         have hfz38_1 := blk_frozen BK146.out 1
         have hcz39_0 : wr.cell? ⟨gb136, 0, none⟩ = some (.string x137000_1) := (blk_cell BK136.out 0).trans rfl
         have hcz39_1 : wr.cell? ⟨gb136, 1, none⟩ = some (.slice none 0 0) := (blk_cell BK136.out 1).trans rfl
         have hfz39_0 := blk_frozen BK136.out 0
         have hfz39_1 := blk_frozen BK136.out 1
         obtain ⟨Ao40, co40, eo40⟩ := Kd.R_slice HO_147001.out
         subst eo40
         go_wp2
         refine bodyPost_ret (results_ctt rfl _ _ gb136 90 #[.string t140, .slice Ao40 x147001_1.length co40] (0, 0) _ rfl (by refine upO ?_; refine blk_put (cs := #[.string t140, .slice none 0 0]) ?_ 1 _ rfl; refine upO ?_; refine blk_put (cs := #[.string x137000_1, .slice none 0 0]) ?_ 0 _ rfl; exact upO BK136.out) Tryz.underlying90 rfl (by kernel_rfl)) rfl ?_
         exact ⟨_, eqE, by (with_reducible repeat (first | apply Kd.R_alloc | apply Kd.R_drewN | apply Kd.R_drew)); exact Kd.R_mono (Kd.R_far (p := ⟨gb136, 1, none⟩) (Kd.R_far (p := ⟨gb136, 0, none⟩) (Kd.R_types HO_147001.out BK136.out (by decide)) (fun _ hk => hk.2) (.string t140)) (fun _ hk => hk.2) (.slice Ao40 x147001_1.length co40)) (fun _ hk => trivial), upB HB.out⟩
       rotate_right
       ·rw [if_neg c14] at H
        exact absurd H (by simp)
    rotate_right
    focus
     replace c9 := Bool.eq_false_iff.mpr c9
     subst c9
     have H1 : (some ((⟨#[]⟩ : ByteArray), ([] : List (S85)), (⟨#[]⟩ : ByteArray), false)) = some (r1, r2, r3, r4) := by rw [if_neg (show ¬ (false = true) by decide)] at H; exact H
     clear H
     have H := H1
     clear H1
     simp only [Option.some.injEq, Prod.mk.injEq] at H
     obtain ⟨rfl, rfl, rfl, rfl⟩ := H
   rotate_right
   focus
    replace c7 := Bool.eq_false_iff.mpr c7
    subst c7
    have H1 : (some ((⟨#[]⟩ : ByteArray), ([] : List (S85)), (⟨#[]⟩ : ByteArray), false)) = some (r1, r2, r3, r4) := by rw [if_neg (show ¬ (false = true) by decide)] at H; exact H
    clear H
    have H := H1
    clear H1
    simp only [Option.some.injEq, Prod.mk.injEq] at H
    obtain ⟨rfl, rfl, rfl, rfl⟩ := H
  rotate_right
  ·rw [if_neg c4] at H
   exact absurd H (by simp)
 rotate_right
 focus
  replace c3 := Bool.eq_false_iff.mpr c3
  subst c3
  have H1 : (some ((⟨#[]⟩ : ByteArray), ([] : List (S85)), (⟨#[]⟩ : ByteArray), false)) = some (r1, r2, r3, r4) := by rw [if_neg (show ¬ (false = true) by decide)] at H; exact H
  clear H
  have H := H1
  clear H1
  simp only [Option.some.injEq, Prod.mk.injEq] at H
  obtain ⟨rfl, rfl, rfl, rfl⟩ := H
 all_goals first | (go_wp2_with (first | ((with_reducible refine gate_dst (N := 10) rfl ?_); refine boxS 10 #[.int .i8 0, .int .i64 0, .string (⟨#[]⟩ : ByteArray)] 85 ?_; intro gb147 hg wq1 hbox hb; have n0_ := Aside0.mk (Kd.R_below (Kd.R_elderB (upR HO_147001.out) gb147 (Nat.le_of_eq hg.symm)) hb); have n1_ := Aside0.mk (blk_below (g := gb136) (o := .cells #[.string x137000_1, .slice none 0 0] 90 (0, 0)) (upO BK136.out) hb); have n2_ := Aside0.mk (blk_below (g := gb146) (o := .cells #[.string t140, u147001] 90 (0, 0)) (upO BK146.out) hb); have n3_ := Aside0.mk (below_step (upB HB.out) hb); have n4_ := Aside0.mk (hbox); have n5_ := Aside0.mk (geB hg (upB HB.out) : w.heap.size ≤ gb147); have n6_ := Aside0.mk (geB hg (upB HB.out) : w.heap.size ≤ gb147); have n7_ := Aside0.mk ((by rw [hg]; exact Nat.ne_of_lt (blk_lt (g := gb136) (o := .cells #[.string x137000_1, .slice none 0 0] 90 (0, 0)) (upO BK136.out)) : gb136 ≠ gb147)); have n8_ := Aside0.mk ((by rw [hg]; exact Nat.ne_of_gt (blk_lt (g := gb136) (o := .cells #[.string x137000_1, .slice none 0 0] 90 (0, 0)) (upO BK136.out)) : gb147 ≠ gb136)); have n9_ := Aside0.mk ((by rw [hg]; exact Nat.ne_of_lt (blk_lt (g := gb146) (o := .cells #[.string t140, u147001] 90 (0, 0)) (upO BK146.out)) : gb146 ≠ gb147)); have n10_ := Aside0.mk ((by rw [hg]; exact Nat.ne_of_gt (blk_lt (g := gb146) (o := .cells #[.string t140, u147001] 90 (0, 0)) (upO BK146.out)) : gb147 ≠ gb146)); clear HO_147001; clear BK136; clear BK146; clear HB; have HO_147001 := n0_; have BK136 := n1_; have BK146 := n2_; have HB := n3_; have BK147 := n4_; have GW147 := n5_; have GE147 := n6_; have NB136_147 := n7_; have NB147_136 := n8_; have NB146_147 := n9_; have NB147_146 := n10_; clear n0_ n1_ n2_ n3_ n4_ n5_ n6_ n7_ n8_ n9_ n10_; clear hb hbox hg) | ((with_reducible refine gate_callee (f := 213) rfl ?_); refine goesS (some 52) Tryz.func213 #[.string x0_1] ?_; (with_reducible refine (pedigreeref29_readValue.calls k1 x0_1 t148 t149 t150 t151 false _ A17.out).mono ?_); rintro e wq2 ⟨rfl, hb⟩; refine ⟨_, rfl, ?_⟩; have n0_ := Aside0.mk (Kd.R_below (upR HO_147001.out) hb); have n1_ := Aside0.mk (blk_below (g := gb136) (o := .cells #[.string x137000_1, .slice none 0 0] 90 (0, 0)) (upO BK136.out) hb); have n2_ := Aside0.mk (blk_below (g := gb146) (o := .cells #[.string t140, u147001] 90 (0, 0)) (upO BK146.out) hb); have n3_ := Aside0.mk (blk_below (g := gb147) (o := .cells #[.int .i8 0, .int .i64 0, .string (⟨#[]⟩ : ByteArray)] 85 (0, 0)) (upO BK147.out) hb); have n4_ := Aside0.mk (below_step (upB HB.out) hb); clear HO_147001; clear BK136; clear BK146; clear BK147; clear HB; have HO_147001 := n0_; have BK136 := n1_; have BK146 := n2_; have BK147 := n3_; have HB := n4_; clear n0_ n1_ n2_ n3_ n4_; (try clear hb); (try clear hb2); (try clear hk); (try clear hi); have hnbq1 := NB147_136.out; have hncq1 := NB136_147.out; have hnbq2 := NB147_146.out; have hncq2 := NB146_147.out; have hczq1_0 : wq2.cell? ⟨gb147, 0, none⟩ = some (.int .i8 0) := (blk_cell BK147.out 0).trans rfl; have hczq1_1 : wq2.cell? ⟨gb147, 1, none⟩ = some (.int .i64 0) := (blk_cell BK147.out 1).trans rfl; have hczq1_2 : wq2.cell? ⟨gb147, 2, none⟩ = some (.string (⟨#[]⟩ : ByteArray)) := (blk_cell BK147.out 2).trans rfl; have hfzq1_0 := blk_frozen BK147.out 0; have hfzq1_1 := blk_frozen BK147.out 1; have hfzq1_2 := blk_frozen BK147.out 2; have hnbq3 := NB136_146.out; have hncq3 := NB146_136.out; have hczq2_0 : wq2.cell? ⟨gb136, 0, none⟩ = some (.string x137000_1) := (blk_cell BK136.out 0).trans rfl; have hczq2_1 : wq2.cell? ⟨gb136, 1, none⟩ = some (.slice none 0 0) := (blk_cell BK136.out 1).trans rfl; have hfzq2_0 := blk_frozen BK136.out 0; have hfzq2_1 := blk_frozen BK136.out 1)); first | (refine bodyPost_ret (results_ctt rfl _ _ gb136 90 #[.string (⟨#[]⟩ : ByteArray), .slice none 0 0] (0, 0) _ rfl (by refine upO ?_; refine blk_put (cs := #[.string (⟨#[]⟩ : ByteArray), .slice none 0 0]) ?_ 1 _ rfl; refine upO ?_; refine blk_put (cs := #[.string x137000_1, .slice none 0 0]) ?_ 0 _ rfl; refine upO ?_; refine blk_far ?_ NB136_147.out _; refine upO ?_; refine blk_far ?_ NB136_147.out _; refine upO ?_; refine blk_far ?_ NB136_147.out _; exact upO BK136.out) Tryz.underlying90 rfl (by kernel_rfl)) rfl ?_; exact ⟨_, eqE, by first | exact Kd.R_nil _ _ _ _ _ | exact Kd.N_nil _ _ _ _ _ | exact Kd.V_nil _ _ _ _ _ | exact Kd.Q_nil _ _ _ _ _ | exact Kd.S_nil _ _ _ _ _, upB HB.out⟩)) | (go_enter Tryz.func95, Tryz.ntmps95; go_wp2_with (first | ((with_reducible refine gate_dst (N := 2) rfl ?_); refine boxS 2 #[.string (⟨#[]⟩ : ByteArray), .slice none 0 0] 90 ?_; intro gb136 hg wq1 hbox hb; have n0_ := Aside0.mk (below_step (upB HB.out) hb); have n1_ := Aside0.mk (hbox); have n2_ := Aside0.mk (geB hg (upB HB.out) : w.heap.size ≤ gb136); have n3_ := Aside0.mk (geB hg (upB HB.out) : w.heap.size ≤ gb136); clear HB; have HB := n0_; have BK136 := n1_; have GW136 := n2_; have GE136 := n3_; clear n0_ n1_ n2_ n3_; clear hb hbox hg) | ((with_reducible refine gate_callee (f := 94) rfl ?_); refine goesS (some 13) Tryz.func94 #[.string a0, .int .i64 1] ?_; (with_reducible refine (pedigreeref29_take.calls a0 1 t137 t138 true _ A2.out).mono ?_); rintro e w' ⟨rfl, ⟨nd, rfl⟩⟩; refine ⟨_, rfl, ?_⟩; (try (rw [drewN_self wq1]; generalize hq_ : World.drewN wq1 _ = wq1; have n0_ : Aside0 (wq1.heap[gb136]? = some (.cells #[.string (⟨#[]⟩ : ByteArray), .slice none 0 0] 90 (0, 0))) := ⟨by rw [← hq_]; exact (upO BK136.out)⟩; have n1_ : Aside0 (Below w.heap.size w wq1) := ⟨by rw [← hq_]; exact (upB HB.out)⟩; clear BK136 HB hq_; have BK136 := n0_; have HB := n1_; clear n0_ n1_)); have p5 : 0 ≤ (0 : Int) := (by omega); have q5 : 0 < t137.size := (by have : (0 : Int) < (t137.size : Int) := of_decide_eq_true byA; omega); have hx5 : ∀ h : 0 < t137.size, ((t137[0]'h).toNat : Int) = bt t137 0 := bt_at t137 0; clear p5; have qi5 : (0 < (t137.size : Int)) = True := eq_true (of_decide_eq_true byA); replace q5 := eq_true q5) | ((with_reducible refine gate_callee (f := 94) rfl ?_); refine goesS (some 25) Tryz.func94 #[.string t138, .int .i64 (wrap64 (bt t137 0))] ?_; (with_reducible refine (pedigreeref29_take.calls t138 (wrap64 (bt t137 0)) t140 t141 false _ A6.out).mono ?_); rintro e w' ⟨rfl, ⟨nd, rfl⟩⟩; refine ⟨_, rfl, ?_⟩; (try (rw [drewN_self wq1]; generalize hq_ : World.drewN wq1 _ = wq1; have n0_ : Aside0 (wq1.heap[gb136]? = some (.cells #[.string (⟨#[]⟩ : ByteArray), .slice none 0 0] 90 (0, 0))) := ⟨by rw [← hq_]; exact (upO BK136.out)⟩; have n1_ : Aside0 (Below w.heap.size w wq1) := ⟨by rw [← hq_]; exact (upB HB.out)⟩; clear BK136 HB hq_; have BK136 := n0_; have HB := n1_; clear n0_ n1_)); have hczq1_0 : wq1.cell? ⟨gb136, 0, none⟩ = some (.string (⟨#[]⟩ : ByteArray)) := (blk_cell BK136.out 0).trans rfl; have hczq1_1 : wq1.cell? ⟨gb136, 1, none⟩ = some (.slice none 0 0) := (blk_cell BK136.out 1).trans rfl; have hfzq1_0 := blk_frozen BK136.out 0; have hfzq1_1 := blk_frozen BK136.out 1) | ((with_reducible refine gate_callee (f := 94) rfl ?_); refine goesS (some 34) Tryz.func94 #[.string t141, .int .i64 1] ?_; (with_reducible refine (pedigreeref29_take.calls t141 1 t143 t144 false _ A8.out).mono ?_); rintro e w' ⟨rfl, ⟨nd, rfl⟩⟩; refine ⟨_, rfl, ?_⟩; (try (rw [drewN_self wq1]; generalize hq_ : World.drewN wq1 _ = wq1; have n0_ : Aside0 (wq1.heap[gb136]? = some (.cells #[.string (⟨#[]⟩ : ByteArray), .slice none 0 0] 90 (0, 0))) := ⟨by rw [← hq_]; exact (upO BK136.out)⟩; have n1_ : Aside0 (Below w.heap.size w wq1) := ⟨by rw [← hq_]; exact (upB HB.out)⟩; clear BK136 HB hq_; have BK136 := n0_; have HB := n1_; clear n0_ n1_)); have hczq1_0 : wq1.cell? ⟨gb136, 0, none⟩ = some (.string (⟨#[]⟩ : ByteArray)) := (blk_cell BK136.out 0).trans rfl; have hczq1_1 : wq1.cell? ⟨gb136, 1, none⟩ = some (.slice none 0 0) := (blk_cell BK136.out 1).trans rfl; have hfzq1_0 := blk_frozen BK136.out 0; have hfzq1_1 := blk_frozen BK136.out 1) | ((with_reducible refine gate_callee (f := 94) rfl ?_); refine goesS (some 13) Tryz.func94 #[.string a0, .int .i64 1] ?_; (with_reducible refine (pedigreeref29_take.calls a0 1 t137 t138 false _ A2.out).mono ?_); rintro e w' ⟨rfl, ⟨nd, rfl⟩⟩; refine ⟨_, rfl, ?_⟩; (try (rw [drewN_self wq1]; generalize hq_ : World.drewN wq1 _ = wq1; have n0_ : Aside0 (wq1.heap[gb136]? = some (.cells #[.string (⟨#[]⟩ : ByteArray), .slice none 0 0] 90 (0, 0))) := ⟨by rw [← hq_]; exact (upO BK136.out)⟩; have n1_ : Aside0 (Below w.heap.size w wq1) := ⟨by rw [← hq_]; exact (upB HB.out)⟩; clear BK136 HB hq_; have BK136 := n0_; have HB := n1_; clear n0_ n1_)); have hczq1_0 : wq1.cell? ⟨gb136, 0, none⟩ = some (.string (⟨#[]⟩ : ByteArray)) := (blk_cell BK136.out 0).trans rfl; have hczq1_1 : wq1.cell? ⟨gb136, 1, none⟩ = some (.slice none 0 0) := (blk_cell BK136.out 1).trans rfl; have hfzq1_0 := blk_frozen BK136.out 0; have hfzq1_1 := blk_frozen BK136.out 1) | ((with_reducible refine gate_callee (f := 94) rfl ?_); refine goesS (some 25) Tryz.func94 #[.string t138, .int .i64 (wrap64 (bt t137 0))] ?_; (with_reducible refine (pedigreeref29_take.calls t138 (wrap64 (bt t137 0)) t140 t141 true _ A6.out).mono ?_); rintro e w' ⟨rfl, ⟨nd, rfl⟩⟩; refine ⟨_, rfl, ?_⟩; (try (rw [drewN_self wq1]; generalize hq_ : World.drewN wq1 _ = wq1; have n0_ : Aside0 (wq1.heap[gb136]? = some (.cells #[.string (⟨#[]⟩ : ByteArray), .slice none 0 0] 90 (0, 0))) := ⟨by rw [← hq_]; exact (upO BK136.out)⟩; have n1_ : Aside0 (Below w.heap.size w wq1) := ⟨by rw [← hq_]; exact (upB HB.out)⟩; clear BK136 HB hq_; have BK136 := n0_; have HB := n1_; clear n0_ n1_)))); first | (refine bodyPost_ret (results_ctt rfl _ _ gb136 90 #[.string (⟨#[]⟩ : ByteArray), .slice none 0 0] (0, 0) _ rfl (by refine upO ?_; refine blk_put (cs := #[.string (⟨#[]⟩ : ByteArray), .slice none 0 0]) ?_ 1 _ rfl; refine upO ?_; refine blk_put (cs := #[.string (⟨#[]⟩ : ByteArray), .slice none 0 0]) ?_ 0 _ rfl; exact upO BK136.out) Tryz.underlying90 rfl (by kernel_rfl)) rfl ?_; exact ⟨_, eqE, by first | exact Kd.R_nil _ _ _ _ _ | exact Kd.N_nil _ _ _ _ _ | exact Kd.V_nil _ _ _ _ _ | exact Kd.Q_nil _ _ _ _ _ | exact Kd.S_nil _ _ _ _ _, upB HB.out⟩))
end Go.Proofs.J.Print
end
section
namespace Go.Proofs.J.Print
open Go.RowKit Go.Proofs.PrintWords Go.Proofs.PrintLast Go.Proofs.PrintMore
def pedigreeref29_ReadFacts.l0 : Nat → ByteArray → ByteArray → List (S90) → Int → Option ((List (S90)) × ByteArray × Bool)
 | 0, _, _, _, _ => none
 | k + 1, x0, x5, x7, x8 => (pedigreeref29_Number.f k x5).bind fun t159 => (if x8 < t159 then ((pedigreeref29_readFact.f k x0).bind fun bt161 => (if bt161.2.2.2 = true then (if x7.length < 3518437208883 then (pedigreeref29_ReadFacts.l0 k bt161.2.2.1 x5 (x7 ++ [(⟨bt161.1, bt161.2.1⟩ : S90)]) (IntKind.u64.wrap (x8 + 1))) else (none)) else (some (([] : List (S90)), (⟨#[]⟩ : ByteArray), false)))) else (some (x7, x0, true)))
def pedigreeref29_ReadFacts.f (k : Nat) (a0 : ByteArray) : Option ((List (S90)) × ByteArray × Bool) := (pedigreeref29_take.f a0 4).bind fun bt156 => (if bt156.2.2 = true then (pedigreeref29_ReadFacts.l0 k bt156.2.1 bt156.1 ([] : List (S90)) 0) else (some (([] : List (S90)), (⟨#[]⟩ : ByteArray), false)))
set_option maxHeartbeats 8000000 in
set_option maxRecDepth 100000 in
theorem pedigreeref29_ReadFacts.calls (k : Nat) (a0 : ByteArray) (r1 : List (S90)) (r2 : ByteArray) (r3 : Bool) (w : World) (h : pedigreeref29_ReadFacts.f k a0 = some (r1, r2, r3)) :
  Calls Tryz.prog 34 #[.string a0] w fun e w' => ∃ v0_ : Value, e = .returned (.tuple #[v0_, .string r2, .bool r3]) ∧ Kd.S k90 90 w' w.heap.size (fun _ => True) v0_ r1 ∧ Below w.heap.size w w' := by
 have hu90 := Tryz.underlying90
 have HB := Aside0.mk (Below.refl w.heap.size w)
 have H : ((pedigreeref29_take.f a0 4).bind fun bt156 => (if bt156.2.2 = true then (pedigreeref29_ReadFacts.l0 k bt156.2.1 bt156.1 ([] : List (S90)) 0) else (some (([] : List (S90)), (⟨#[]⟩ : ByteArray), false)))) = some (r1, r2, r3) := h
 clear h
 replace H := Option.bind_eq_some_iff.mp H
 obtain ⟨⟨t156, t157, t158⟩, A20, H⟩ := H
 replace H : (if t158 = true then (pedigreeref29_ReadFacts.l0 k t157 t156 ([] : List (S90)) 0) else (some (([] : List (S90)), (⟨#[]⟩ : ByteArray), false))) = some (r1, r2, r3) := H
 have A2 := Aside0.mk A20
 clear A20
 by_cases c3 : t158 = true
 ·subst c3
  have H1 : (pedigreeref29_ReadFacts.l0 k t157 t156 ([] : List (S90)) 0) = some (r1, r2, r3) := by rw [if_pos rfl] at H; exact H
  clear H
  have H := H1
  clear H1
  have H' := Aside0.mk H
  clear H
  go_enter Tryz.func34, Tryz.ntmps34
  go_wp2_with (first | ((with_reducible refine gate_callee (f := 94) rfl ?_); refine goesS (some 12) Tryz.func94 #[.string a0, .int .i64 4] ?_; (with_reducible refine (pedigreeref29_take.calls a0 4 t156 t157 true _ A2.out).mono ?_); rintro e w' ⟨rfl, ⟨nd, rfl⟩⟩; refine ⟨_, rfl, ?_⟩))
  go_loopg [0, 7, 8] k (fun kq v0 v7 v8 w' => ∃ (x0_1 : ByteArray) (x7_1 : List (S90)) (x8_1 : Int), v0 = .string x0_1 ∧ v8 = .int .u64 x8_1 ∧ Aside0 (pedigreeref29_ReadFacts.l0 kq x0_1 t156 x7_1 x8_1 = some (r1, r2, r3)) ∧ Aside0 (kq ≤ k) ∧ Aside0 (Kd.S k90 90 w' w.heap.size (fun _ => True) v7 x7_1) ∧ Aside0 (Below w.heap.size w w'))
  case atStart => exact ⟨(t157), (([] : List (S90))), (0), eqS, eqS, H', ⟨Nat.le_refl _⟩, ⟨by first | exact Kd.S_nil _ _ _ _ _ | exact Kd.N_nil _ _ _ _ _ | exact Kd.V_nil _ _ _ _ _ | exact Kd.Q_nil _ _ _ _ _ | exact Kd.R_nil _ _ _ _ _⟩, ⟨upB HB.out⟩⟩
  case round =>
   clear H'
   try clear p2
   try clear c3
   obtain ⟨x0_1, x7_1, x8_1, rfl, rfl, HA, HK1, HO_7, HB⟩ := hrel
   cases gk with
   | zero => exact absurd HA.out (by simp [pedigreeref29_ReadFacts.l0])
   | succ k1 =>
    have H := HA.out
    clear HA
    simp only [pedigreeref29_ReadFacts.l0] at H
    replace H := Option.bind_eq_some_iff.mp H
    obtain ⟨t159, A40, H⟩ := H
    replace H : (if x8_1 < t159 then ((pedigreeref29_readFact.f k1 x0_1).bind fun bt161 => (if bt161.2.2.2 = true then (if x7_1.length < 3518437208883 then (pedigreeref29_ReadFacts.l0 k1 bt161.2.2.1 t156 (x7_1 ++ [(⟨bt161.1, bt161.2.1⟩ : S90)]) (IntKind.u64.wrap (x8_1 + 1))) else (none)) else (some (([] : List (S90)), (⟨#[]⟩ : ByteArray), false)))) else (some (x7_1, x0_1, true))) = some (r1, r2, r3) := H
    have A4 := Aside0.mk A40
    clear A40
    by_cases c5 : x8_1 < t159
    ·rw [if_pos c5] at H
     have c5b0 := decide_eq_true c5
     clear c5
     replace H := Option.bind_eq_some_iff.mp H
     obtain ⟨⟨t161, t162, t165, t166⟩, A60, H⟩ := H
     replace H : (if t166 = true then (if x7_1.length < 3518437208883 then (pedigreeref29_ReadFacts.l0 k1 t165 t156 (x7_1 ++ [(⟨t161, t162⟩ : S90)]) (IntKind.u64.wrap (x8_1 + 1))) else (none)) else (some (([] : List (S90)), (⟨#[]⟩ : ByteArray), false))) = some (r1, r2, r3) := H
     have A6 := Aside0.mk A60
     clear A60
     by_cases c7 : t166 = true
     ·subst c7
      have H1 : (if x7_1.length < 3518437208883 then (pedigreeref29_ReadFacts.l0 k1 t165 t156 (x7_1 ++ [(⟨t161, t162⟩ : S90)]) (IntKind.u64.wrap (x8_1 + 1))) else (none)) = some (r1, r2, r3) := by rw [if_pos rfl] at H; exact H
      clear H
      have H := H1
      clear H1
      by_cases c8 : x7_1.length < 3518437208883
      ·rw [if_pos c8] at H
       have LMc8 := Aside0.mk c8
       clear c8
       obtain ⟨y167, hy167⟩ : ∃ y_ : List (S90), y_ = (x7_1 ++ [(⟨t161, t162⟩ : S90)]) := ⟨_, rfl⟩
       replace H : (pedigreeref29_ReadFacts.l0 k1 t165 t156 y167 (IntKind.u64.wrap (x8_1 + 1))) = some (r1, r2, r3) := by first | (rw [hy167]; with_reducible exact H) | (have H2_ := (Option.bind_some _ _).symm.trans H; rw [hy167]; with_reducible exact H2_) | (have H2_ := (Option.bind_some _ _).symm.trans H; with_reducible exact H2_) | with_reducible exact H | (rw [hy167]; exact H) | exact H
       have Ny167 := Aside0.mk hy167
       clear hy167
       have H' := Aside0.mk H
       clear H
       go_wp2_with (first | ((with_reducible refine gate_callee (f := 35) rfl ?_); refine goesS (some 20) Tryz.func35 #[.string t156] ?_; (with_reducible refine (pedigreeref29_Number.calls k1 t156 t159 _ A4.out).mono ?_); rintro e w' ⟨rfl, ⟨nd, rfl⟩⟩; refine ⟨_, rfl, ?_⟩; (try (rw [drewN_self wr]; generalize hq_ : World.drewN wr _ = wr; have n0_ : Aside0 (Kd.S k90 90 wr w.heap.size (fun _ => True) u7 x7_1) := ⟨by rw [← hq_]; exact (upS HO_7.out)⟩; have n1_ : Aside0 (Below w.heap.size w wr) := ⟨by rw [← hq_]; exact (upB HB.out)⟩; clear HO_7 HB hq_; have HO_7 := n0_; have HB := n1_; clear n0_ n1_))) | ((with_reducible refine gate_dst (N := 9) rfl ?_); refine boxS 9 #[.string (⟨#[]⟩ : ByteArray), .slice none 0 0] 90 ?_; intro gb160 hg w9 hbox hb; have n0_ := Aside0.mk (Kd.S_below (Kd.S_elderB (upS HO_7.out) gb160 (Nat.le_of_eq hg.symm)) hb); have n1_ := Aside0.mk (below_step (upB HB.out) hb); have n2_ := Aside0.mk (hbox); have n3_ := Aside0.mk (geB hg (upB HB.out) : w.heap.size ≤ gb160); have n4_ := Aside0.mk (geB hg (upB HB.out) : w.heap.size ≤ gb160); clear HO_7; clear HB; have HO_7 := n0_; have HB := n1_; have BK160 := n2_; have GW160 := n3_; have GE160 := n4_; clear n0_ n1_ n2_ n3_ n4_; clear hb hbox hg) | ((with_reducible refine gate_callee (f := 95) rfl ?_); refine goesS (some 26) Tryz.func95 #[.string x0_1] ?_; (with_reducible refine (pedigreeref29_readFact.calls k1 x0_1 t161 t162 t165 true _ A6.out).mono ?_); rintro e w10 ⟨v163, rfl, ho0, hb⟩; refine ⟨_, rfl, ?_⟩; have n0_ := Aside0.mk (Kd.S_elder' (upS HO_7.out) (Kd.R_base ho0) hb); have n1_ := Aside0.mk (Kd.R_lower ho0 (below_size (upB HB.out))); have n2_ := Aside0.mk (blk_below (g := gb160) (o := .cells #[.string (⟨#[]⟩ : ByteArray), .slice none 0 0] 90 (0, 0)) (upO BK160.out) hb); have n3_ := Aside0.mk (below_step (upB HB.out) hb); clear HO_7; clear BK160; clear HB; have HO_7 := n0_; have HO164 := n1_; have BK160 := n2_; have HB := n3_; clear n0_ n1_ n2_ n3_; (try clear hb); (try clear hb2); (try clear hk); (try clear hi); (try clear ho0); have hcz11_0 : w10.cell? ⟨gb160, 0, none⟩ = some (.string (⟨#[]⟩ : ByteArray)) := (blk_cell BK160.out 0).trans rfl; have hcz11_1 : w10.cell? ⟨gb160, 1, none⟩ = some (.slice none 0 0) := (blk_cell BK160.out 1).trans rfl; have hfz11_0 := blk_frozen BK160.out 0; have hfz11_1 := blk_frozen BK160.out 1; obtain ⟨Ao12, co12, eo12⟩ := Kd.R_slice HO164.out; subst eo12) | ((with_reducible refine gate_store (t := 90) (p := 9) rfl ?_); refine store_event (t := 90) (p := 9) (v := ?vo_w13) (w1 := ((w10.setCell ⟨gb160, 0, none⟩ (.string t161)).setCell ⟨gb160, 1, none⟩ (.slice Ao12 t162.length co12))) ?hg ?ho ?hn ?hr ?_; (case ho => rfl); (case hg => rfl); (case hn => rfl); (case hr => first | (go_simp; done) | (go_simp; rfl)); intro w13 hw; have n0_ : Aside0 (Kd.S k90 90 w13 w.heap.size (fun k_ => some k_ ≠ (.slice Ao12 t162.length co12 : Value).ownBlock ∧ k_ ≠ gb160) u7 x7_1) := ⟨(by rw [hw]; exact (by (with_reducible repeat (first | apply Kd.S_alloc | apply Kd.S_drewN | apply Kd.S_drew)); exact Kd.S_mono (Kd.S_far (p := ⟨gb160, 1, none⟩) (Kd.S_far (p := ⟨gb160, 0, none⟩) (Kd.S_mono HO_7.out (fun k_ hk => (⟨hk, hk.1.2⟩ : _ ∧ k_ ≠ gb160))) (fun _ hk => hk.2) (.string t161)) (fun _ hk => hk.2) (.slice Ao12 t162.length co12)) (fun _ hk => ⟨hk.1.2, hk.1.1.2⟩)))⟩; have n1_ : Aside0 (Kd.R k85 85 w13 w.heap.size (fun _ => True) (.slice Ao12 t162.length co12) t162) := ⟨(by rw [hw]; exact (by (with_reducible repeat (first | apply Kd.R_alloc | apply Kd.R_drewN | apply Kd.R_drew)); exact Kd.R_mono (Kd.R_far (p := ⟨gb160, 1, none⟩) (Kd.R_far (p := ⟨gb160, 0, none⟩) (Kd.R_types HO164.out BK160.out (by decide)) (fun _ hk => hk.2) (.string t161)) (fun _ hk => hk.2) (.slice Ao12 t162.length co12)) (fun _ hk => trivial)))⟩; have n2_ : Aside0 (w13.heap[gb160]? = some (.cells #[.string t161, .slice Ao12 t162.length co12] 90 (0, 0))) := ⟨(by rw [hw]; exact (by refine upO ?_; refine blk_put (cs := #[.string t161, .slice none 0 0]) ?_ 1 _ rfl; refine upO ?_; refine blk_put (cs := #[.string (⟨#[]⟩ : ByteArray), .slice none 0 0]) ?_ 0 _ rfl; exact upO BK160.out))⟩; have n3_ : Aside0 (Below w.heap.size w w13) := ⟨(by rw [hw]; exact (upB HB.out))⟩; clear hw; clear HO_7; clear HO164; clear BK160; clear HB; have HO_7 := n0_; have HO164 := n1_; have BK160 := n2_; have HB := n3_; clear n0_ n1_ n2_ n3_; have hcz14_0 : w13.cell? ⟨gb160, 0, none⟩ = some (.string t161) := (blk_cell BK160.out 0).trans rfl; have hcz14_1 : w13.cell? ⟨gb160, 1, none⟩ = some (.slice Ao12 t162.length co12) := (blk_cell BK160.out 1).trans rfl; have hfz14_0 := blk_frozen BK160.out 0; have hfz14_1 := blk_frozen BK160.out 1) | ((with_reducible refine gate_builtin (b := .append) (xs := #[.tmp 32, .tmp 34]) rfl ?_); at_builtin; refine Kd.S_append k90 (w0 := w) w.heap.size rfl (.tmp 32) (.tmp 34) 22 90 (.agg #[(.string ⟨#[]⟩), (.slice none 0 0)]) 40 rfl Tryz.underlying22 info90 rfl (by decide) (by omega) u7 x7_1 (⟨t161, t162⟩ : S90) [.string t161, .slice Ao12 t162.length co12] (fun k_ => k_ ≠ gb160) (fun k_ => some k_ = (.slice Ao12 t162.length co12 : Value).ownBlock) rfl rfl ?aP (fun k_ hk_ => ((Kd.R_mono (ok' := fun k_ => ((fun k_ => k_ ≠ gb160)) k_ ∧ some k_ ≠ (u7 : Value).ownBlock) (Kd.R_types (Kd.R_apart' (HO164.out) (Kd.S_typed HO_7.out) (by decide)) BK160.out (by decide)) (fun k_ hk => ⟨hk.2, hk.1.2⟩))).1 k_ hk_.symm) ?aF ?aO ?aB ?aS ?aL ?_; (case aP => exact k90_mkM _ _ _ (⟨t161, t162⟩ : S90) (Kd.R_mono (Kd.R_tight rfl (Kd.R_mono (ok' := fun k_ => ((fun k_ => k_ ≠ gb160)) k_ ∧ some k_ ≠ (u7 : Value).ownBlock) (Kd.R_types (Kd.R_apart' (HO164.out) (Kd.S_typed HO_7.out) (by decide)) BK160.out (by decide)) (fun k_ hk => ⟨hk.2, hk.1.2⟩))) (fun _ h_ => h_))); (case aB => exact (upB HB.out)); (case aF => exact (fun k_ hk => Kd.freshB (g := gb160) (o := .cells #[.string t161, .slice Ao12 t162.length co12] 90 (0, 0)) (upO BK160.out) k_ hk)); (case aO => exact (by (with_reducible repeat (first | apply Kd.S_alloc | apply Kd.S_drewN | apply Kd.S_drew)); exact Kd.S_mono HO_7.out (fun k_ hk => ⟨hk.2, fun e_ => hk.1 e_⟩))); (case aS => exact (below_size (upB HB.out))); (case aL => have := LMc8.out; omega); intro v168 w15 ho hb hg hat; rw [← Ny167.out] at ho; have n0_ := Aside0.mk (blk_grown (g := gb160) (o := .cells #[.string t161, .slice Ao12 t162.length co12] 90 (0, 0)) (upO BK160.out) hg (Kd.S_away HO_7.out (fun _ hk => hk.2))); have n1_ := Aside0.mk (hb); have n2_ := Aside0.mk (ho); clear BK160; clear HB; clear HO_7; clear HO164; have BK160 := n0_; have HB := n1_; have HO169 := n2_; clear n0_ n1_ n2_; clear ho hb hg hat))
       go_roundg k1
       case measure => have := HK1.out; omega
       case rel => exact ⟨(t165), (y167), (IntKind.u64.wrap (x8_1 + 1)), eqS, eqS, H', ⟨by have := HK1.out; omega⟩, ⟨by (with_reducible repeat (first | apply Kd.S_alloc | apply Kd.S_drewN | apply Kd.S_drew)); exact Kd.S_mono HO169.out (fun _ hk => trivial)⟩, ⟨upB HB.out⟩⟩
      ·rw [if_neg c8] at H
       exact absurd H (by simp)
     ·replace c7 := Bool.eq_false_iff.mpr c7
      subst c7
      have H1 : (some (([] : List (S90)), (⟨#[]⟩ : ByteArray), false)) = some (r1, r2, r3) := by rw [if_neg (show ¬ (false = true) by decide)] at H; exact H
      clear H
      have H := H1
      clear H1
      simp only [Option.some.injEq, Prod.mk.injEq] at H
      obtain ⟨rfl, rfl, rfl⟩ := H
      go_wp2_with (first | ((with_reducible refine gate_callee (f := 35) rfl ?_); refine goesS (some 20) Tryz.func35 #[.string t156] ?_; (with_reducible refine (pedigreeref29_Number.calls k1 t156 t159 _ A4.out).mono ?_); rintro e w' ⟨rfl, ⟨nd, rfl⟩⟩; refine ⟨_, rfl, ?_⟩; (try (rw [drewN_self wr]; generalize hq_ : World.drewN wr _ = wr; have n0_ : Aside0 (Kd.S k90 90 wr w.heap.size (fun _ => True) u7 x7_1) := ⟨by rw [← hq_]; exact (upS HO_7.out)⟩; have n1_ : Aside0 (Below w.heap.size w wr) := ⟨by rw [← hq_]; exact (upB HB.out)⟩; clear HO_7 HB hq_; have HO_7 := n0_; have HB := n1_; clear n0_ n1_))) | ((with_reducible refine gate_dst (N := 9) rfl ?_); refine boxS 9 #[.string (⟨#[]⟩ : ByteArray), .slice none 0 0] 90 ?_; intro gb160 hg w16 hbox hb; have n0_ := Aside0.mk (Kd.S_below (Kd.S_elderB (upS HO_7.out) gb160 (Nat.le_of_eq hg.symm)) hb); have n1_ := Aside0.mk (below_step (upB HB.out) hb); have n2_ := Aside0.mk (hbox); have n3_ := Aside0.mk (geB hg (upB HB.out) : w.heap.size ≤ gb160); have n4_ := Aside0.mk (geB hg (upB HB.out) : w.heap.size ≤ gb160); clear HO_7; clear HB; have HO_7 := n0_; have HB := n1_; have BK160 := n2_; have GW160 := n3_; have GE160 := n4_; clear n0_ n1_ n2_ n3_ n4_; clear hb hbox hg) | ((with_reducible refine gate_callee (f := 95) rfl ?_); refine goesS (some 26) Tryz.func95 #[.string x0_1] ?_; (with_reducible refine (pedigreeref29_readFact.calls k1 x0_1 t161 t162 t165 false _ A6.out).mono ?_); rintro e w17 ⟨v163, rfl, ho0, hb⟩; refine ⟨_, rfl, ?_⟩; have n0_ := Aside0.mk (Kd.S_elder' (upS HO_7.out) (Kd.R_base ho0) hb); have n1_ := Aside0.mk (Kd.R_lower ho0 (below_size (upB HB.out))); have n2_ := Aside0.mk (blk_below (g := gb160) (o := .cells #[.string (⟨#[]⟩ : ByteArray), .slice none 0 0] 90 (0, 0)) (upO BK160.out) hb); have n3_ := Aside0.mk (below_step (upB HB.out) hb); clear HO_7; clear BK160; clear HB; have HO_7 := n0_; have HO164 := n1_; have BK160 := n2_; have HB := n3_; clear n0_ n1_ n2_ n3_; (try clear hb); (try clear hb2); (try clear hk); (try clear hi); (try clear ho0); have hcz18_0 : w17.cell? ⟨gb160, 0, none⟩ = some (.string (⟨#[]⟩ : ByteArray)) := (blk_cell BK160.out 0).trans rfl; have hcz18_1 : w17.cell? ⟨gb160, 1, none⟩ = some (.slice none 0 0) := (blk_cell BK160.out 1).trans rfl; have hfz18_0 := blk_frozen BK160.out 0; have hfz18_1 := blk_frozen BK160.out 1; obtain ⟨Ao19, co19, eo19⟩ := Kd.R_slice HO164.out; subst eo19))
      go_ret3
      exact ⟨_, eqE, by first | exact Kd.S_nil _ _ _ _ _ | exact Kd.N_nil _ _ _ _ _ | exact Kd.V_nil _ _ _ _ _ | exact Kd.Q_nil _ _ _ _ _ | exact Kd.R_nil _ _ _ _ _, upB HB.out⟩
    ·rw [if_neg c5] at H
     have c5b0 := decide_eq_false c5
     clear c5
     simp only [Option.some.injEq, Prod.mk.injEq] at H
     obtain ⟨rfl, rfl, rfl⟩ := H
     go_wp2_with (first | ((with_reducible refine gate_callee (f := 35) rfl ?_); refine goesS (some 20) Tryz.func35 #[.string t156] ?_; (with_reducible refine (pedigreeref29_Number.calls k1 t156 t159 _ A4.out).mono ?_); rintro e w' ⟨rfl, ⟨nd, rfl⟩⟩; refine ⟨_, rfl, ?_⟩))
     go_ret3
     exact ⟨_, eqE, upS HO_7.out, upB HB.out⟩
 ·replace c3 := Bool.eq_false_iff.mpr c3
  subst c3
  have H1 : (some (([] : List (S90)), (⟨#[]⟩ : ByteArray), false)) = some (r1, r2, r3) := by rw [if_neg (show ¬ (false = true) by decide)] at H; exact H
  clear H
  have H := H1
  clear H1
  simp only [Option.some.injEq, Prod.mk.injEq] at H
  obtain ⟨rfl, rfl, rfl⟩ := H
  go_enter Tryz.func34, Tryz.ntmps34
  go_wp2_with (first | ((with_reducible refine gate_callee (f := 94) rfl ?_); refine goesS (some 12) Tryz.func94 #[.string a0, .int .i64 4] ?_; (with_reducible refine (pedigreeref29_take.calls a0 4 t156 t157 false _ A2.out).mono ?_); rintro e w' ⟨rfl, ⟨nd, rfl⟩⟩; refine ⟨_, rfl, ?_⟩))
  go_ret3
  exact ⟨_, eqE, by first | exact Kd.S_nil _ _ _ _ _ | exact Kd.N_nil _ _ _ _ _ | exact Kd.V_nil _ _ _ _ _ | exact Kd.Q_nil _ _ _ _ _ | exact Kd.R_nil _ _ _ _ _, upB HB.out⟩
end Go.Proofs.J.Print
end
section
namespace Go.Proofs.J.Print
open Go.RowKit Go.Proofs.PrintWords Go.Proofs.PrintLast Go.Proofs.PrintMore
def pedigreeref29_Decode.j0 : Nat → ByteArray → ByteArray → Bool → Option (Int × (List (S90)) × (List (S90)) × Int × Int)
 | 0, _, _, _ => none
 | k + 1, x0, x5, x25 => if x25 = true then (some (0, ([] : List (S90)), ([] : List (S90)), 0, 290)) else (if 9 ≤ (x5.size : Int) then ((pedigreeref29_ReadFacts.f k (x5.extract 9 x5.size)).bind fun bt173 => (if bt173.2.2 = true then ((pedigreeref29_ReadFacts.f k bt173.2.1).bind fun bt178 => (if bt178.2.2 = true then (if 1 ≤ 9 then ((pedigreeref29_Number.f k (x5.extract 1 9)).bind fun t183 => ((pedigreeref29_Encode.f k (wrap64 (t183)) bt173.1 bt178.1).bind fun bt185 => (if bt185.2 = 0 then (if (bt185.1.size : Int) > (x0.size : Int) then (some (0, ([] : List (S90)), ([] : List (S90)), 0, 290)) else (if 0 ≤ (bt185.1.size : Int) then (if (bt185.1.size : Int) ≤ (x0.size : Int) then (if (x0.extract 0 ((bt185.1.size : Int) : Int).toNat).toList = bt185.1.toList then (some (wrap64 (t183), bt173.1, bt178.1, (bt185.1.size : Int), 0)) else (some (0, ([] : List (S90)), ([] : List (S90)), 0, 290))) else (none)) else (none))) else (some (0, ([] : List (S90)), ([] : List (S90)), 0, 290))))) else (none)) else (some (0, ([] : List (S90)), ([] : List (S90)), 0, 290)))) else (some (0, ([] : List (S90)), ([] : List (S90)), 0, 290)))) else (none))
def pedigreeref29_Decode.f (k : Nat) (a0 : ByteArray) : Option (Int × (List (S90)) × (List (S90)) × Int × Int) := (pedigreeref29_Body.f k a0).bind fun bt171 => (if bt171.2 = true then (pedigreeref29_Decode.j0 k a0 bt171.1 (decide ((bt171.1.size : Int) < 9))) else (pedigreeref29_Decode.j0 k a0 bt171.1 true))
set_option maxHeartbeats 8000000 in
set_option maxRecDepth 100000 in
theorem pedigreeref29_Decode.calls (k : Nat) (a0 : ByteArray) (r1 : Int) (r2 : List (S90)) (r3 : List (S90)) (r4 : Int) (r5 : Int) (w : World) (h : pedigreeref29_Decode.f k a0 = some (r1, r2, r3, r4, r5)) :
  Calls Tryz.prog 12 #[.string a0] w fun e w' => ∃ v1_ v2_ : Value, e = .returned (.tuple #[.agg #[.int .i64 r1, v1_, v2_], .int .i64 r4, .int .i64 r5]) ∧ Kd.S k90 90 w' w.heap.size (fun k_ => some k_ ≠ (v2_ : Value).ownBlock) v1_ r2 ∧ Kd.S k90 90 w' w.heap.size (fun k_ => some k_ ≠ (v1_ : Value).ownBlock) v2_ r3 ∧ Below w.heap.size w w' := by
 have hu24 := Tryz.underlying24
 have HB := Aside0.mk (Below.refl w.heap.size w)
 have H : ((pedigreeref29_Body.f k a0).bind fun bt171 => (if bt171.2 = true then (pedigreeref29_Decode.j0 k a0 bt171.1 (decide ((bt171.1.size : Int) < 9))) else (pedigreeref29_Decode.j0 k a0 bt171.1 true))) = some (r1, r2, r3, r4, r5) := h
 clear h
 replace H := Option.bind_eq_some_iff.mp H
 obtain ⟨⟨t171, t172⟩, A20, H⟩ := H
 replace H : (if t172 = true then (pedigreeref29_Decode.j0 k a0 t171 (decide ((t171.size : Int) < 9))) else (pedigreeref29_Decode.j0 k a0 t171 true)) = some (r1, r2, r3, r4, r5) := H
 have A2 := Aside0.mk A20
 clear A20
 have HC3 := Aside0.mk H
 clear H
 go_enter Tryz.func12, Tryz.ntmps12
 go_upto_region 2 with (first | ((with_reducible refine gate_dst (N := 2) rfl ?_); (try (refine gate_guard (by rfl) ?_; dsimp only)); refine boxS 2 #[.int .i64 0, .slice none 0 0, .slice none 0 0] 24 ?_; intro gb170 hg w4 hbox hb; have n0_ := Aside0.mk (below_step (upB HB.out) hb); have n1_ := Aside0.mk (hbox); have n2_ := Aside0.mk (geB hg (upB HB.out) : w.heap.size ≤ gb170); have n3_ := Aside0.mk (geB hg (upB HB.out) : w.heap.size ≤ gb170); clear HB; have HB := n0_; have BK170 := n1_; have GW170 := n2_; have GE170 := n3_; clear n0_ n1_ n2_ n3_; clear hb hbox hg) | ((with_reducible refine gate_callee (f := 33) rfl ?_); refine goesS (some 16) Tryz.func33 #[.string a0] ?_; (with_reducible refine (pedigreeref29_Body.calls k a0 t171 t172 _ A2.out).mono ?_); rintro e w5 ⟨rfl, hb⟩; refine ⟨_, rfl, ?_⟩; have n0_ := Aside0.mk (blk_below (g := gb170) (o := .cells #[.int .i64 0, .slice none 0 0, .slice none 0 0] 24 (0, 0)) (upO BK170.out) hb); have n1_ := Aside0.mk (below_step (upB HB.out) hb); clear BK170; clear HB; have BK170 := n0_; have HB := n1_; clear n0_ n1_; (try clear hb); (try clear hb2); (try clear hk); (try clear hi)))
 (try simp only [Act.put, List.setIfInBounds_toArray, List.set_cons_zero, List.set_cons_succ])
 go_cut [25] (fun v25 wc => ∃ (kq : Nat) (x25_2 : Bool), v25 = .bool x25_2 ∧ Aside0 (pedigreeref29_Decode.j0 kq a0 t171 x25_2 = some (r1, r2, r3, r4, r5)) ∧ Aside0 (kq ≤ k) ∧ Aside0 (wc.heap[gb170]? = some (.cells #[.int .i64 0, (.slice none 0 0), (.slice none 0 0)] 24 (0, 0))) ∧ Aside0 (Below w.heap.size w wc))
 case first =>
  have H := HC3.out
  clear HC3
  by_cases c6 : t172 = true
  ·subst c6
   have H1 : (pedigreeref29_Decode.j0 k a0 t171 (decide ((t171.size : Int) < 9))) = some (r1, r2, r3, r4, r5) := by rw [if_pos rfl] at H; exact H
   clear H
   have H := H1
   clear H1
   have H' := Aside0.mk H
   clear H
   go_wp2
   go_meet
   case rel => exact ⟨_, (decide ((t171.size : Int) < 9)), eqS, H', ⟨by first | omega | exact Nat.le_refl _⟩, ⟨upO BK170.out⟩, ⟨upB HB.out⟩⟩
  ·replace c6 := Bool.eq_false_iff.mpr c6
   subst c6
   have H1 : (pedigreeref29_Decode.j0 k a0 t171 true) = some (r1, r2, r3, r4, r5) := by rw [if_neg (show ¬ (false = true) by decide)] at H; exact H
   clear H
   have H := H1
   clear H1
   have H' := Aside0.mk H
   clear H
   go_wp2
   go_meet
   case rel => exact ⟨_, (true), eqS, H', ⟨by first | omega | exact Nat.le_refl _⟩, ⟨upO BK170.out⟩, ⟨upB HB.out⟩⟩
 case' rest =>
  clear HC3
  try clear c1
  try clear p2
  try clear c3
  try clear c6
  obtain ⟨kq, x25_2, rfl, HA, HJ2, BK170, HB⟩ := hcut
  rcases kq with _ | kj2
  ·exact absurd HA.out (by simp [pedigreeref29_Decode.j0])
  focus
   have H := HA.out
   clear HA
   simp only [pedigreeref29_Decode.j0] at H
   by_cases c7 : x25_2 = true
   ·subst c7
    have H1 : (some (0, ([] : List (S90)), ([] : List (S90)), 0, 290)) = some (r1, r2, r3, r4, r5) := by rw [if_pos rfl] at H; exact H
    clear H
    have H := H1
    clear H1
    simp only [Option.some.injEq, Prod.mk.injEq] at H
    obtain ⟨rfl, rfl, rfl, rfl, rfl⟩ := H
    have hcz8_0 : wc.cell? ⟨gb170, 0, none⟩ = some (.int .i64 0) := (blk_cell BK170.out 0).trans rfl
    have hcz8_1 : wc.cell? ⟨gb170, 1, none⟩ = some (.slice none 0 0) := (blk_cell BK170.out 1).trans rfl
    have hcz8_2 : wc.cell? ⟨gb170, 2, none⟩ = some (.slice none 0 0) := (blk_cell BK170.out 2).trans rfl
    have hfz8_0 := blk_frozen BK170.out 0
    have hfz8_1 := blk_frozen BK170.out 1
    have hfz8_2 := blk_frozen BK170.out 2
    go_wp2
    refine bodyPost_ret (results_ctt rfl _ _ gb170 24 #[.int .i64 0, .slice none 0 0, .slice none 0 0] (0, 0) _ rfl (by refine upO ?_; refine blk_put (cs := #[.int .i64 0, .slice none 0 0, .slice none 0 0]) ?_ 2 _ rfl; refine upO ?_; refine blk_put (cs := #[.int .i64 0, .slice none 0 0, .slice none 0 0]) ?_ 1 _ rfl; refine upO ?_; refine blk_put (cs := #[.int .i64 0, .slice none 0 0, .slice none 0 0]) ?_ 0 _ rfl; exact upO BK170.out) Tryz.underlying24 rfl (by kernel_rfl)) rfl ?_
    exact ⟨_, _, eqE, by first | exact Kd.S_nil _ _ _ _ _ | exact Kd.N_nil _ _ _ _ _ | exact Kd.V_nil _ _ _ _ _ | exact Kd.Q_nil _ _ _ _ _ | exact Kd.R_nil _ _ _ _ _, by first | exact Kd.S_nil _ _ _ _ _ | exact Kd.N_nil _ _ _ _ _ | exact Kd.V_nil _ _ _ _ _ | exact Kd.Q_nil _ _ _ _ _ | exact Kd.R_nil _ _ _ _ _, upB HB.out⟩
   focus
    replace c7 := Bool.eq_false_iff.mpr c7
    subst c7
    have H1 : (if 9 ≤ (t171.size : Int) then ((pedigreeref29_ReadFacts.f kj2 (t171.extract 9 t171.size)).bind fun bt173 => (if bt173.2.2 = true then ((pedigreeref29_ReadFacts.f kj2 bt173.2.1).bind fun bt178 => (if bt178.2.2 = true then (if 1 ≤ 9 then ((pedigreeref29_Number.f kj2 (t171.extract 1 9)).bind fun t183 => ((pedigreeref29_Encode.f kj2 (wrap64 (t183)) bt173.1 bt178.1).bind fun bt185 => (if bt185.2 = 0 then (if (bt185.1.size : Int) > (a0.size : Int) then (some (0, ([] : List (S90)), ([] : List (S90)), 0, 290)) else (if 0 ≤ (bt185.1.size : Int) then (if (bt185.1.size : Int) ≤ (a0.size : Int) then (if (a0.extract 0 ((bt185.1.size : Int) : Int).toNat).toList = bt185.1.toList then (some (wrap64 (t183), bt173.1, bt178.1, (bt185.1.size : Int), 0)) else (some (0, ([] : List (S90)), ([] : List (S90)), 0, 290))) else (none)) else (none))) else (some (0, ([] : List (S90)), ([] : List (S90)), 0, 290))))) else (none)) else (some (0, ([] : List (S90)), ([] : List (S90)), 0, 290)))) else (some (0, ([] : List (S90)), ([] : List (S90)), 0, 290)))) else (none)) = some (r1, r2, r3, r4, r5) := by rw [if_neg (show ¬ (false = true) by decide)] at H; exact H
    clear H
    have H := H1
    clear H1
    by_cases c9 : 9 ≤ (t171.size : Int)
    focus
     rw [if_pos c9] at H
     have c9b0 := eq_true c9
     have c9b1 := decide_eq_true c9
     clear c9
     replace H := Option.bind_eq_some_iff.mp H
     obtain ⟨⟨t173, t174, t175⟩, A100, H⟩ := H
     replace H : (if t175 = true then ((pedigreeref29_ReadFacts.f kj2 t174).bind fun bt178 => (if bt178.2.2 = true then (if 1 ≤ 9 then ((pedigreeref29_Number.f kj2 (t171.extract 1 9)).bind fun t183 => ((pedigreeref29_Encode.f kj2 (wrap64 (t183)) t173 bt178.1).bind fun bt185 => (if bt185.2 = 0 then (if (bt185.1.size : Int) > (a0.size : Int) then (some (0, ([] : List (S90)), ([] : List (S90)), 0, 290)) else (if 0 ≤ (bt185.1.size : Int) then (if (bt185.1.size : Int) ≤ (a0.size : Int) then (if (a0.extract 0 ((bt185.1.size : Int) : Int).toNat).toList = bt185.1.toList then (some (wrap64 (t183), t173, bt178.1, (bt185.1.size : Int), 0)) else (some (0, ([] : List (S90)), ([] : List (S90)), 0, 290))) else (none)) else (none))) else (some (0, ([] : List (S90)), ([] : List (S90)), 0, 290))))) else (none)) else (some (0, ([] : List (S90)), ([] : List (S90)), 0, 290)))) else (some (0, ([] : List (S90)), ([] : List (S90)), 0, 290))) = some (r1, r2, r3, r4, r5) := H
     have A10 := Aside0.mk A100
     clear A100
     by_cases c11 : t175 = true
     focus
      subst c11
      have H1 : ((pedigreeref29_ReadFacts.f kj2 t174).bind fun bt178 => (if bt178.2.2 = true then (if 1 ≤ 9 then ((pedigreeref29_Number.f kj2 (t171.extract 1 9)).bind fun t183 => ((pedigreeref29_Encode.f kj2 (wrap64 (t183)) t173 bt178.1).bind fun bt185 => (if bt185.2 = 0 then (if (bt185.1.size : Int) > (a0.size : Int) then (some (0, ([] : List (S90)), ([] : List (S90)), 0, 290)) else (if 0 ≤ (bt185.1.size : Int) then (if (bt185.1.size : Int) ≤ (a0.size : Int) then (if (a0.extract 0 ((bt185.1.size : Int) : Int).toNat).toList = bt185.1.toList then (some (wrap64 (t183), t173, bt178.1, (bt185.1.size : Int), 0)) else (some (0, ([] : List (S90)), ([] : List (S90)), 0, 290))) else (none)) else (none))) else (some (0, ([] : List (S90)), ([] : List (S90)), 0, 290))))) else (none)) else (some (0, ([] : List (S90)), ([] : List (S90)), 0, 290)))) = some (r1, r2, r3, r4, r5) := by rw [if_pos rfl] at H; exact H
      clear H
      have H := H1
      clear H1
      replace H := Option.bind_eq_some_iff.mp H
      obtain ⟨⟨t178, t179, t180⟩, A120, H⟩ := H
      replace H : (if t180 = true then (if 1 ≤ 9 then ((pedigreeref29_Number.f kj2 (t171.extract 1 9)).bind fun t183 => ((pedigreeref29_Encode.f kj2 (wrap64 (t183)) t173 t178).bind fun bt185 => (if bt185.2 = 0 then (if (bt185.1.size : Int) > (a0.size : Int) then (some (0, ([] : List (S90)), ([] : List (S90)), 0, 290)) else (if 0 ≤ (bt185.1.size : Int) then (if (bt185.1.size : Int) ≤ (a0.size : Int) then (if (a0.extract 0 ((bt185.1.size : Int) : Int).toNat).toList = bt185.1.toList then (some (wrap64 (t183), t173, t178, (bt185.1.size : Int), 0)) else (some (0, ([] : List (S90)), ([] : List (S90)), 0, 290))) else (none)) else (none))) else (some (0, ([] : List (S90)), ([] : List (S90)), 0, 290))))) else (none)) else (some (0, ([] : List (S90)), ([] : List (S90)), 0, 290))) = some (r1, r2, r3, r4, r5) := H
      have A12 := Aside0.mk A120
      clear A120
      by_cases c13 : t180 = true
      focus
       subst c13
       have H1 : (if 1 ≤ 9 then ((pedigreeref29_Number.f kj2 (t171.extract 1 9)).bind fun t183 => ((pedigreeref29_Encode.f kj2 (wrap64 (t183)) t173 t178).bind fun bt185 => (if bt185.2 = 0 then (if (bt185.1.size : Int) > (a0.size : Int) then (some (0, ([] : List (S90)), ([] : List (S90)), 0, 290)) else (if 0 ≤ (bt185.1.size : Int) then (if (bt185.1.size : Int) ≤ (a0.size : Int) then (if (a0.extract 0 ((bt185.1.size : Int) : Int).toNat).toList = bt185.1.toList then (some (wrap64 (t183), t173, t178, (bt185.1.size : Int), 0)) else (some (0, ([] : List (S90)), ([] : List (S90)), 0, 290))) else (none)) else (none))) else (some (0, ([] : List (S90)), ([] : List (S90)), 0, 290))))) else (none)) = some (r1, r2, r3, r4, r5) := by rw [if_pos rfl] at H; exact H
       clear H
       have H := H1
       clear H1
       by_cases c14 : 1 ≤ 9
       focus
        rw [if_pos c14] at H
        have c14b0 := eq_true c14
        have c14b1 := decide_eq_true c14
        clear c14
        have c15b0 := eq_true (of_decide_eq_true byA : 9 ≤ (t171.size : Int))
        replace H := Option.bind_eq_some_iff.mp H
        obtain ⟨t183, A160, H⟩ := H
        replace H : ((pedigreeref29_Encode.f kj2 (wrap64 (t183)) t173 t178).bind fun bt185 => (if bt185.2 = 0 then (if (bt185.1.size : Int) > (a0.size : Int) then (some (0, ([] : List (S90)), ([] : List (S90)), 0, 290)) else (if 0 ≤ (bt185.1.size : Int) then (if (bt185.1.size : Int) ≤ (a0.size : Int) then (if (a0.extract 0 ((bt185.1.size : Int) : Int).toNat).toList = bt185.1.toList then (some (wrap64 (t183), t173, t178, (bt185.1.size : Int), 0)) else (some (0, ([] : List (S90)), ([] : List (S90)), 0, 290))) else (none)) else (none))) else (some (0, ([] : List (S90)), ([] : List (S90)), 0, 290)))) = some (r1, r2, r3, r4, r5) := H
        have A16 := Aside0.mk A160
        clear A160
        replace H := Option.bind_eq_some_iff.mp H
        obtain ⟨⟨t185, t186⟩, A170, H⟩ := H
        replace H : (if t186 = 0 then (if (t185.size : Int) > (a0.size : Int) then (some (0, ([] : List (S90)), ([] : List (S90)), 0, 290)) else (if 0 ≤ (t185.size : Int) then (if (t185.size : Int) ≤ (a0.size : Int) then (if (a0.extract 0 ((t185.size : Int) : Int).toNat).toList = t185.toList then (some (wrap64 (t183), t173, t178, (t185.size : Int), 0)) else (some (0, ([] : List (S90)), ([] : List (S90)), 0, 290))) else (none)) else (none))) else (some (0, ([] : List (S90)), ([] : List (S90)), 0, 290))) = some (r1, r2, r3, r4, r5) := H
        have A17 := Aside0.mk A170
        clear A170
        by_cases c18 : t186 = 0
        focus
         rw [if_pos c18] at H
         have c18b0 : (t186 == 0) = true := beq_iff_eq.mpr c18
         have c18b1 : (t186 != 0) = false := bne_eq_false_iff_eq.mpr c18
         clear c18
         by_cases c19 : (t185.size : Int) > (a0.size : Int)
         focus
          rw [if_pos c19] at H
          have c19b0 := decide_eq_true c19
          have c19b1 : decide (a0.size < t185.size) = true := decide_eq_true (Int.ofNat_lt.mp c19)
          clear c19
          simp only [Option.some.injEq, Prod.mk.injEq] at H
          obtain ⟨rfl, rfl, rfl, rfl, rfl⟩ := H
         rotate_right
         focus
          rw [if_neg c19] at H
          have c19b0 := decide_eq_false c19
          have c19b1 : decide (a0.size < t185.size) = false := decide_eq_false (fun h => c19 (Int.ofNat_lt.mpr h))
          clear c19
          by_cases c29 : 0 ≤ (t185.size : Int)
          focus
           rw [if_pos c29] at H
           have c29b0 := eq_true c29
           have c29b1 := decide_eq_true c29
           clear c29
           by_cases c30 : (t185.size : Int) ≤ (a0.size : Int)
           focus
            rw [if_pos c30] at H
            have c30b0 := eq_true c30
            have c30b1 := decide_eq_true c30
            clear c30
            by_cases c31 : (a0.extract 0 ((t185.size : Int) : Int).toNat).toList = t185.toList
            focus
             rw [if_pos c31] at H
             have c31b0 : ((a0.extract 0 ((t185.size : Int) : Int).toNat).toList == t185.toList) = true := beq_iff_eq.mpr c31
             have c31b2 : ((a0.extract 0 t185.size).toList == t185.toList) = true := c31b0
             have c31b1 : ((a0.extract 0 ((t185.size : Int) : Int).toNat).toList != t185.toList) = false := bne_eq_false_iff_eq.mpr c31
             clear c31
             simp only [Option.some.injEq, Prod.mk.injEq] at H
             obtain ⟨rfl, rfl, rfl, rfl, rfl⟩ := H
            rotate_right
            focus
             rw [if_neg c31] at H
             have c31b0 : ((a0.extract 0 ((t185.size : Int) : Int).toNat).toList == t185.toList) = false := beq_eq_false_iff_ne.mpr c31
             have c31b2 : ((a0.extract 0 t185.size).toList == t185.toList) = false := c31b0
             have c31b1 : ((a0.extract 0 ((t185.size : Int) : Int).toNat).toList != t185.toList) = true := bne_iff_ne.mpr c31
             simp only [Option.some.injEq, Prod.mk.injEq] at H
             obtain ⟨rfl, rfl, rfl, rfl, rfl⟩ := H
           rotate_right
           ·rw [if_neg c30] at H
            exact absurd H (by simp)
          rotate_right
          ·rw [if_neg c29] at H
           exact absurd H (by simp)
        rotate_right
        focus
         rw [if_neg c18] at H
         have c18b0 : (t186 == 0) = false := beq_eq_false_iff_ne.mpr c18
         have c18b1 : (t186 != 0) = true := bne_iff_ne.mpr c18
         simp only [Option.some.injEq, Prod.mk.injEq] at H
         obtain ⟨rfl, rfl, rfl, rfl, rfl⟩ := H
       rotate_right
       ·rw [if_neg c14] at H
        exact absurd H (by simp)
      rotate_right
      focus
       replace c13 := Bool.eq_false_iff.mpr c13
       subst c13
       have H1 : (some (0, ([] : List (S90)), ([] : List (S90)), 0, 290)) = some (r1, r2, r3, r4, r5) := by rw [if_neg (show ¬ (false = true) by decide)] at H; exact H
       clear H
       have H := H1
       clear H1
       simp only [Option.some.injEq, Prod.mk.injEq] at H
       obtain ⟨rfl, rfl, rfl, rfl, rfl⟩ := H
     rotate_right
     focus
      replace c11 := Bool.eq_false_iff.mpr c11
      subst c11
      have H1 : (some (0, ([] : List (S90)), ([] : List (S90)), 0, 290)) = some (r1, r2, r3, r4, r5) := by rw [if_neg (show ¬ (false = true) by decide)] at H; exact H
      clear H
      have H := H1
      clear H1
      simp only [Option.some.injEq, Prod.mk.injEq] at H
      obtain ⟨rfl, rfl, rfl, rfl, rfl⟩ := H
    rotate_right
    ·rw [if_neg c9] at H
     exact absurd H (by simp)
 all_goals (go_wp2_with (first | ((with_reducible refine gate_callee (f := 34) rfl ?_); refine goesS (some 39) Tryz.func34 #[.string t174] ?_; (with_reducible refine (pedigreeref29_ReadFacts.calls kj2 t174 t178 t179 false _ A12.out).mono ?_); rintro e wq2 ⟨v181, rfl, ho0, hb⟩; refine ⟨_, rfl, ?_⟩; have n0_ := Aside0.mk (Kd.S_elder' (upS HO177.out) (Kd.S_base ho0) hb); have n1_ := Aside0.mk (Kd.S_lower (Kd.S_new' ho0 (Kd.S_lt (upS HO177.out))) (below_size (upB HB.out))); have n2_ := Aside0.mk (blk_below (g := gb170) (o := .cells #[.int .i64 0, .slice none 0 0, .slice none 0 0] 24 (0, 0)) (upO BK170.out) hb); have n3_ := Aside0.mk (below_step (upB HB.out) hb); clear HO177; clear BK170; clear HB; have HO177 := n0_; have HO182 := n1_; have BK170 := n2_; have HB := n3_; clear n0_ n1_ n2_ n3_; (try clear hb); (try clear hb2); (try clear hk); (try clear hi); (try clear ho0); have hczq1_0 : wq2.cell? ⟨gb170, 0, none⟩ = some (.int .i64 0) := (blk_cell BK170.out 0).trans rfl; have hczq1_1 : wq2.cell? ⟨gb170, 1, none⟩ = some (.slice none 0 0) := (blk_cell BK170.out 1).trans rfl; have hczq1_2 : wq2.cell? ⟨gb170, 2, none⟩ = some (.slice none 0 0) := (blk_cell BK170.out 2).trans rfl; have hfzq1_0 := blk_frozen BK170.out 0; have hfzq1_1 := blk_frozen BK170.out 1; have hfzq1_2 := blk_frozen BK170.out 2) | ((with_reducible refine gate_callee (f := 34) rfl ?_); refine goesS (some 30) Tryz.func34 #[.string (t171.extract 9 t171.size)] ?_; (with_reducible refine (pedigreeref29_ReadFacts.calls kj2 (t171.extract 9 t171.size) t173 t174 false _ A10.out).mono ?_); rintro e wq1 ⟨v176, rfl, ho0, hb⟩; refine ⟨_, rfl, ?_⟩; have n0_ := Aside0.mk (Kd.S_lower ho0 (below_size (upB HB.out))); have n1_ := Aside0.mk (blk_below (g := gb170) (o := .cells #[.int .i64 0, .slice none 0 0, .slice none 0 0] 24 (0, 0)) (upO BK170.out) hb); have n2_ := Aside0.mk (below_step (upB HB.out) hb); clear BK170; clear HB; have HO177 := n0_; have BK170 := n1_; have HB := n2_; clear n0_ n1_ n2_; (try clear hb); (try clear hb2); (try clear hk); (try clear hi); (try clear ho0); have hczq1_0 : wq1.cell? ⟨gb170, 0, none⟩ = some (.int .i64 0) := (blk_cell BK170.out 0).trans rfl; have hczq1_1 : wq1.cell? ⟨gb170, 1, none⟩ = some (.slice none 0 0) := (blk_cell BK170.out 1).trans rfl; have hczq1_2 : wq1.cell? ⟨gb170, 2, none⟩ = some (.slice none 0 0) := (blk_cell BK170.out 2).trans rfl; have hfzq1_0 := blk_frozen BK170.out 0; have hfzq1_1 := blk_frozen BK170.out 1; have hfzq1_2 := blk_frozen BK170.out 2) | ((with_reducible refine gate_callee (f := 34) rfl ?_); refine goesS (some 39) Tryz.func34 #[.string t174] ?_; (with_reducible refine (pedigreeref29_ReadFacts.calls kj2 t174 t178 t179 true _ A12.out).mono ?_); rintro e wq2 ⟨v181, rfl, ho0, hb⟩; refine ⟨_, rfl, ?_⟩; have n0_ := Aside0.mk (Kd.S_elder' (upS HO177.out) (Kd.S_base ho0) hb); have n1_ := Aside0.mk (Kd.S_lower (Kd.S_new' ho0 (Kd.S_lt (upS HO177.out))) (below_size (upB HB.out))); have n2_ := Aside0.mk (blk_below (g := gb170) (o := .cells #[.int .i64 0, .slice none 0 0, .slice none 0 0] 24 (0, 0)) (upO BK170.out) hb); have n3_ := Aside0.mk (below_step (upB HB.out) hb); clear HO177; clear BK170; clear HB; have HO177 := n0_; have HO182 := n1_; have BK170 := n2_; have HB := n3_; clear n0_ n1_ n2_ n3_; (try clear hb); (try clear hb2); (try clear hk); (try clear hi); (try clear ho0)) | ((with_reducible refine gate_callee (f := 34) rfl ?_); refine goesS (some 30) Tryz.func34 #[.string (t171.extract 9 t171.size)] ?_; (with_reducible refine (pedigreeref29_ReadFacts.calls kj2 (t171.extract 9 t171.size) t173 t174 true _ A10.out).mono ?_); rintro e wq1 ⟨v176, rfl, ho0, hb⟩; refine ⟨_, rfl, ?_⟩; have n0_ := Aside0.mk (Kd.S_lower ho0 (below_size (upB HB.out))); have n1_ := Aside0.mk (blk_below (g := gb170) (o := .cells #[.int .i64 0, .slice none 0 0, .slice none 0 0] 24 (0, 0)) (upO BK170.out) hb); have n2_ := Aside0.mk (below_step (upB HB.out) hb); clear BK170; clear HB; have HO177 := n0_; have BK170 := n1_; have HB := n2_; clear n0_ n1_ n2_; (try clear hb); (try clear hb2); (try clear hk); (try clear hi); (try clear ho0)) | ((with_reducible refine gate_callee (f := 35) rfl ?_); refine goesS (some 48) Tryz.func35 #[.string (t171.extract 1 9)] ?_; (with_reducible refine (pedigreeref29_Number.calls kj2 (t171.extract 1 9) t183 _ A16.out).mono ?_); rintro e w' ⟨rfl, ⟨nd, rfl⟩⟩; refine ⟨_, rfl, ?_⟩; (try (rw [drewN_self wq2]; generalize hq_ : World.drewN wq2 _ = wq2; have n0_ : Aside0 (Kd.S k90 90 wq2 w.heap.size (fun k_ => some k_ ≠ (v181 : Value).ownBlock) v176 t173) := ⟨by rw [← hq_]; exact (by (with_reducible repeat (first | apply Kd.S_alloc | apply Kd.S_drewN | apply Kd.S_drew)); exact Kd.S_mono HO177.out (fun _ hk => hk.2))⟩; have n1_ : Aside0 (Kd.S k90 90 wq2 w.heap.size (fun k_ => some k_ ≠ (v176 : Value).ownBlock) v181 t178) := ⟨by rw [← hq_]; exact (by (with_reducible repeat (first | apply Kd.S_alloc | apply Kd.S_drewN | apply Kd.S_drew)); exact Kd.S_mono HO182.out (fun _ hk => hk.2))⟩; have n2_ : Aside0 (wq2.heap[gb170]? = some (.cells #[.int .i64 0, .slice none 0 0, .slice none 0 0] 24 (0, 0))) := ⟨by rw [← hq_]; exact (upO BK170.out)⟩; have n3_ : Aside0 (Below w.heap.size w wq2) := ⟨by rw [← hq_]; exact (upB HB.out)⟩; clear HO177 HO182 BK170 HB hq_; have HO177 := n0_; have HO182 := n1_; have BK170 := n2_; have HB := n3_; clear n0_ n1_ n2_ n3_)); obtain ⟨Aoq1, coq1, eoq1⟩ := Kd.S_slice HO182.out; subst eoq1; obtain ⟨Aoq2, coq2, eoq2⟩ := Kd.S_slice HO177.out; subst eoq2) | ((with_reducible refine gate_dst (N := 11) rfl ?_); (try (refine gate_guard (by rfl) ?_; dsimp only)); refine boxS 11 #[.int .i64 0, .slice none 0 0, .slice none 0 0] 24 ?_; intro gb184 hg wq3 hbox hb; have n0_ := Aside0.mk (Kd.S_below (upS HO177.out) hb); have n1_ := Aside0.mk (Kd.S_below (upS HO182.out) hb); have n2_ := Aside0.mk (blk_below (g := gb170) (o := .cells #[.int .i64 0, .slice none 0 0, .slice none 0 0] 24 (0, 0)) (upO BK170.out) hb); have n3_ := Aside0.mk (below_step (upB HB.out) hb); have n4_ := Aside0.mk (hbox); have n5_ := Aside0.mk (geB hg (upB HB.out) : w.heap.size ≤ gb184); have n6_ := Aside0.mk (geB hg (upB HB.out) : w.heap.size ≤ gb184); have n7_ := Aside0.mk ((by rw [hg]; exact Nat.ne_of_lt (blk_lt (g := gb170) (o := .cells #[.int .i64 0, .slice none 0 0, .slice none 0 0] 24 (0, 0)) (upO BK170.out)) : gb170 ≠ gb184)); have n8_ := Aside0.mk ((by rw [hg]; exact Nat.ne_of_gt (blk_lt (g := gb170) (o := .cells #[.int .i64 0, .slice none 0 0, .slice none 0 0] 24 (0, 0)) (upO BK170.out)) : gb184 ≠ gb170)); clear HO177; clear HO182; clear BK170; clear HB; have HO177 := n0_; have HO182 := n1_; have BK170 := n2_; have HB := n3_; have BK184 := n4_; have GW184 := n5_; have GE184 := n6_; have NB170_184 := n7_; have NB184_170 := n8_; clear n0_ n1_ n2_ n3_ n4_ n5_ n6_ n7_ n8_; clear hb hbox hg; have hnbq1 := NB184_170.out; have hncq1 := NB170_184.out; have hczq1_0 : wq3.cell? ⟨gb184, 0, none⟩ = some (.int .i64 0) := (blk_cell BK184.out 0).trans rfl; have hczq1_1 : wq3.cell? ⟨gb184, 1, none⟩ = some (.slice none 0 0) := (blk_cell BK184.out 1).trans rfl; have hczq1_2 : wq3.cell? ⟨gb184, 2, none⟩ = some (.slice none 0 0) := (blk_cell BK184.out 2).trans rfl; have hfzq1_0 := blk_frozen BK184.out 0; have hfzq1_1 := blk_frozen BK184.out 1; have hfzq1_2 := blk_frozen BK184.out 2) | ((with_reducible refine gate_callee (f := 7) rfl ?_); refine goesS (some 55) Tryz.func7 #[.agg #[.int .i64 (wrap64 (t183)), .slice Aoq2 t173.length coq2, .slice Aoq1 t178.length coq1]] ?_; (with_reducible refine (pedigreeref29_Encode.calls kj2 (wrap64 (t183)) _ _ t173 _ _ t178 t185 t186 _ ?side1 ?side2 ?side3 ?side4 A17.out).mono ?_); (case side1 => refine (Kd.S_reads' (e := 90) (base := w.heap.size) (ok := fun k_ => (True ∧ some k_ ≠ (.slice Aoq1 t178.length coq1 : Value).ownBlock)) (n := t173.length) (c := coq2) ?_).2.2; exact (by (with_reducible repeat (first | apply Kd.S_alloc | apply Kd.S_drewN | apply Kd.S_drew)); exact (Kd.S_mono (Kd.S_far (p := ⟨gb184, 2, none⟩) (Kd.S_far (p := ⟨gb184, 1, none⟩) (Kd.S_far (p := ⟨gb184, 0, none⟩) (Kd.S_types HO177.out BK184.out (by decide)) (fun _ hk => hk.2) (.int .i64 (wrap64 (t183)))) (fun _ hk => hk.2) (.slice Aoq2 t173.length coq2)) (fun _ hk => hk.2) (.slice Aoq1 t178.length coq1)) (fun _ h_ => by first | exact h_.1 | exact ⟨trivial, h_.1⟩)))); (case side2 => exact (Kd.S_reads' HO177.out).2.1); (case side3 => refine (Kd.S_reads' (e := 90) (base := w.heap.size) (ok := fun k_ => (True ∧ some k_ ≠ (.slice Aoq2 t173.length coq2 : Value).ownBlock)) (n := t178.length) (c := coq1) ?_).2.2; exact (by (with_reducible repeat (first | apply Kd.S_alloc | apply Kd.S_drewN | apply Kd.S_drew)); exact (Kd.S_mono (Kd.S_far (p := ⟨gb184, 2, none⟩) (Kd.S_far (p := ⟨gb184, 1, none⟩) (Kd.S_far (p := ⟨gb184, 0, none⟩) (Kd.S_types HO182.out BK184.out (by decide)) (fun _ hk => hk.2) (.int .i64 (wrap64 (t183)))) (fun _ hk => hk.2) (.slice Aoq2 t173.length coq2)) (fun _ hk => hk.2) (.slice Aoq1 t178.length coq1)) (fun _ h_ => by first | exact h_.1 | exact ⟨trivial, h_.1⟩)))); (case side4 => exact (Kd.S_reads' HO182.out).2.1); rintro e wq4 ⟨rfl, hb⟩; refine ⟨_, rfl, ?_⟩; have n0_ := Aside0.mk (Kd.S_below (by (with_reducible repeat (first | apply Kd.S_alloc | apply Kd.S_drewN | apply Kd.S_drew)); exact (Kd.S_mono (Kd.S_far (p := ⟨gb184, 2, none⟩) (Kd.S_far (p := ⟨gb184, 1, none⟩) (Kd.S_far (p := ⟨gb184, 0, none⟩) (Kd.S_types HO177.out BK184.out (by decide)) (fun _ hk => hk.2) (.int .i64 (wrap64 (t183)))) (fun _ hk => hk.2) (.slice Aoq2 t173.length coq2)) (fun _ hk => hk.2) (.slice Aoq1 t178.length coq1)) (fun _ h_ => h_.1))) hb); have n1_ := Aside0.mk (Kd.S_below (by (with_reducible repeat (first | apply Kd.S_alloc | apply Kd.S_drewN | apply Kd.S_drew)); exact (Kd.S_mono (Kd.S_far (p := ⟨gb184, 2, none⟩) (Kd.S_far (p := ⟨gb184, 1, none⟩) (Kd.S_far (p := ⟨gb184, 0, none⟩) (Kd.S_types HO182.out BK184.out (by decide)) (fun _ hk => hk.2) (.int .i64 (wrap64 (t183)))) (fun _ hk => hk.2) (.slice Aoq2 t173.length coq2)) (fun _ hk => hk.2) (.slice Aoq1 t178.length coq1)) (fun _ h_ => h_.1))) hb); have n2_ := Aside0.mk (blk_below (g := gb170) (o := .cells #[.int .i64 0, .slice none 0 0, .slice none 0 0] 24 (0, 0)) (by refine upO ?_; refine blk_far ?_ NB170_184.out _; refine upO ?_; refine blk_far ?_ NB170_184.out _; refine upO ?_; refine blk_far ?_ NB170_184.out _; exact upO BK170.out) hb); have n3_ := Aside0.mk (blk_below (g := gb184) (o := .cells #[.int .i64 (wrap64 (t183)), .slice Aoq2 t173.length coq2, .slice Aoq1 t178.length coq1] 24 (0, 0)) (by refine upO ?_; refine blk_put (cs := #[.int .i64 (wrap64 (t183)), .slice Aoq2 t173.length coq2, .slice none 0 0]) ?_ 2 _ rfl; refine upO ?_; refine blk_put (cs := #[.int .i64 (wrap64 (t183)), .slice none 0 0, .slice none 0 0]) ?_ 1 _ rfl; refine upO ?_; refine blk_put (cs := #[.int .i64 0, .slice none 0 0, .slice none 0 0]) ?_ 0 _ rfl; exact upO BK184.out) hb); have n4_ := Aside0.mk (below_step (upB HB.out) hb); clear HO177; clear HO182; clear BK170; clear BK184; clear HB; have HO177 := n0_; have HO182 := n1_; have BK170 := n2_; have BK184 := n3_; have HB := n4_; clear n0_ n1_ n2_ n3_ n4_; (try clear hb); (try clear hb2); (try clear hk); (try clear hi); have hczq2_0 : wq4.cell? ⟨gb184, 0, none⟩ = some (.int .i64 (wrap64 (t183))) := (blk_cell BK184.out 0).trans rfl; have hczq2_1 : wq4.cell? ⟨gb184, 1, none⟩ = some (.slice Aoq2 t173.length coq2) := (blk_cell BK184.out 1).trans rfl; have hczq2_2 : wq4.cell? ⟨gb184, 2, none⟩ = some (.slice Aoq1 t178.length coq1) := (blk_cell BK184.out 2).trans rfl; have hfzq2_0 := blk_frozen BK184.out 0; have hfzq2_1 := blk_frozen BK184.out 1; have hfzq2_2 := blk_frozen BK184.out 2; have hczq3_0 : wq4.cell? ⟨gb170, 0, none⟩ = some (.int .i64 0) := (blk_cell BK170.out 0).trans rfl; have hczq3_1 : wq4.cell? ⟨gb170, 1, none⟩ = some (.slice none 0 0) := (blk_cell BK170.out 1).trans rfl; have hczq3_2 : wq4.cell? ⟨gb170, 2, none⟩ = some (.slice none 0 0) := (blk_cell BK170.out 2).trans rfl; have hfzq3_0 := blk_frozen BK170.out 0; have hfzq3_1 := blk_frozen BK170.out 1; have hfzq3_2 := blk_frozen BK170.out 2) | ((with_reducible refine gate_callee (f := 7) rfl ?_); refine goesS (some 55) Tryz.func7 #[.agg #[.int .i64 (wrap64 (t183)), .slice Aoq2 t173.length coq2, .slice Aoq1 t178.length coq1]] ?_; (with_reducible refine (pedigreeref29_Encode.calls kj2 (wrap64 (t183)) _ _ t173 _ _ t178 t185 t186 _ ?side1 ?side2 ?side3 ?side4 A17.out).mono ?_); (case side1 => refine (Kd.S_reads' (e := 90) (base := w.heap.size) (ok := fun k_ => (True ∧ some k_ ≠ (.slice Aoq1 t178.length coq1 : Value).ownBlock)) (n := t173.length) (c := coq2) ?_).2.2; exact (by (with_reducible repeat (first | apply Kd.S_alloc | apply Kd.S_drewN | apply Kd.S_drew)); exact (Kd.S_mono (Kd.S_far (p := ⟨gb184, 2, none⟩) (Kd.S_far (p := ⟨gb184, 1, none⟩) (Kd.S_far (p := ⟨gb184, 0, none⟩) (Kd.S_types HO177.out BK184.out (by decide)) (fun _ hk => hk.2) (.int .i64 (wrap64 (t183)))) (fun _ hk => hk.2) (.slice Aoq2 t173.length coq2)) (fun _ hk => hk.2) (.slice Aoq1 t178.length coq1)) (fun _ h_ => by first | exact h_.1 | exact ⟨trivial, h_.1⟩)))); (case side2 => exact (Kd.S_reads' HO177.out).2.1); (case side3 => refine (Kd.S_reads' (e := 90) (base := w.heap.size) (ok := fun k_ => (True ∧ some k_ ≠ (.slice Aoq2 t173.length coq2 : Value).ownBlock)) (n := t178.length) (c := coq1) ?_).2.2; exact (by (with_reducible repeat (first | apply Kd.S_alloc | apply Kd.S_drewN | apply Kd.S_drew)); exact (Kd.S_mono (Kd.S_far (p := ⟨gb184, 2, none⟩) (Kd.S_far (p := ⟨gb184, 1, none⟩) (Kd.S_far (p := ⟨gb184, 0, none⟩) (Kd.S_types HO182.out BK184.out (by decide)) (fun _ hk => hk.2) (.int .i64 (wrap64 (t183)))) (fun _ hk => hk.2) (.slice Aoq2 t173.length coq2)) (fun _ hk => hk.2) (.slice Aoq1 t178.length coq1)) (fun _ h_ => by first | exact h_.1 | exact ⟨trivial, h_.1⟩)))); (case side4 => exact (Kd.S_reads' HO182.out).2.1); rintro e wq4 ⟨rfl, hb⟩; refine ⟨_, rfl, ?_⟩; have n0_ := Aside0.mk (Kd.S_below (by (with_reducible repeat (first | apply Kd.S_alloc | apply Kd.S_drewN | apply Kd.S_drew)); exact (Kd.S_mono (Kd.S_far (p := ⟨gb184, 2, none⟩) (Kd.S_far (p := ⟨gb184, 1, none⟩) (Kd.S_far (p := ⟨gb184, 0, none⟩) (Kd.S_types HO177.out BK184.out (by decide)) (fun _ hk => hk.2) (.int .i64 (wrap64 (t183)))) (fun _ hk => hk.2) (.slice Aoq2 t173.length coq2)) (fun _ hk => hk.2) (.slice Aoq1 t178.length coq1)) (fun _ h_ => h_.1))) hb); have n1_ := Aside0.mk (Kd.S_below (by (with_reducible repeat (first | apply Kd.S_alloc | apply Kd.S_drewN | apply Kd.S_drew)); exact (Kd.S_mono (Kd.S_far (p := ⟨gb184, 2, none⟩) (Kd.S_far (p := ⟨gb184, 1, none⟩) (Kd.S_far (p := ⟨gb184, 0, none⟩) (Kd.S_types HO182.out BK184.out (by decide)) (fun _ hk => hk.2) (.int .i64 (wrap64 (t183)))) (fun _ hk => hk.2) (.slice Aoq2 t173.length coq2)) (fun _ hk => hk.2) (.slice Aoq1 t178.length coq1)) (fun _ h_ => h_.1))) hb); have n2_ := Aside0.mk (blk_below (g := gb170) (o := .cells #[.int .i64 0, .slice none 0 0, .slice none 0 0] 24 (0, 0)) (by refine upO ?_; refine blk_far ?_ NB170_184.out _; refine upO ?_; refine blk_far ?_ NB170_184.out _; refine upO ?_; refine blk_far ?_ NB170_184.out _; exact upO BK170.out) hb); have n3_ := Aside0.mk (blk_below (g := gb184) (o := .cells #[.int .i64 (wrap64 (t183)), .slice Aoq2 t173.length coq2, .slice Aoq1 t178.length coq1] 24 (0, 0)) (by refine upO ?_; refine blk_put (cs := #[.int .i64 (wrap64 (t183)), .slice Aoq2 t173.length coq2, .slice none 0 0]) ?_ 2 _ rfl; refine upO ?_; refine blk_put (cs := #[.int .i64 (wrap64 (t183)), .slice none 0 0, .slice none 0 0]) ?_ 1 _ rfl; refine upO ?_; refine blk_put (cs := #[.int .i64 0, .slice none 0 0, .slice none 0 0]) ?_ 0 _ rfl; exact upO BK184.out) hb); have n4_ := Aside0.mk (below_step (upB HB.out) hb); clear HO177; clear HO182; clear BK170; clear BK184; clear HB; have HO177 := n0_; have HO182 := n1_; have BK170 := n2_; have BK184 := n3_; have HB := n4_; clear n0_ n1_ n2_ n3_ n4_; (try clear hb); (try clear hb2); (try clear hk); (try clear hi); have hczq2_0 : wq4.cell? ⟨gb170, 0, none⟩ = some (.int .i64 0) := (blk_cell BK170.out 0).trans rfl; have hczq2_1 : wq4.cell? ⟨gb170, 1, none⟩ = some (.slice none 0 0) := (blk_cell BK170.out 1).trans rfl; have hczq2_2 : wq4.cell? ⟨gb170, 2, none⟩ = some (.slice none 0 0) := (blk_cell BK170.out 2).trans rfl; have hfzq2_0 := blk_frozen BK170.out 0; have hfzq2_1 := blk_frozen BK170.out 1; have hfzq2_2 := blk_frozen BK170.out 2)); first | (refine bodyPost_ret (results_ctt rfl _ _ gb170 24 #[.int .i64 0, .slice none 0 0, .slice none 0 0] (0, 0) _ rfl (by refine upO ?_; refine blk_put (cs := #[.int .i64 0, .slice none 0 0, .slice none 0 0]) ?_ 2 _ rfl; refine upO ?_; refine blk_put (cs := #[.int .i64 0, .slice none 0 0, .slice none 0 0]) ?_ 1 _ rfl; refine upO ?_; refine blk_put (cs := #[.int .i64 0, .slice none 0 0, .slice none 0 0]) ?_ 0 _ rfl; exact upO BK170.out) Tryz.underlying24 rfl (by kernel_rfl)) rfl ?_; exact ⟨_, _, eqE, by first | exact Kd.S_nil _ _ _ _ _ | exact Kd.N_nil _ _ _ _ _ | exact Kd.V_nil _ _ _ _ _ | exact Kd.Q_nil _ _ _ _ _ | exact Kd.R_nil _ _ _ _ _, by first | exact Kd.S_nil _ _ _ _ _ | exact Kd.N_nil _ _ _ _ _ | exact Kd.V_nil _ _ _ _ _ | exact Kd.Q_nil _ _ _ _ _ | exact Kd.R_nil _ _ _ _ _, upB HB.out⟩) | (refine bodyPost_ret (results_ctt rfl _ _ gb170 24 #[.int .i64 (wrap64 (t183)), .slice Aoq2 t173.length coq2, .slice Aoq1 t178.length coq1] (0, 0) _ rfl (by refine upO ?_; refine blk_put (cs := #[.int .i64 (wrap64 (t183)), .slice Aoq2 t173.length coq2, .slice none 0 0]) ?_ 2 _ rfl; refine upO ?_; refine blk_put (cs := #[.int .i64 (wrap64 (t183)), .slice none 0 0, .slice none 0 0]) ?_ 1 _ rfl; refine upO ?_; refine blk_put (cs := #[.int .i64 0, .slice none 0 0, .slice none 0 0]) ?_ 0 _ rfl; exact upO BK170.out) Tryz.underlying24 rfl (by kernel_rfl)) rfl ?_; exact ⟨_, _, eqE, by (with_reducible repeat (first | apply Kd.S_alloc | apply Kd.S_drewN | apply Kd.S_drew)); exact Kd.S_mono (Kd.S_far (p := ⟨gb170, 2, none⟩) (Kd.S_far (p := ⟨gb170, 1, none⟩) (Kd.S_far (p := ⟨gb170, 0, none⟩) (Kd.S_types HO177.out BK170.out (by decide)) (fun _ hk => hk.2) (.int .i64 (wrap64 (t183)))) (fun _ hk => hk.2) (.slice Aoq2 t173.length coq2)) (fun _ hk => hk.2) (.slice Aoq1 t178.length coq1)) (fun _ hk => hk.1), by (with_reducible repeat (first | apply Kd.S_alloc | apply Kd.S_drewN | apply Kd.S_drew)); exact Kd.S_mono (Kd.S_far (p := ⟨gb170, 2, none⟩) (Kd.S_far (p := ⟨gb170, 1, none⟩) (Kd.S_far (p := ⟨gb170, 0, none⟩) (Kd.S_types HO182.out BK170.out (by decide)) (fun _ hk => hk.2) (.int .i64 (wrap64 (t183)))) (fun _ hk => hk.2) (.slice Aoq2 t173.length coq2)) (fun _ hk => hk.2) (.slice Aoq1 t178.length coq1)) (fun _ hk => hk.1), upB HB.out⟩) | (refine bodyPost_ret (results_ctt rfl _ _ gb170 24 #[.int .i64 0, .slice none 0 0, .slice none 0 0] (0, 0) _ rfl (by refine upO ?_; refine blk_put (cs := #[.int .i64 0, .slice none 0 0, .slice none 0 0]) ?_ 2 _ rfl; refine upO ?_; refine blk_put (cs := #[.int .i64 0, .slice none 0 0, .slice none 0 0]) ?_ 1 _ rfl; refine upO ?_; refine blk_put (cs := #[.int .i64 0, .slice none 0 0, .slice none 0 0]) ?_ 0 _ rfl; exact upO BK170.out) Tryz.underlying24 rfl (by kernel_rfl)) rfl ?_; exact ⟨_, _, eqE, by first | exact Kd.S_nil _ _ _ _ _ | exact Kd.N_nil _ _ _ _ _ | exact Kd.V_nil _ _ _ _ _ | exact Kd.Q_nil _ _ _ _ _ | exact Kd.R_nil _ _ _ _ _, by first | exact Kd.S_nil _ _ _ _ _ | exact Kd.N_nil _ _ _ _ _ | exact Kd.V_nil _ _ _ _ _ | exact Kd.Q_nil _ _ _ _ _ | exact Kd.R_nil _ _ _ _ _, upB HB.out⟩))
end Go.Proofs.J.Print
end
section
namespace Go.Proofs.J.Print
open Go.RowKit Go.Proofs.PrintWords Go.Proofs.PrintLast Go.Proofs.PrintMore
attribute [local go_sem high] eqA85
def pedigreelaw01_SameValues.l0 : Nat → List (S85) → List (S85) → Int → Option (Bool)
 | 0, _, _, _ => none
 | k + 1, x0, x1, x5 => if x5 < (x0.length : Int) then (if 0 ≤ x5 then (if x5 < (x1.length : Int) then (if (!(((rd_T85 x0 x5).f0) == ((rd_T85 x1 x5).f0)) || (!(((rd_T85 x0 x5).f1) == ((rd_T85 x1 x5).f1)) || (!((((rd_T85 x0 x5).f2).toList) == (((rd_T85 x1 x5).f2).toList))))) = true then (some false) else (pedigreelaw01_SameValues.l0 k x0 x1 (wrap64 (x5 + 1)))) else (none)) else (none)) else (some true)
def pedigreelaw01_SameValues.f (k : Nat) (l0 : List (S85)) (l1 : List (S85)) : Option (Bool) := if (l0.length : Int) = (l1.length : Int) then (pedigreelaw01_SameValues.l0 k l0 l1 0) else (some false)
set_option maxHeartbeats 8000000 in
set_option maxRecDepth 100000 in
theorem pedigreelaw01_SameValues.calls (k : Nat) (A0 : Option Addr) (c0 : Nat) (l0 : List (S85)) (A1 : Option Addr) (c1 : Nat) (l1 : List (S85)) (r : Bool) (w : World) (hr0 : Kd.C k85 w A0 l0.length l0) (hc0 : l0.length ≤ c0) (hr1 : Kd.C k85 w A1 l1.length l1) (hc1 : l1.length ≤ c1) (h : pedigreelaw01_SameValues.f k l0 l1 = some r) :
  Calls Tryz.prog 216 #[.slice A0 l0.length c0, .slice A1 l1.length c1] w fun e w' => e = .returned (.bool r) ∧ Drawn0 w w' := by
 have hu85 := Tryz.underlying85
 have HR0 := Aside0.mk hr0
 have HC0 := Aside0.mk hc0
 clear hr0 hc0
 have HR1 := Aside0.mk hr1
 have HC1 := Aside0.mk hc1
 clear hr1 hc1
 have H : (if (l0.length : Int) = (l1.length : Int) then (pedigreelaw01_SameValues.l0 k l0 l1 0) else (some false)) = some r := h
 clear h
 by_cases c3 : (l0.length : Int) = (l1.length : Int)
 ·rw [if_pos c3] at H
  have c3b0 : ((l0.length : Int) == (l1.length : Int)) = true := beq_iff_eq.mpr c3
  have c3b1 : ((l0.length : Int) != (l1.length : Int)) = false := bne_eq_false_iff_eq.mpr c3
  have c3b2 : (l0.length == l1.length) = true := by first | simpa using c3 | (simp at c3 ⊢; omega)
  clear c3
  have H' := Aside0.mk H
  clear H
  go_enter Tryz.func216, Tryz.ntmps216
  go_wp2
  repeat (go_quiet (fail); try go_wp2)
  go_loopg [5] k (fun kq v5 w' => ∃ (x5_1 : Int), v5 = .int .i64 x5_1 ∧ Aside0 (pedigreelaw01_SameValues.l0 kq l0 l1 x5_1 = some r) ∧ Aside0 (kq ≤ k) ∧ Drawn0 w w')
  case atStart => exact ⟨(0), eqS, H', ⟨Nat.le_refl _⟩, by repeat (first | exact Drawn0.refl _ | apply Drawn0.step)⟩
  case round =>
   clear H'
   try clear c1
   try clear c2
   try clear p2
   try clear c3
   try clear c3b0
   try clear c3b1
   try clear c3b2
   obtain ⟨x5_1, rfl, HA, HK1, ⟨m1, rfl⟩⟩ := hrel
   cases gk with
   | zero => exact absurd HA.out (by simp [pedigreelaw01_SameValues.l0])
   | succ k1 =>
    have H := HA.out
    clear HA
    simp only [pedigreelaw01_SameValues.l0] at H
    by_cases c4 : x5_1 < (l0.length : Int)
    ·rw [if_pos c4] at H
     have c4b0 := decide_eq_true c4
     clear c4
     by_cases c5 : 0 ≤ x5_1
     ·rw [if_pos c5] at H
      have c5b0 := decide_eq_true c5
      clear c5
      by_cases c6 : x5_1 < (l1.length : Int)
      ·rw [if_pos c6] at H
       have c6b0 := decide_eq_true c6
       clear c6
       by_cases c7 : (!(((rd_T85 l0 x5_1).f0) == ((rd_T85 l1 x5_1).f0)) || (!(((rd_T85 l0 x5_1).f1) == ((rd_T85 l1 x5_1).f1)) || (!((((rd_T85 l0 x5_1).f2).toList) == (((rd_T85 l1 x5_1).f2).toList))))) = true
       ·rw [if_pos c7] at H
        have c7b0 : (!(((rd_T85 l0 x5_1).f0) == ((rd_T85 l1 x5_1).f0)) || (!(((rd_T85 l0 x5_1).f1) == ((rd_T85 l1 x5_1).f1)) || (!((((rd_T85 l0 x5_1).f2).toList) == (((rd_T85 l1 x5_1).f2).toList))))) = true := c7
        clear c7
        obtain rfl := Option.some.inj H
        have p187 : 0 ≤ (x5_1 : Int) := of_decide_eq_true byA
        have q187 : x5_1 < (l0.length : Int) := of_decide_eq_true byA
        obtain ⟨ad187, e187, hx187_0, hx187_1, hx187_2⟩ := at_T85 HR0.out x5_1 p187 q187
        cases e187
        replace p187 := eq_true p187
        replace q187 := eq_true q187
        have p188 : 0 ≤ (x5_1 : Int) := of_decide_eq_true byA
        have q188 : x5_1 < (l1.length : Int) := of_decide_eq_true byA
        obtain ⟨ad188, e188, hx188_0, hx188_1, hx188_2⟩ := at_T85 HR1.out x5_1 p188 q188
        cases e188
        replace p188 := eq_true p188
        replace q188 := eq_true q188
        go_wp2
        repeat (go_quiet (fail); try go_wp2)
        go_ret
        exact ⟨eqS, by repeat (first | exact Drawn0.refl _ | apply Drawn0.step)⟩
       ·rw [if_neg c7] at H
        have c7b0 : (!(((rd_T85 l0 x5_1).f0) == ((rd_T85 l1 x5_1).f0)) || (!(((rd_T85 l0 x5_1).f1) == ((rd_T85 l1 x5_1).f1)) || (!((((rd_T85 l0 x5_1).f2).toList) == (((rd_T85 l1 x5_1).f2).toList))))) = false := by simpa using c7
        clear c7
        have H' := Aside0.mk H
        clear H
        have p187 : 0 ≤ (x5_1 : Int) := of_decide_eq_true byA
        have q187 : x5_1 < (l0.length : Int) := of_decide_eq_true byA
        obtain ⟨ad187, e187, hx187_0, hx187_1, hx187_2⟩ := at_T85 HR0.out x5_1 p187 q187
        cases e187
        replace p187 := eq_true p187
        replace q187 := eq_true q187
        have p188 : 0 ≤ (x5_1 : Int) := of_decide_eq_true byA
        have q188 : x5_1 < (l1.length : Int) := of_decide_eq_true byA
        obtain ⟨ad188, e188, hx188_0, hx188_1, hx188_2⟩ := at_T85 HR1.out x5_1 p188 q188
        cases e188
        replace p188 := eq_true p188
        replace q188 := eq_true q188
        go_wp2
        repeat (go_quiet (fail); try go_wp2)
        go_roundg k1
        case measure => have := HK1.out; omega
        case rel => exact ⟨(wrap64 (x5_1 + 1)), eqS, H', ⟨by have := HK1.out; omega⟩, by repeat (first | exact Drawn0.refl _ | apply Drawn0.step)⟩
      ·rw [if_neg c6] at H
       exact absurd H (by simp)
     ·rw [if_neg c5] at H
      exact absurd H (by simp)
    ·rw [if_neg c4] at H
     have c4b0 := decide_eq_false c4
     clear c4
     obtain rfl := Option.some.inj H
     go_wp2
     repeat (go_quiet (fail); try go_wp2)
     go_ret
     exact ⟨eqS, by repeat (first | exact Drawn0.refl _ | apply Drawn0.step)⟩
 ·rw [if_neg c3] at H
  have c3b0 : ((l0.length : Int) == (l1.length : Int)) = false := beq_eq_false_iff_ne.mpr c3
  have c3b1 : ((l0.length : Int) != (l1.length : Int)) = true := bne_iff_ne.mpr c3
  have c3b2 : (l0.length == l1.length) = false := by first | simpa using c3 | (simp at c3 ⊢; omega)
  obtain rfl := Option.some.inj H
  go_enter Tryz.func216, Tryz.ntmps216
  go_wp2
  repeat (go_quiet (fail); try go_wp2)
  go_ret
  exact ⟨eqS, by repeat (first | exact Drawn0.refl _ | apply Drawn0.step)⟩
end Go.Proofs.J.Print
end
section
namespace Go.Proofs.J.Print
open Go.RowKit Go.Proofs.PrintWords Go.Proofs.PrintLast Go.Proofs.PrintMore
def pedigreelaw01_SameFact.f (k : Nat) (a0_0 : ByteArray) (l0_1 : List (S85)) (a1_0 : ByteArray) (l1_1 : List (S85)) : Option (Bool) := if a0_0.toList = a1_0.toList then ((pedigreelaw01_SameValues.f k l0_1 l1_1).bind fun t191 => (some t191)) else (some false)
set_option maxHeartbeats 8000000 in
set_option maxRecDepth 100000 in
theorem pedigreelaw01_SameFact.calls (k : Nat) (a0_0 : ByteArray) (A0_1 : Option Addr) (c0_1 : Nat) (l0_1 : List (S85)) (a1_0 : ByteArray) (A1_1 : Option Addr) (c1_1 : Nat) (l1_1 : List (S85)) (r : Bool) (w : World) (hr0_1 : Kd.C k85 w A0_1 l0_1.length l0_1) (hc0_1 : l0_1.length ≤ c0_1) (hr1_1 : Kd.C k85 w A1_1 l1_1.length l1_1) (hc1_1 : l1_1.length ≤ c1_1) (h : pedigreelaw01_SameFact.f k a0_0 l0_1 a1_0 l1_1 = some r) :
  Calls Tryz.prog 99 #[.agg #[.string a0_0, .slice A0_1 l0_1.length c0_1], .agg #[.string a1_0, .slice A1_1 l1_1.length c1_1]] w fun e w' => e = .returned (.bool r) ∧ Below w.heap.size w w' := by
 have hu90 := Tryz.underlying90
 have HR0_1 := Aside0.mk hr0_1
 have HC0_1 := Aside0.mk hc0_1
 clear hr0_1 hc0_1
 have HR1_1 := Aside0.mk hr1_1
 have HC1_1 := Aside0.mk hc1_1
 clear hr1_1 hc1_1
 have HB := Aside0.mk (Below.refl w.heap.size w)
 have H : (if a0_0.toList = a1_0.toList then ((pedigreelaw01_SameValues.f k l0_1 l1_1).bind fun t191 => (some t191)) else (some false)) = some r := h
 clear h
 by_cases c3 : a0_0.toList = a1_0.toList
 focus
  rw [if_pos c3] at H
  have c3b0 : (a0_0.toList == a1_0.toList) = true := beq_iff_eq.mpr c3
  have c3b1 : (a0_0.toList != a1_0.toList) = false := bne_eq_false_iff_eq.mpr c3
  clear c3
  replace H := Option.bind_eq_some_iff.mp H
  obtain ⟨t191, A40, H⟩ := H
  replace H : (some t191) = some r := H
  have A4 := Aside0.mk A40
  clear A40
  obtain rfl := Option.some.inj H
 rotate_right
 focus
  rw [if_neg c3] at H
  have c3b0 : (a0_0.toList == a1_0.toList) = false := beq_eq_false_iff_ne.mpr c3
  have c3b1 : (a0_0.toList != a1_0.toList) = true := bne_iff_ne.mpr c3
  obtain rfl := Option.some.inj H
 all_goals (go_enter Tryz.func99, Tryz.ntmps99; go_wp2_with (first | ((with_reducible refine gate_dst (N := 2) rfl ?_); refine boxS 2 #[.string a0_0, .slice A0_1 l0_1.length c0_1] 90 ?_; intro gb189 hg wq1 hbox hb; have n0_ := Aside0.mk (below_step (upB HB.out) hb); have n1_ := Aside0.mk (hbox); have n2_ := Aside0.mk (geB hg (upB HB.out) : w.heap.size ≤ gb189); have n3_ := Aside0.mk (geB hg (upB HB.out) : w.heap.size ≤ gb189); clear HB; have HB := n0_; have BK189 := n1_; have GW189 := n2_; have GE189 := n3_; clear n0_ n1_ n2_ n3_; clear hb hbox hg) | ((with_reducible refine gate_dst (N := 3) rfl ?_); refine boxS 3 #[.string a1_0, .slice A1_1 l1_1.length c1_1] 90 ?_; intro gb190 hg wq2 hbox hb; have n0_ := Aside0.mk (blk_below (g := gb189) (o := .cells #[.string a0_0, .slice A0_1 l0_1.length c0_1] 90 (0, 0)) (upO BK189.out) hb); have n1_ := Aside0.mk (below_step (upB HB.out) hb); have n2_ := Aside0.mk (hbox); have n3_ := Aside0.mk (geB hg (upB HB.out) : w.heap.size ≤ gb190); have n4_ := Aside0.mk (geB hg (upB HB.out) : w.heap.size ≤ gb190); have n5_ := Aside0.mk ((by rw [hg]; exact Nat.ne_of_lt (blk_lt (g := gb189) (o := .cells #[.string a0_0, .slice A0_1 l0_1.length c0_1] 90 (0, 0)) (upO BK189.out)) : gb189 ≠ gb190)); have n6_ := Aside0.mk ((by rw [hg]; exact Nat.ne_of_gt (blk_lt (g := gb189) (o := .cells #[.string a0_0, .slice A0_1 l0_1.length c0_1] 90 (0, 0)) (upO BK189.out)) : gb190 ≠ gb189)); clear BK189; clear HB; have BK189 := n0_; have HB := n1_; have BK190 := n2_; have GW190 := n3_; have GE190 := n4_; have NB189_190 := n5_; have NB190_189 := n6_; clear n0_ n1_ n2_ n3_ n4_ n5_ n6_; clear hb hbox hg; have hnbq1 := NB189_190.out; have hncq1 := NB190_189.out; have hczq1_0 : wq2.cell? ⟨gb189, 0, none⟩ = some (.string a0_0) := (blk_cell BK189.out 0).trans rfl; have hczq1_1 : wq2.cell? ⟨gb189, 1, none⟩ = some (.slice A0_1 l0_1.length c0_1) := (blk_cell BK189.out 1).trans rfl; have hfzq1_0 := blk_frozen BK189.out 0; have hfzq1_1 := blk_frozen BK189.out 1; have hczq2_0 : wq2.cell? ⟨gb190, 0, none⟩ = some (.string a1_0) := (blk_cell BK190.out 0).trans rfl; have hczq2_1 : wq2.cell? ⟨gb190, 1, none⟩ = some (.slice A1_1 l1_1.length c1_1) := (blk_cell BK190.out 1).trans rfl; have hfzq2_0 := blk_frozen BK190.out 0; have hfzq2_1 := blk_frozen BK190.out 1) | (go_at_call 216; (with_reducible refine (pedigreelaw01_SameValues.calls k _ _ l0_1 _ _ l1_1 t191 _ ?side1 ?side2 ?side3 ?side4 A4.out).mono ?_); (case side1 => exact upC (Kd.C_below HR0_1.out HB.out)); (case side2 => exact HC0_1.out); (case side3 => exact upC (Kd.C_below HR1_1.out HB.out)); (case side4 => exact HC1_1.out); rintro e w' ⟨rfl, ⟨nd, rfl⟩⟩)); first | (go_ret; exact ⟨eqE, upB HB.out⟩))
end Go.Proofs.J.Print
end
section
namespace Go.Proofs.J.Print
open Go.RowKit Go.Proofs.PrintWords Go.Proofs.PrintLast Go.Proofs.PrintMore
def pedigreelaw01_SameFacts.l0 : Nat → List (S90) → List (S90) → Int → Option (Bool)
 | 0, _, _, _ => none
 | k + 1, x0, x1, x5 => if x5 < (x0.length : Int) then (if 0 ≤ x5 then (if x5 < (x1.length : Int) then ((pedigreelaw01_SameFact.f k ((rd_T90 x0 x5).f0) ((rd_T90 x0 x5).f1) ((rd_T90 x1 x5).f0) ((rd_T90 x1 x5).f1)).bind fun t194 => (if t194 = true then (pedigreelaw01_SameFacts.l0 k x0 x1 (wrap64 (x5 + 1))) else (some false))) else (none)) else (none)) else (some true)
def pedigreelaw01_SameFacts.f (k : Nat) (l0 : List (S90)) (l1 : List (S90)) : Option (Bool) := if (l0.length : Int) = (l1.length : Int) then (pedigreelaw01_SameFacts.l0 k l0 l1 0) else (some false)
def pedigreelaw01_SameFacts.T6 : Bool × List (List Nat × List Nat) := (true, [([], []), ([], []), ([0, 1], [0, 1]), ([2], [2]), ([], []), ([], []), ([4, 5], [4, 5]), ([6], [6]), ([3, 7], [3, 7]), ([8], [8])])
def pedigreelaw01_SameFacts.B6 : List Nat := [0, 0, 3, 7, 0, 0, 48, 112, 255, 511]
theorem pedigreelaw01_SameFacts.tab6 : rtab .any (opsOf Tryz.f39 6) = pedigreelaw01_SameFacts.T6 := by kernel_rfl
theorem pedigreelaw01_SameFacts.bits6 : waitsOk pedigreelaw01_SameFacts.T6.2 pedigreelaw01_SameFacts.B6 = true := by kernel_rfl
set_option maxHeartbeats 8000000 in
set_option maxRecDepth 100000 in
theorem pedigreelaw01_SameFacts.calls (k : Nat) (A0 : Option Addr) (c0 : Nat) (l0 : List (S90)) (A1 : Option Addr) (c1 : Nat) (l1 : List (S90)) (r : Bool) (w : World) (hr0 : Kd.C k90 w A0 l0.length l0) (hc0 : l0.length ≤ c0) (hr1 : Kd.C k90 w A1 l1.length l1) (hc1 : l1.length ≤ c1) (h : pedigreelaw01_SameFacts.f k l0 l1 = some r) :
  Calls Tryz.prog 39 #[.slice A0 l0.length c0, .slice A1 l1.length c1] w fun e w' => e = .returned (.bool r) ∧ Below w.heap.size w w' := by
 have hu90 := Tryz.underlying90
 have HR0 := Aside0.mk hr0
 have HC0 := Aside0.mk hc0
 clear hr0 hc0
 have HR1 := Aside0.mk hr1
 have HC1 := Aside0.mk hc1
 clear hr1 hc1
 have HB := Aside0.mk (Below.refl w.heap.size w)
 have H : (if (l0.length : Int) = (l1.length : Int) then (pedigreelaw01_SameFacts.l0 k l0 l1 0) else (some false)) = some r := h
 clear h
 by_cases c3 : (l0.length : Int) = (l1.length : Int)
 ·rw [if_pos c3] at H
  have c3b0 : ((l0.length : Int) == (l1.length : Int)) = true := beq_iff_eq.mpr c3
  have c3b1 : ((l0.length : Int) != (l1.length : Int)) = false := bne_eq_false_iff_eq.mpr c3
  have c3b2 : (l0.length == l1.length) = true := by first | simpa using c3 | (simp at c3 ⊢; omega)
  clear c3
  have H' := Aside0.mk H
  clear H
  go_enter Tryz.func39, Tryz.ntmps39
  go_wp2
  go_loopg [5] k (fun kq v5 w' => ∃ (x5_1 : Int), v5 = .int .i64 x5_1 ∧ Aside0 (pedigreelaw01_SameFacts.l0 kq l0 l1 x5_1 = some r) ∧ Aside0 (kq ≤ k) ∧ Aside0 (Below w.heap.size w w'))
  case atStart => exact ⟨(0), eqS, H', ⟨Nat.le_refl _⟩, ⟨upB HB.out⟩⟩
  case round =>
   clear H'
   try clear c1
   try clear p2
   try clear c3
   try clear c3b0
   try clear c3b1
   try clear c3b2
   obtain ⟨x5_1, rfl, HA, HK1, HB⟩ := hrel
   cases gk with
   | zero => exact absurd HA.out (by simp [pedigreelaw01_SameFacts.l0])
   | succ k1 =>
    have H := HA.out
    clear HA
    simp only [pedigreelaw01_SameFacts.l0] at H
    by_cases c4 : x5_1 < (l0.length : Int)
    ·rw [if_pos c4] at H
     have c4b0 := decide_eq_true c4
     clear c4
     by_cases c5 : 0 ≤ x5_1
     ·rw [if_pos c5] at H
      have c5b0 := decide_eq_true c5
      clear c5
      by_cases c6 : x5_1 < (l1.length : Int)
      ·rw [if_pos c6] at H
       have c6b0 := decide_eq_true c6
       clear c6
       replace H := Option.bind_eq_some_iff.mp H
       obtain ⟨t194, A70, H⟩ := H
       replace H : (if t194 = true then (pedigreelaw01_SameFacts.l0 k1 l0 l1 (wrap64 (x5_1 + 1))) else (some false)) = some r := H
       have A7 := Aside0.mk A70
       clear A70
       by_cases c8 : t194 = true
       ·subst c8
        have H1 : (pedigreelaw01_SameFacts.l0 k1 l0 l1 (wrap64 (x5_1 + 1))) = some r := by rw [if_pos rfl] at H; exact H
        clear H
        have H := H1
        clear H1
        have H' := Aside0.mk H
        clear H
        try go_wp2
        have n0_ := Aside0.mk (below_drew1 HB.out)
        clear HB
        have HB := n0_
        clear n0_
        have p192 : 0 ≤ (x5_1 : Int) := of_decide_eq_true byA
        have q192 : x5_1 < (l0.length : Int) := of_decide_eq_true byA
        obtain ⟨ad192, A192_1, c192_1, e192, hx192_0, hx192_1, hl192_1, hi192_1⟩ := at_T90 HR0.out x5_1 p192 q192
        have hw192_1 := hx192_1
        have hw192_0 := hx192_0
        cases e192
        replace hx192_0 := cellB HB.out hx192_0
        replace hx192_1 := cellB HB.out hx192_1
        have HR192_1 := Aside0.mk hi192_1
        have HC192_1 := Aside0.mk hl192_1
        clear hi192_1 hl192_1
        replace p192 := eq_true p192
        replace q192 := eq_true q192
        have p193 : 0 ≤ (x5_1 : Int) := of_decide_eq_true byA
        have q193 : x5_1 < (l1.length : Int) := of_decide_eq_true byA
        obtain ⟨ad193, A193_1, c193_1, e193, hx193_0, hx193_1, hl193_1, hi193_1⟩ := at_T90 HR1.out x5_1 p193 q193
        have hw193_1 := hx193_1
        have hw193_0 := hx193_0
        cases e193
        replace hx193_0 := cellB HB.out hx193_0
        replace hx193_1 := cellB HB.out hx193_1
        have HR193_1 := Aside0.mk hi193_1
        have HC193_1 := Aside0.mk hl193_1
        clear hi193_1 hl193_1
        replace p193 := eq_true p193
        replace q193 := eq_true q193
        refine start_ (n := 10) (S := fun w' => w'.cell? (ad192.add ((x5_1).toNat * 2)) = some (.string ((rd_T90 l0 x5_1).f0)) ∧ w'.cell? ⟨(ad192.add ((x5_1).toNat * 2)).block, (ad192.add ((x5_1).toNat * 2)).off + 1, none⟩ = some (.slice A192_1 ((rd_T90 l0 x5_1).f1).length c192_1) ∧ w'.cell? (ad193.add ((x5_1).toNat * 2)) = some (.string ((rd_T90 l1 x5_1).f0)) ∧ w'.cell? ⟨(ad193.add ((x5_1).toNat * 2)).block, (ad193.add ((x5_1).toNat * 2)).off + 1, none⟩ = some (.slice A193_1 ((rd_T90 l1 x5_1).f1).length c193_1)) (ds := []) #[false,false,false,false,false,false,false,false,false,false] (by kernel_rfl) rfl rfl ⟨(cellB HB.out hw192_0), (cellB HB.out hw192_1), (cellB HB.out hw193_0), (cellB HB.out hw193_1)⟩ (fun hHeld => ?_); refine with_tabW pedigreelaw01_SameFacts.tab6 pedigreelaw01_SameFacts.bits6 (fun HT_ HW_ => ?_)
        generalize wr.drew = w9 at HB HR192_1 HR193_1 hx192_0 hx192_1 hx193_0 hx193_1 hHeld ⊢
        refine pureS 0 (some 17) HT_ ?_
        refine pureS 1 (some 18) HT_ ?_
        refine pureS 2 (some 19) HT_ ?_
        refine pureS 4 (some 21) HT_ ?_
        refine pureS 5 (some 22) HT_ ?_
        refine pureS 6 (some 23) HT_ ?_
        refine takeS 3 (some 20) HT_ HW_ hHeld ?_
        refine takeS 7 (some 24) HT_ HW_ hHeld ?_
        refine one_ (i := 8) (N := some 25) #[true, true, true, true, true, true, true, true, true, false] rfl rfl (one_of HT_.out (by kernel_rfl)) (by decide) (fun K hK => ?_)
        refine goes_ Tryz.func99 (by kernel_rfl) rfl #[.agg #[.string ((rd_T90 l0 x5_1).f0), .slice A192_1 ((rd_T90 l0 x5_1).f1).length c192_1], .agg #[.string ((rd_T90 l1 x5_1).f0), .slice A193_1 ((rd_T90 l1 x5_1).f1).length c193_1]] (by rfl) rfl rfl (by (try simp only [List.map_toArray, List.map_cons, List.map_nil]); first | done | rfl | (simp only [List.length_drop, List.length_take]; rfl)) ?_
        with_reducible refine (pedigreelaw01_SameFact.calls k1 ((rd_T90 l0 x5_1).f0) _ _ ((rd_T90 l0 x5_1).f1) ((rd_T90 l1 x5_1).f0) _ _ ((rd_T90 l1 x5_1).f1) true _ ?side1 ?side2 ?side3 ?side4 A7.out).mono ?_
        (case side1 => exact upC (Kd.C_below HR192_1.out HB.out))
        (case side2 => exact HC192_1.out)
        (case side3 => exact upC (Kd.C_below HR193_1.out HB.out))
        (case side4 => exact HC193_1.out)
        rintro e w10 ⟨rfl, hb⟩
        refine ⟨_, rfl, ?_⟩
        have n0_ := Aside0.mk (below_step (upB HB.out) hb)
        clear HB
        have HB := n0_
        clear n0_
        (try clear hb)
        (try clear hb2)
        (try clear hk)
        (try clear hi)
        refine hK.out _ _ ⟨(cellB HB.out hw192_0), (cellB HB.out hw192_1), (cellB HB.out hw193_0), (cellB HB.out hw193_1)⟩ (fun hHeld => ?_)
        clear hK K
        refine normS (some 25) ?_
        refine pureS 9 (some 26) HT_ ?_
        refine done_ (done_of HT_.out (by kernel_rfl)) ?_
        try go_wp2
        go_roundg k1
        case measure => have := HK1.out; omega
        case rel => exact ⟨(wrap64 (x5_1 + 1)), eqS, H', ⟨by have := HK1.out; omega⟩, ⟨upB HB.out⟩⟩
       ·replace c8 := Bool.eq_false_iff.mpr c8
        subst c8
        have H1 : (some false) = some r := by rw [if_neg (show ¬ (false = true) by decide)] at H; exact H
        clear H
        have H := H1
        clear H1
        obtain rfl := Option.some.inj H
        try go_wp2
        have n0_ := Aside0.mk (below_drew1 HB.out)
        clear HB
        have HB := n0_
        clear n0_
        have p192 : 0 ≤ (x5_1 : Int) := of_decide_eq_true byA
        have q192 : x5_1 < (l0.length : Int) := of_decide_eq_true byA
        obtain ⟨ad192, A192_1, c192_1, e192, hx192_0, hx192_1, hl192_1, hi192_1⟩ := at_T90 HR0.out x5_1 p192 q192
        have hw192_1 := hx192_1
        have hw192_0 := hx192_0
        cases e192
        replace hx192_0 := cellB HB.out hx192_0
        replace hx192_1 := cellB HB.out hx192_1
        have HR192_1 := Aside0.mk hi192_1
        have HC192_1 := Aside0.mk hl192_1
        clear hi192_1 hl192_1
        replace p192 := eq_true p192
        replace q192 := eq_true q192
        have p193 : 0 ≤ (x5_1 : Int) := of_decide_eq_true byA
        have q193 : x5_1 < (l1.length : Int) := of_decide_eq_true byA
        obtain ⟨ad193, A193_1, c193_1, e193, hx193_0, hx193_1, hl193_1, hi193_1⟩ := at_T90 HR1.out x5_1 p193 q193
        have hw193_1 := hx193_1
        have hw193_0 := hx193_0
        cases e193
        replace hx193_0 := cellB HB.out hx193_0
        replace hx193_1 := cellB HB.out hx193_1
        have HR193_1 := Aside0.mk hi193_1
        have HC193_1 := Aside0.mk hl193_1
        clear hi193_1 hl193_1
        replace p193 := eq_true p193
        replace q193 := eq_true q193
        refine start_ (n := 10) (S := fun w' => w'.cell? (ad192.add ((x5_1).toNat * 2)) = some (.string ((rd_T90 l0 x5_1).f0)) ∧ w'.cell? ⟨(ad192.add ((x5_1).toNat * 2)).block, (ad192.add ((x5_1).toNat * 2)).off + 1, none⟩ = some (.slice A192_1 ((rd_T90 l0 x5_1).f1).length c192_1) ∧ w'.cell? (ad193.add ((x5_1).toNat * 2)) = some (.string ((rd_T90 l1 x5_1).f0)) ∧ w'.cell? ⟨(ad193.add ((x5_1).toNat * 2)).block, (ad193.add ((x5_1).toNat * 2)).off + 1, none⟩ = some (.slice A193_1 ((rd_T90 l1 x5_1).f1).length c193_1)) (ds := []) #[false,false,false,false,false,false,false,false,false,false] (by kernel_rfl) rfl rfl ⟨(cellB HB.out hw192_0), (cellB HB.out hw192_1), (cellB HB.out hw193_0), (cellB HB.out hw193_1)⟩ (fun hHeld => ?_); refine with_tabW pedigreelaw01_SameFacts.tab6 pedigreelaw01_SameFacts.bits6 (fun HT_ HW_ => ?_)
        generalize wr.drew = w11 at HB HR192_1 HR193_1 hx192_0 hx192_1 hx193_0 hx193_1 hHeld ⊢
        refine pureS 0 (some 17) HT_ ?_
        refine pureS 1 (some 18) HT_ ?_
        refine pureS 2 (some 19) HT_ ?_
        refine pureS 4 (some 21) HT_ ?_
        refine pureS 5 (some 22) HT_ ?_
        refine pureS 6 (some 23) HT_ ?_
        refine takeS 3 (some 20) HT_ HW_ hHeld ?_
        refine takeS 7 (some 24) HT_ HW_ hHeld ?_
        refine one_ (i := 8) (N := some 25) #[true, true, true, true, true, true, true, true, true, false] rfl rfl (one_of HT_.out (by kernel_rfl)) (by decide) (fun K hK => ?_)
        refine goes_ Tryz.func99 (by kernel_rfl) rfl #[.agg #[.string ((rd_T90 l0 x5_1).f0), .slice A192_1 ((rd_T90 l0 x5_1).f1).length c192_1], .agg #[.string ((rd_T90 l1 x5_1).f0), .slice A193_1 ((rd_T90 l1 x5_1).f1).length c193_1]] (by rfl) rfl rfl (by (try simp only [List.map_toArray, List.map_cons, List.map_nil]); first | done | rfl | (simp only [List.length_drop, List.length_take]; rfl)) ?_
        with_reducible refine (pedigreelaw01_SameFact.calls k1 ((rd_T90 l0 x5_1).f0) _ _ ((rd_T90 l0 x5_1).f1) ((rd_T90 l1 x5_1).f0) _ _ ((rd_T90 l1 x5_1).f1) false _ ?side1 ?side2 ?side3 ?side4 A7.out).mono ?_
        (case side1 => exact upC (Kd.C_below HR192_1.out HB.out))
        (case side2 => exact HC192_1.out)
        (case side3 => exact upC (Kd.C_below HR193_1.out HB.out))
        (case side4 => exact HC193_1.out)
        rintro e w12 ⟨rfl, hb⟩
        refine ⟨_, rfl, ?_⟩
        have n0_ := Aside0.mk (below_step (upB HB.out) hb)
        clear HB
        have HB := n0_
        clear n0_
        (try clear hb)
        (try clear hb2)
        (try clear hk)
        (try clear hi)
        refine hK.out _ _ ⟨(cellB HB.out hw192_0), (cellB HB.out hw192_1), (cellB HB.out hw193_0), (cellB HB.out hw193_1)⟩ (fun hHeld => ?_)
        clear hK K
        refine normS (some 25) ?_
        refine pureS 9 (some 26) HT_ ?_
        refine done_ (done_of HT_.out (by kernel_rfl)) ?_
        try go_wp2
        go_ret
        exact ⟨eqE, upB HB.out⟩
      ·rw [if_neg c6] at H
       exact absurd H (by simp)
     ·rw [if_neg c5] at H
      exact absurd H (by simp)
    ·rw [if_neg c4] at H
     have c4b0 := decide_eq_false c4
     clear c4
     obtain rfl := Option.some.inj H
     go_wp2
     go_ret
     exact ⟨eqE, upB HB.out⟩
 ·rw [if_neg c3] at H
  have c3b0 : ((l0.length : Int) == (l1.length : Int)) = false := beq_eq_false_iff_ne.mpr c3
  have c3b1 : ((l0.length : Int) != (l1.length : Int)) = true := bne_iff_ne.mpr c3
  have c3b2 : (l0.length == l1.length) = false := by first | simpa using c3 | (simp at c3 ⊢; omega)
  obtain rfl := Option.some.inj H
  go_enter Tryz.func39, Tryz.ntmps39
  go_wp2
  go_ret
  exact ⟨eqE, upB HB.out⟩
end Go.Proofs.J.Print
end
