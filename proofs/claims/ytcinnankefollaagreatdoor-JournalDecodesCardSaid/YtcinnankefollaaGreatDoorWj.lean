/- On the way to the law 'JournalDecodes': what the functions that it reaches compute, step by step, and the plain law (JGo .. JPF86). Each theorem states its own conditions. -/
import Derived.Test.YtcinnankefollaaGreatDoorWi
import Derived.BigRegion
import Derived.Defers
import Derived.Laws.Pointers
import Derived.Recover
set_option linter.unusedVariables false
set_option linter.unusedSimpArgs false
section
namespace Go.Proofs.J.Print
open Go.RowKit Go.Proofs.PrintWords Go.Proofs.PrintLast Go.Proofs.PrintMore
theorem keepTo {w W w' : World} {g g3 : Nat} (h : KeepBut w W g none) (k : KeepBut W w' g3 none) (hg : w.heap.size ≤ g3) : KeepBut w w' g none :=
 ⟨Nat.le_trans h.1 k.1, fun i hi hne hn => (k.2 i (Nat.lt_of_lt_of_le hi h.1) (by omega) hn).trans (h.2 i hi hne hn)⟩
theorem IsS103.keepI {w0 W w' : World} {g g3 : Nat} {s : ByteArray} (h : IsS103 w0 W g s) (k : KeepBut W w' g3 none) (hne : g ≠ g3) : IsS103 w0 w' g s := ⟨k.blk h.1 hne (by simp), h.2⟩
theorem size_of_toList_nil {x : ByteArray} (h : x.toList = []) : x.size = 0 := by
 rw [ByteArray.toList_eq] at h
 have := congrArg List.length h
 simpa using this
theorem toList_nil_of_size {x : ByteArray} (h : x.size = 0) : x.toList = [] := by
 rw [ByteArray.toList_eq]
 exact List.eq_nil_of_length_eq_zero (by simpa using h)
theorem results_cell1 {P : Program} {fn : Func} {p : Tmp} {ty : TypeId} (h : fn.results = #[.cell p ty]) (tmps : Array Value) (w : World) (g : Nat) (t : TypeId) (cs : Array Value) (fr : Nat × Nat) (d : TypeDesc)
  (hp : tmps.getD p undef = .pointer (some ⟨g, 0, none⟩)) (hg : w.heap[g]? = some (.cells cs t fr))
  (hu : P.underlying ty = some d) (hd : (match d with | .struct _ | .array _ _ => true | _ => false) = true) (hi : (P.info? ty).map (·.size) = some cs.size) :
  (results fn tmps).run P w = .ok (.agg cs) w := by
 have hp' : tmps[p]?.getD undef = .pointer (some ⟨g, 0, none⟩) := by simpa using hp
 simp [results, h, hp', asAddr, run_loadVar_row w g t ty cs fr d hg hu hd hi]
def EndsC (w0 w : World) (g : Nat) (r : Option ((Int × List S90 × List S90) × ByteArray)) (e : Ending) (w' : World) : Prop :=
 (match r with | some ((n, l1, l2), s') => ∃ v1 v2 : Value, e = .returned (.agg #[.int .i64 n, v1, v2]) ∧ Kd.S k90 90 w' w.heap.size (fun k_ => some k_ ≠ v2.ownBlock) v1 l1 ∧ Kd.S k90 90 w' w.heap.size (fun k_ => some k_ ≠ v1.ownBlock) v2 l2 ∧ IsS103 w0 w' g s' | none => e = .panicked logChain ∧ ∃ s', IsS103 w0 w' g s') ∧ Below w0.heap.size w0 w' ∧ KeepBut w w' g none
def commitP.f (k : Nat) (s : ByteArray) : Option (Option ((Int × List S90 × List S90) × ByteArray)) :=
 (body.f k s).bind fun rb => bindP rb fun p => bindP (journal_reader_take.f p.1 1) fun p1 => if p1.1.toList = ([67] : List UInt8) then (bindP (journal_reader_take.f p1.2 8) fun p2 => (journal_get_uint64.f k p2.1 8).bind fun n => (factsP.f k p2.2).bind fun r1 => bindP r1 fun q1 => (factsP.f k q1.2).bind fun r2 => bindP r2 fun q2 => if wrap64 n < 1 then some none else (if q2.2.size = 0 then ((journal_apart.f k q1.1 q2.1).bind fun okv => if okv = true then some (some ((wrap64 n, q1.1, q2.1), p.2)) else some none) else some none)) else some none
set_option maxHeartbeats 16000000 in
set_option maxRecDepth 100000 in
theorem commitP.calls (k : Nat) (g : Nat) (s : ByteArray) (r : Option ((Int × List S90 × List S90) × ByteArray)) (w0 w : World) (hI : IsS103 w0 w g s) (hB : Below w0.heap.size w0 w) (h : commitP.f k s = some r) :
  Calls Tryz.prog 38 #[.pointer (some ⟨g, 0, none⟩)] w (EndsC w0 w g r) := by
 have hu128 := Tryz.underlying128
 have hu24 := Tryz.underlying24
 have hu103 := Tryz.underlying103
 have HI0 := Aside0.mk hI
 have HK := Aside0.mk (KeepBut.refl w g none)
 clear hI
 have HB := Aside0.mk hB
 clear hB
 unfold EndsC
 have H := h
 clear h
 unfold commitP.f at H
 replace H := Option.bind_eq_some_iff.mp H
 obtain ⟨rb, A10, H⟩ := H
 have A1 := Aside0.mk A10
 clear A10
 rcases rb with _ | p
 focus
  rw [bindP_none] at H
  simp only [Option.some.injEq] at H
  subst H
 rotate_right
 focus
  obtain ⟨b, s1⟩ := p
  rw [bindP_some] at H
  rcases A20 : journal_reader_take.f b 1 with _ | p_
  focus
   rw [A20, bindP_none] at H
   simp only [Option.some.injEq] at H
   subst H
   have A2 := Aside0.mk (take_none A20 (by omega))
   clear A20
  rotate_right
  focus
   obtain ⟨t1, x1⟩ := p_
   rw [A20, bindP_some] at H
   have A2 := Aside0.mk A20
   clear A20
   replace H : (if t1.toList = ([67] : List UInt8) then _ else _) = some r := H
   by_cases c21 : t1.toList = ([67] : List UInt8)
   case' neg =>
    rw [if_neg c21] at H
    have c21b0 : (t1.toList == ([67] : List UInt8)) = false := beq_eq_false_iff_ne.mpr c21
    have c21b1 : (t1.toList != ([67] : List UInt8)) = true := bne_iff_ne.mpr c21
    clear c21
    simp only [Option.some.injEq] at H
    subst H
   rotate_right
   focus
    rw [if_pos c21] at H
    have c21b0 : (t1.toList == ([67] : List UInt8)) = true := beq_iff_eq.mpr c21
    have c21b1 : (t1.toList != ([67] : List UInt8)) = false := bne_eq_false_iff_eq.mpr c21
    clear c21
    rcases A30 : journal_reader_take.f x1 8 with _ | p_
    focus
     rw [A30, bindP_none] at H
     simp only [Option.some.injEq] at H
     subst H
     have A3 := Aside0.mk (take_none A30 (by omega))
     clear A30
    rotate_right
    focus
     obtain ⟨t2, x2⟩ := p_
     rw [A30, bindP_some] at H
     have A3 := Aside0.mk A30
     clear A30
     replace H : ((journal_get_uint64.f k t2 8).bind _) = some r := H
     replace H := Option.bind_eq_some_iff.mp H
     obtain ⟨n, A40, H⟩ := H
     have A4 := Aside0.mk A40
     clear A40
     replace H := Option.bind_eq_some_iff.mp H
     obtain ⟨r1, A50, H⟩ := H
     have A5 := Aside0.mk A50
     clear A50
     rcases r1 with _ | q1
     focus
      rw [bindP_none] at H
      simp only [Option.some.injEq] at H
      subst H
     rotate_right
     focus
      obtain ⟨l1, x3⟩ := q1
      rw [bindP_some] at H
      replace H : ((factsP.f k x3).bind _) = some r := H
      replace H := Option.bind_eq_some_iff.mp H
      obtain ⟨r2, A60, H⟩ := H
      have A6 := Aside0.mk A60
      clear A60
      rcases r2 with _ | q2
      focus
       rw [bindP_none] at H
       simp only [Option.some.injEq] at H
       subst H
      rotate_right
      focus
       obtain ⟨l2, x4⟩ := q2
       rw [bindP_some] at H
       replace H : (if wrap64 n < 1 then some none else _) = some r := H
       by_cases c5 : wrap64 n < 1
       case' pos =>
        rw [if_pos c5] at H
        have c5b := decide_eq_true c5
        clear c5
        simp only [Option.some.injEq] at H
        subst H
       rotate_right
       focus
        rw [if_neg c5] at H
        have c5b := decide_eq_false c5
        clear c5
        replace H : (if x4.size = 0 then _ else some none) = some r := H
        by_cases c6 : x4.size = 0
        case' neg =>
         rw [if_neg c6] at H
         have c6e : ¬ x4 = ⟨#[]⟩ := fun he => c6 (by rw [he]; rfl)
         have c6b : (x4.toList != ([] : List UInt8)) = true := by first | exact bne_iff_ne.mpr (fun he => c6 (size_of_toList_nil he))
         have c6i : x4.toList.isEmpty = false := by cases hE : x4.toList with
          | nil => exact absurd (size_of_toList_nil hE) c6
          | cons _ _ => rfl
         clear c6 c6e
         simp only [Option.some.injEq] at H
         subst H
        rotate_right
        focus
         rw [if_pos c6] at H
         have c6b : (x4.toList != ([] : List UInt8)) = false := by rw [toList_nil_of_size c6]; rfl
         have c6i : x4.toList.isEmpty = true := by rw [toList_nil_of_size c6]; rfl
         clear c6
         replace H := Option.bind_eq_some_iff.mp H
         obtain ⟨okv, A70, H⟩ := H
         have A7 := Aside0.mk A70
         clear A70
         replace H : (if okv = true then (some (some ((wrap64 n, l1, l2), s1))) else some none) = some r := H
         rcases okv with _ | _
         focus
          replace H : some none = some r := H
          simp only [Option.some.injEq] at H
          subst H
         rotate_right
         focus
          replace H : some (some ((wrap64 n, l1, l2), s1)) = some r := H
          simp only [Option.some.injEq] at H
          subst H
 all_goals (go_enter Tryz.func38, Tryz.ntmps38; go_wp2_with (first | ((with_reducible refine gate_dst (N := 2) rfl ?_); refine boxS 2 #[.int .i64 0, .slice none 0 0, .slice none 0 0] 24 ?_; intro g2 hg wA hbox hb; have n0_ := Aside0.mk (IsS103.below (show IsS103 w0 _ g s from (upI HI0.out)) hb); have n1_ := Aside0.mk ((by rw [hg]; exact Nat.ne_of_lt (IsS103.lt (show IsS103 w0 _ g s from (upI HI0.out))) : g ≠ g2)); have n2_ := Aside0.mk ((by rw [hg]; exact keep_size (w := w) (g := g) (row := none) (upK HK.out) : w.heap.size ≤ g2)); have n3_ := Aside0.mk ((by rw [hg]; exact below_size (upB HB.out) : w0.heap.size ≤ g2)); have n4_ := Aside0.mk (KeepBut.trans (w := w) (upK HK.out) (KeepBut.of_below hb g none) (.inl rfl)); have n5_ := Aside0.mk (below_step (w := w0) (upB HB.out) hb); have n6_ := Aside0.mk (hbox); (try clear HI0); (try clear N2); (try clear L2); (try clear LL2); (try clear HK); (try clear HB); (try clear B2); have HI0 := n0_; have N2 := n1_; have L2 := n2_; have LL2 := n3_; have HK := n4_; have HB := n5_; have B2 := n6_; clear n0_ n1_ n2_ n3_ n4_ n5_ n6_; clear hb hbox hg) | ((with_reducible refine gate_callee (f := 96) rfl ?_); refine goesS (some 6) Tryz.func96 #[.pointer (some ⟨g, 0, none⟩)] ?_; (with_reducible refine (body.calls k g s _ w0 _ ?side1 ?side2 A1.out).mono ?_); (case side1 => exact (upI HI0.out)); (case side2 => exact (upB HB.out)); rintro e wB ⟨⟨rfl, hi⟩, hb, hk⟩; refine ⟨_, rfl, ?_⟩; have n0_ := Aside0.mk (KeepBut.trans (w := w) (upK HK.out) hk (.inl rfl)); have n1_ := Aside0.mk (KeepBut.blk hk (g' := g2) (o := .cells #[.int .i64 0, .slice none 0 0, .slice none 0 0] 24 (0, 0)) (by repeat (with_reducible first | exact B2.out | refine blk_drewN ?_ _ | refine blk_drew ?_ | refine blk_far ?_ N23.out _ | refine blk_far ?_ N24.out _)) (Ne.symm N2.out) (by simp)); have n2_ := Aside0.mk (hi); have n3_ := Aside0.mk (hb); (try clear HK); (try clear B2); (try clear HI0); (try clear HB); have HK := n0_; have B2 := n1_; have HI0 := n2_; have HB := n3_; clear n0_ n1_ n2_ n3_; clear hi hb hk) | ((with_reducible refine gate_callee (f := 96) rfl ?_); refine goesP (some 6) Tryz.func96 #[.pointer (some ⟨g, 0, none⟩)] ?_; (with_reducible refine (body.calls k g s _ w0 _ ?side1 ?side2 A1.out).mono ?_); (case side1 => exact (upI HI0.out)); (case side2 => exact (upB HB.out)); rintro e wB ⟨⟨rfl, s', hi⟩, hb, hk⟩; refine ⟨_, rfl, ?_⟩; have n0_ := Aside0.mk (KeepBut.trans (w := w) (upK HK.out) hk (.inl rfl)); have n1_ := Aside0.mk (hi); have n2_ := Aside0.mk (hb); (try clear HK); (try clear HI0); (try clear HB); have HK := n0_; have HI0 := n1_; have HB := n2_; clear n0_ n1_ n2_; clear hi hb hk) | ((with_reducible refine gate_dst (N := 3) rfl ?_); refine boxS 3 #[.string (⟨#[]⟩ : ByteArray)] 103 ?_; intro g3 hg wC hbox hb; have n0_ := Aside0.mk ((by rw [hg]; exact Nat.ne_of_lt (IsS103.lt (show IsS103 w0 _ g s1 from (upI HI0.out))) : g ≠ g3)); have n1_ := Aside0.mk ((by rw [hg]; exact Nat.ne_of_lt (blk_lt (g := g2) (o := .cells #[.int .i64 0, .slice none 0 0, .slice none 0 0] 24 (0, 0)) (by repeat (with_reducible first | exact B2.out | refine blk_drewN ?_ _ | refine blk_drew ?_ | refine blk_far ?_ N23.out _ | refine blk_far ?_ N24.out _))) : g2 ≠ g3)); have n2_ := Aside0.mk ((by rw [hg]; exact keep_size (w := w) (g := g) (row := none) (upK HK.out) : w.heap.size ≤ g3)); have n3_ := Aside0.mk ((by rw [hg]; exact below_size (upB HB.out) : w0.heap.size ≤ g3)); have n4_ := Aside0.mk (IsS103.below (show IsS103 w0 _ g s1 from (upI HI0.out)) hb); have n5_ := Aside0.mk (blk_below (g := g2) (o := .cells #[.int .i64 0, .slice none 0 0, .slice none 0 0] 24 (0, 0)) (by repeat (with_reducible first | exact B2.out | refine blk_drewN ?_ _ | refine blk_drew ?_ | refine blk_far ?_ N23.out _ | refine blk_far ?_ N24.out _)) hb); have n6_ := Aside0.mk (KeepBut.trans (w := w) (upK HK.out) (KeepBut.of_below hb g none) (.inl rfl)); have n7_ := Aside0.mk (below_step (w := w0) (upB HB.out) hb); (try clear N3); (try clear N23); (try clear L3); (try clear LL3); (try clear HI0); (try clear B2); (try clear HK); (try clear HB); have N3 := n0_; have N23 := n1_; have L3 := n2_; have LL3 := n3_; have HI0 := n4_; have B2 := n5_; have HK := n6_; have HB := n7_; clear n0_ n1_ n2_ n3_ n4_ n5_ n6_ n7_; have HJ := Aside0.mk (show IsS103 w0 wC g3 (⟨#[]⟩ : ByteArray) from ⟨hbox, LL3.out⟩); clear hb hbox hg; have hcC := cellS103_0 HJ.out.1; have hfC := blk_frozen HJ.out.1 0) | ((with_reducible refine gate_callee (f := 93) rfl ?_); refine goesS (some 12) Tryz.func93 #[.pointer (some ⟨g3, 0, none⟩), .int .i64 8] ?_; (with_reducible refine (journal_reader_take.calls g3 x1 8 t2 x2 w0 _ ?side1 ?side2 A3.out).mono ?_); (case side1 => exact (upI HJ.out)); (case side2 => exact (upB HB.out)); rintro e wE ⟨rfl, hi, hb, hk⟩; refine ⟨_, rfl, ?_⟩; have n0_ := Aside0.mk (IsS103.keepI (show IsS103 w0 _ g s1 from (upI HI0.out)) hk N3.out); have n1_ := Aside0.mk (KeepBut.blk hk (g' := g2) (o := .cells #[.int .i64 0, .slice none 0 0, .slice none 0 0] 24 (0, 0)) (by repeat (with_reducible first | exact B2.out | refine blk_drewN ?_ _ | refine blk_drew ?_ | refine blk_far ?_ N23.out _ | refine blk_far ?_ N24.out _)) N23.out (by simp)); have n2_ := Aside0.mk (keepTo (w := w) (g := g) (upK HK.out) hk L3.out); have n3_ := Aside0.mk (hb); have n4_ := Aside0.mk (hi); (try clear HI0); (try clear B2); (try clear HK); (try clear HB); (try clear HJ); have HI0 := n0_; have B2 := n1_; have HK := n2_; have HB := n3_; have HJ := n4_; clear n0_ n1_ n2_ n3_ n4_; clear hi hb hk) | ((with_reducible refine gate_callee (f := 93) rfl ?_); refine goesS (some 8) Tryz.func93 #[.pointer (some ⟨g3, 0, none⟩), .int .i64 1] ?_; (with_reducible refine (journal_reader_take.calls g3 b 1 t1 x1 w0 _ ?side1 ?side2 A2.out).mono ?_); (case side1 => exact (upI HJ.out)); (case side2 => exact (upB HB.out)); rintro e wD ⟨rfl, hi, hb, hk⟩; refine ⟨_, rfl, ?_⟩; have n0_ := Aside0.mk (IsS103.keepI (show IsS103 w0 _ g s1 from (upI HI0.out)) hk N3.out); have n1_ := Aside0.mk (KeepBut.blk hk (g' := g2) (o := .cells #[.int .i64 0, .slice none 0 0, .slice none 0 0] 24 (0, 0)) (by repeat (with_reducible first | exact B2.out | refine blk_drewN ?_ _ | refine blk_drew ?_ | refine blk_far ?_ N23.out _ | refine blk_far ?_ N24.out _)) N23.out (by simp)); have n2_ := Aside0.mk (keepTo (w := w) (g := g) (upK HK.out) hk L3.out); have n3_ := Aside0.mk (hb); have n4_ := Aside0.mk (hi); (try clear HI0); (try clear B2); (try clear HK); (try clear HB); (try clear HJ); have HI0 := n0_; have B2 := n1_; have HK := n2_; have HB := n3_; have HJ := n4_; clear n0_ n1_ n2_ n3_ n4_; clear hi hb hk) | ((with_reducible refine gate_callee (f := 93) rfl ?_); refine goesP (some 12) Tryz.func93 #[.pointer (some ⟨g3, 0, none⟩), .int .i64 8] ?_; (with_reducible refine (take_panics g3 x1 8 w0 _ ?side1 A3.out).mono ?_); (case side1 => exact (upI HJ.out)); rintro e w_ ⟨rfl, hw⟩; refine ⟨_, rfl, ?_⟩; subst hw) | ((with_reducible refine gate_callee (f := 93) rfl ?_); refine goesP (some 8) Tryz.func93 #[.pointer (some ⟨g3, 0, none⟩), .int .i64 1] ?_; (with_reducible refine (take_panics g3 b 1 w0 _ ?side1 A2.out).mono ?_); (case side1 => exact (upI HJ.out)); rintro e w_ ⟨rfl, hw⟩; refine ⟨_, rfl, ?_⟩; subst hw) | ((with_reducible refine gate_callee (f := 97) rfl ?_); refine goesS (some 13) Tryz.func97 #[.string t2, .int .i64 8] ?_; (with_reducible refine (journal_get_uint64.calls k t2 8 n _ A4.out).mono ?_); rintro e w' ⟨rfl, ⟨nd, rfl⟩⟩; refine ⟨_, rfl, ?_⟩) | ((with_reducible refine gate_dst (N := 4) rfl ?_); refine boxS 4 #[.int .i64 0, .slice none 0 0, .slice none 0 0] 24 ?_; intro g4 hg wF hbox hb; have n0_ := Aside0.mk ((by rw [hg]; exact Nat.ne_of_lt (IsS103.lt (show IsS103 w0 _ g s1 from (upI HI0.out))) : g ≠ g4)); have n1_ := Aside0.mk ((by rw [hg]; exact Nat.ne_of_lt (blk_lt (g := g2) (o := .cells #[.int .i64 0, .slice none 0 0, .slice none 0 0] 24 (0, 0)) (by repeat (with_reducible first | exact B2.out | refine blk_drewN ?_ _ | refine blk_drew ?_ | refine blk_far ?_ N23.out _ | refine blk_far ?_ N24.out _))) : g2 ≠ g4)); have n2_ := Aside0.mk ((by rw [hg]; exact Nat.ne_of_lt (IsS103.lt (show IsS103 w0 _ g3 x2 from (upI HJ.out))) : g3 ≠ g4)); have n3_ := Aside0.mk ((by rw [hg]; exact keep_size (w := w) (g := g) (row := none) (upK HK.out) : w.heap.size ≤ g4)); have n4_ := Aside0.mk ((by rw [hg]; exact below_size (upB HB.out) : w0.heap.size ≤ g4)); have n5_ := Aside0.mk (IsS103.below (show IsS103 w0 _ g s1 from (upI HI0.out)) hb); have n6_ := Aside0.mk (IsS103.below (show IsS103 w0 _ g3 x2 from (upI HJ.out)) hb); have n7_ := Aside0.mk (blk_below (g := g2) (o := .cells #[.int .i64 0, .slice none 0 0, .slice none 0 0] 24 (0, 0)) (by repeat (with_reducible first | exact B2.out | refine blk_drewN ?_ _ | refine blk_drew ?_ | refine blk_far ?_ N23.out _ | refine blk_far ?_ N24.out _)) hb); have n8_ := Aside0.mk (KeepBut.trans (w := w) (upK HK.out) (KeepBut.of_below hb g none) (.inl rfl)); have n9_ := Aside0.mk (below_step (w := w0) (upB HB.out) hb); have n10_ := Aside0.mk (hbox); (try clear N4); (try clear N24); (try clear N34); (try clear L4); (try clear LL4); (try clear HI0); (try clear HJ); (try clear B2); (try clear HK); (try clear HB); (try clear B4); have N4 := n0_; have N24 := n1_; have N34 := n2_; have L4 := n3_; have LL4 := n4_; have HI0 := n5_; have HJ := n6_; have B2 := n7_; have HK := n8_; have HB := n9_; have B4 := n10_; clear n0_ n1_ n2_ n3_ n4_ n5_ n6_ n7_ n8_ n9_ n10_; clear hb hbox hg; have hcF_0 : wF.cell? ⟨g4, 0, none⟩ = some (.int .i64 0) := (blk_cell B4.out 0).trans rfl; have hfF_0 := blk_frozen B4.out 0; have hcF_1 : wF.cell? ⟨g4, 1, none⟩ = some (.slice none 0 0) := (blk_cell B4.out 1).trans rfl; have hfF_1 := blk_frozen B4.out 1; have hcF_2 : wF.cell? ⟨g4, 2, none⟩ = some (.slice none 0 0) := (blk_cell B4.out 2).trans rfl; have hfF_2 := blk_frozen B4.out 2) | ((with_reducible refine gate_callee (f := 98) rfl ?_); refine goesS (some 18) Tryz.func98 #[.pointer (some ⟨g3, 0, none⟩)] ?_; (with_reducible refine (factsP.calls k g3 x3 _ w0 _ ?side1 ?side2 A6.out).mono ?_); (case side1 => exact (upI HJ.out)); (case side2 => exact (upB HB.out)); rintro e wH ⟨⟨v2, rfl, hs, hi⟩, hb, hk⟩; obtain ⟨A2_, c2, e2⟩ := Kd.S_slice hs; subst e2; refine ⟨_, rfl, ?_⟩; have n0_ := Aside0.mk (Kd.S_mono (Kd.S_lower (Kd.S_new' hs (Kd.S_lt (Kd.S_set S1.out B4.out (by decide) 1 (.slice A1_ l1.length c1)))) (keep_size (w := w) (g := g) (row := none) (upK HK.out))) (fun _ h_ => h_.2)); have n1_ := Aside0.mk (Kd.S_mono (Kd.S_told (v := .slice A2_ l2.length c2) (Kd.S_oldK (IsS103.apartS (show IsS103 w0 _ g3 x3 from (upI HJ.out)) (Kd.S_set S1.out B4.out (by decide) 1 (.slice A1_ l1.length c1)) (by decide)) hk) (Kd.S_base hs)) (fun _ h_ => h_.1.2)); have n2_ := Aside0.mk (KeepBut.blk hk (g' := g4) (o := .cells #[.int .i64 (wrap64 n), .slice A1_ l1.length c1, .slice none 0 0] 24 (0, 0)) (by refine upO ?_; refine blk_put (cs := #[.int .i64 (wrap64 n), .slice none 0 0, .slice none 0 0]) ?_ 1 _ rfl; exact upO B4.out) (Ne.symm N34.out) (by simp)); have n3_ := Aside0.mk (IsS103.keepI (show IsS103 w0 _ g s1 from (upI HI0.out)) hk N3.out); have n4_ := Aside0.mk (KeepBut.blk hk (g' := g2) (o := .cells #[.int .i64 0, .slice none 0 0, .slice none 0 0] 24 (0, 0)) (by repeat (with_reducible first | exact B2.out | refine blk_drewN ?_ _ | refine blk_drew ?_ | refine blk_far ?_ N23.out _ | refine blk_far ?_ N24.out _)) N23.out (by simp)); have n5_ := Aside0.mk (keepTo (w := w) (g := g) (upK HK.out) hk L3.out); have n6_ := Aside0.mk (hb); have n7_ := Aside0.mk (hi); (try clear S2); (try clear S1); (try clear B4); (try clear HI0); (try clear B2); (try clear HK); (try clear HB); (try clear HJ); have S2 := n0_; have S1 := n1_; have B4 := n2_; have HI0 := n3_; have B2 := n4_; have HK := n5_; have HB := n6_; have HJ := n7_; clear n0_ n1_ n2_ n3_ n4_ n5_ n6_ n7_; clear hi hb hk hs; have hcH_0 : wH.cell? ⟨g4, 0, none⟩ = some (.int .i64 (wrap64 n)) := (blk_cell B4.out 0).trans rfl; have hfH_0 := blk_frozen B4.out 0; have hcH_1 : wH.cell? ⟨g4, 1, none⟩ = some (.slice A1_ l1.length c1) := (blk_cell B4.out 1).trans rfl; have hfH_1 := blk_frozen B4.out 1; have hcH_2 : wH.cell? ⟨g4, 2, none⟩ = some (.slice none 0 0) := (blk_cell B4.out 2).trans rfl; have hfH_2 := blk_frozen B4.out 2; have hcH := cellS103_0 HJ.out.1) | ((with_reducible refine gate_callee (f := 98) rfl ?_); refine goesS (some 16) Tryz.func98 #[.pointer (some ⟨g3, 0, none⟩)] ?_; (with_reducible refine (factsP.calls k g3 x2 _ w0 _ ?side1 ?side2 A5.out).mono ?_); (case side1 => exact (upI HJ.out)); (case side2 => exact (upB HB.out)); rintro e wG ⟨⟨v1, rfl, hs, hi⟩, hb, hk⟩; obtain ⟨A1_, c1, e1⟩ := Kd.S_slice hs; subst e1; refine ⟨_, rfl, ?_⟩; have n0_ := Aside0.mk (Kd.S_lower hs (keep_size (w := w) (g := g) (row := none) (upK HK.out))); have n1_ := Aside0.mk (KeepBut.blk hk (g' := g4) (o := .cells #[.int .i64 (wrap64 n), .slice none 0 0, .slice none 0 0] 24 (0, 0)) (by refine upO ?_; refine blk_put (cs := #[.int .i64 (wrap64 n), .slice none 0 0, .slice none 0 0]) ?_ 2 _ rfl; refine upO ?_; refine blk_put (cs := #[.int .i64 (wrap64 n), .slice none 0 0, .slice none 0 0]) ?_ 1 _ rfl; refine upO ?_; refine blk_put (cs := #[.int .i64 0, .slice none 0 0, .slice none 0 0]) ?_ 0 _ rfl; exact upO B4.out) (Ne.symm N34.out) (by simp)); have n2_ := Aside0.mk (IsS103.keepI (show IsS103 w0 _ g s1 from (upI HI0.out)) hk N3.out); have n3_ := Aside0.mk (KeepBut.blk hk (g' := g2) (o := .cells #[.int .i64 0, .slice none 0 0, .slice none 0 0] 24 (0, 0)) (by repeat (with_reducible first | exact B2.out | refine blk_drewN ?_ _ | refine blk_drew ?_ | refine blk_far ?_ N23.out _ | refine blk_far ?_ N24.out _)) N23.out (by simp)); have n4_ := Aside0.mk (keepTo (w := w) (g := g) (upK HK.out) hk L3.out); have n5_ := Aside0.mk (hb); have n6_ := Aside0.mk (hi); (try clear S1); (try clear B4); (try clear HI0); (try clear B2); (try clear HK); (try clear HB); (try clear HJ); have S1 := n0_; have B4 := n1_; have HI0 := n2_; have B2 := n3_; have HK := n4_; have HB := n5_; have HJ := n6_; clear n0_ n1_ n2_ n3_ n4_ n5_ n6_; clear hi hb hk hs; have hcG_0 : wG.cell? ⟨g4, 0, none⟩ = some (.int .i64 (wrap64 n)) := (blk_cell B4.out 0).trans rfl; have hfG_0 := blk_frozen B4.out 0; have hcG_1 : wG.cell? ⟨g4, 1, none⟩ = some (.slice none 0 0) := (blk_cell B4.out 1).trans rfl; have hfG_1 := blk_frozen B4.out 1; have hcG_2 : wG.cell? ⟨g4, 2, none⟩ = some (.slice none 0 0) := (blk_cell B4.out 2).trans rfl; have hfG_2 := blk_frozen B4.out 2) | ((with_reducible refine gate_callee (f := 98) rfl ?_); refine goesP (some 16) Tryz.func98 #[.pointer (some ⟨g3, 0, none⟩)] ?_; (with_reducible refine (factsP.calls k g3 x2 _ w0 _ ?side1 ?side2 A5.out).mono ?_); (case side1 => exact (upI HJ.out)); (case side2 => exact (upB HB.out)); rintro e wP ⟨⟨rfl, s', hi⟩, hb, hk⟩; refine ⟨_, rfl, ?_⟩; have n0_ := Aside0.mk (IsS103.keepI (show IsS103 w0 _ g s1 from (upI HI0.out)) hk N3.out); have n1_ := Aside0.mk (keepTo (w := w) (g := g) (upK HK.out) hk L3.out); have n2_ := Aside0.mk (hb); (try clear HI0); (try clear HK); (try clear HB); have HI0 := n0_; have HK := n1_; have HB := n2_; clear n0_ n1_ n2_; clear hi hb hk) | ((with_reducible refine gate_callee (f := 98) rfl ?_); refine goesP (some 18) Tryz.func98 #[.pointer (some ⟨g3, 0, none⟩)] ?_; (with_reducible refine (factsP.calls k g3 x3 _ w0 _ ?side1 ?side2 A6.out).mono ?_); (case side1 => exact (upI HJ.out)); (case side2 => exact (upB HB.out)); rintro e wP ⟨⟨rfl, s', hi⟩, hb, hk⟩; refine ⟨_, rfl, ?_⟩; have n0_ := Aside0.mk (IsS103.keepI (show IsS103 w0 _ g s1 from (upI HI0.out)) hk N3.out); have n1_ := Aside0.mk (keepTo (w := w) (g := g) (upK HK.out) hk L3.out); have n2_ := Aside0.mk (hb); (try clear HI0); (try clear HK); (try clear HB); have HI0 := n0_; have HK := n1_; have HB := n2_; clear n0_ n1_ n2_; clear hi hb hk) | ((with_reducible refine gate_callee (f := 24) rfl ?_); (try (refine gate_guard (by rfl) ?_; dsimp only)); refine goesS (some 33) Tryz.func24 #[.slice A1_ l1.length c1, .slice A2_ l2.length c2] ?_; (with_reducible refine (journal_apart.calls k _ _ l1 _ _ l2 _ _ ?side1 ?side2 ?side3 ?side4 A7.out).mono ?_); (case side1 => exact (Kd.S_reads' (Kd.S_set S1.out B4.out (by decide) 2 (.slice A2_ l2.length c2))).2.2); (case side2 => exact (Kd.S_reads' S1.out).2.1); (case side3 => exact (Kd.S_reads' (Kd.S_set S2.out B4.out (by decide) 2 (.slice A2_ l2.length c2))).2.2); (case side4 => exact (Kd.S_reads' S2.out).2.1); rintro e wI ⟨rfl, hb⟩; refine ⟨_, rfl, ?_⟩; have n0_ := Aside0.mk (Kd.S_below (Kd.S_set S1.out B4.out (by decide) 2 (.slice A2_ l2.length c2)) hb); have n1_ := Aside0.mk (Kd.S_below (Kd.S_set S2.out B4.out (by decide) 2 (.slice A2_ l2.length c2)) hb); have n2_ := Aside0.mk (blk_below (g := g4) (o := .cells #[.int .i64 (wrap64 n), .slice A1_ l1.length c1, .slice A2_ l2.length c2] 24 (0, 0)) (by refine upO ?_; refine blk_put (cs := #[.int .i64 (wrap64 n), .slice A1_ l1.length c1, .slice none 0 0]) ?_ 2 _ rfl; exact upO B4.out) hb); have n3_ := Aside0.mk (IsS103.below (show IsS103 w0 _ g s1 from (upI HI0.out)) hb); have n4_ := Aside0.mk (blk_below (g := g2) (o := .cells #[.int .i64 0, .slice none 0 0, .slice none 0 0] 24 (0, 0)) (by repeat (with_reducible first | exact B2.out | refine blk_drewN ?_ _ | refine blk_drew ?_ | refine blk_far ?_ N23.out _ | refine blk_far ?_ N24.out _)) hb); have n5_ := Aside0.mk (KeepBut.trans (w := w) (upK HK.out) (KeepBut.of_below hb g none) (.inl rfl)); have n6_ := Aside0.mk (below_step (w := w0) (upB HB.out) hb); (try clear S1); (try clear S2); (try clear B4); (try clear HI0); (try clear B2); (try clear HK); (try clear HB); have S1 := n0_; have S2 := n1_; have B4 := n2_; have HI0 := n3_; have B2 := n4_; have HK := n5_; have HB := n6_; clear n0_ n1_ n2_ n3_ n4_ n5_ n6_; clear hb; have hcI_0 : wI.cell? ⟨g4, 0, none⟩ = some (.int .i64 (wrap64 n)) := (blk_cell B4.out 0).trans rfl; have hfI_0 := blk_frozen B4.out 0; have hcI_1 : wI.cell? ⟨g4, 1, none⟩ = some (.slice A1_ l1.length c1) := (blk_cell B4.out 1).trans rfl; have hfI_1 := blk_frozen B4.out 1; have hcI_2 : wI.cell? ⟨g4, 2, none⟩ = some (.slice A2_ l2.length c2) := (blk_cell B4.out 2).trans rfl; have hfI_2 := blk_frozen B4.out 2; have hcJ_0 : wI.cell? ⟨g2, 0, none⟩ = some (.int .i64 0) := (blk_cell B2.out 0).trans rfl; have hfJ_0 := blk_frozen B2.out 0; have hcJ_1 : wI.cell? ⟨g2, 1, none⟩ = some (.slice none 0 0) := (blk_cell B2.out 1).trans rfl; have hfJ_1 := blk_frozen B2.out 1; have hcJ_2 : wI.cell? ⟨g2, 2, none⟩ = some (.slice none 0 0) := (blk_cell B2.out 2).trans rfl; have hfJ_2 := blk_frozen B2.out 2)); first | (exact ⟨rfl, ⟨rfl, _, (upI HI0.out)⟩, (upB HB.out), (upK HK.out)⟩) | (exact ⟨rfl, ⟨rfl, s1, (upI HI0.out)⟩, (upB HB.out), (upK HK.out)⟩) | (refine bodyPost_ret (results_cell1 rfl _ _ g2 24 #[.int .i64 (wrap64 n), .slice A1_ l1.length c1, .slice A2_ l2.length c2] (0, 0) _ rfl (by refine upO ?_; refine blk_put (cs := #[.int .i64 (wrap64 n), .slice A1_ l1.length c1, .slice none 0 0]) ?_ 2 _ rfl; refine upO ?_; refine blk_put (cs := #[.int .i64 (wrap64 n), .slice none 0 0, .slice none 0 0]) ?_ 1 _ rfl; refine upO ?_; refine blk_put (cs := #[.int .i64 0, .slice none 0 0, .slice none 0 0]) ?_ 0 _ rfl; exact upO B2.out) Tryz.underlying24 rfl (by kernel_rfl)) rfl ?_; exact ⟨⟨_, _, by first | rfl | simp, (Kd.S_mono (Kd.S_far (p := ⟨g2, 2, none⟩) (Kd.S_far (p := ⟨g2, 1, none⟩) (Kd.S_far (p := ⟨g2, 0, none⟩) (Kd.S_types S1.out B2.out (by decide)) (fun _ hk => hk.2) _) (fun _ hk => hk.2) _) (fun _ hk => hk.2) _) (fun _ hk => hk.1)), (Kd.S_mono (Kd.S_far (p := ⟨g2, 2, none⟩) (Kd.S_far (p := ⟨g2, 1, none⟩) (Kd.S_far (p := ⟨g2, 0, none⟩) (Kd.S_types S2.out B2.out (by decide)) (fun _ hk => hk.2) _) (fun _ hk => hk.2) _) (fun _ hk => hk.2) _) (fun _ hk => hk.1)), (upI HI0.out)⟩, (upB HB.out), (upK HK.out)⟩))
end Go.Proofs.J.Print
end
section
namespace Go.Proofs.J.Print
open Go.RowKit Go.Proofs.PrintWords Go.Proofs.PrintLast Go.Proofs.PrintMore
set_option maxHeartbeats 8000000 in
set_option maxRecDepth 100000 in
theorem settled_nil (w : World) : Calls Tryz.prog 37 #[.nilIface] w fun e w' => e = .returned (.int .i64 0) ∧ w' = w := by
  have hu128 := Tryz.underlying128
  go_enter Tryz.func37, Tryz.ntmps37
  go_wp2
  go_ret
  exact ⟨rfl, rfl⟩
set_option maxHeartbeats 8000000 in
set_option maxRecDepth 100000 in
theorem settled_log (w : World) : Calls Tryz.prog 37 #[.iface 128 (.agg #[.int .i64 290])] w fun e w' => e = .returned (.int .i64 290) ∧ Below w.heap.size w w' := by
  have hu128 := Tryz.underlying128
  have hta : ∀ w, (Instr.typeAssert (Value.iface 128 (.agg #[.int .i64 290])) 20 128 true).run Tryz.prog w = .ok (.tuple #[.agg #[.int .i64 290], .bool true]) w := fun _ => by kernel_rfl
  go_enter Tryz.func37, Tryz.ntmps37
  go_wp2
  go_ret
  exact ⟨rfl, by first | exact below_alloc (Below.refl _ _) _ | exact below_set (below_alloc (Below.refl _ _) _) (Nat.le_refl _)⟩
end Go.Proofs.J.Print
end
section
namespace Go.Proofs.J.Print
open Go.RowKit Go.Proofs.PrintWords Go.Proofs.PrintLast Go.Proofs.PrintMore
set_option maxHeartbeats 8000000 in
set_option maxRecDepth 100000 in
theorem closure_idle (p1 p2 p3 : Addr) (w : World) :
    CallsD Tryz.prog 36 #[.pointer (some p1), .pointer (some p2), .pointer (some p3)] .returning w fun e u' w' => e = .returned (.tuple #[]) ∧ u' = .returning ∧ w' = w := by
  refine callsD_of_wpS Tryz.func36 rfl fun c₀ cs hu => ?_
  apply wpS_seq
  apply wpS_region
  simp [wpOpsS, go_sem, recoverD, hu, Tryz.ntmps36, Exit.thenS]
  refine (settled_nil w).mono ?_
  rintro e w' ⟨rfl, rfl⟩
  apply wpS_seq
  apply wpS_region
  simp [wpOpsS, go_sem, Exit.thenS]
  refine wpS_cond (t := false) (by simp [Act.eval, Array.replicate]) ?_
  simp only [Bool.false_eq_true, if_false]
  refine wpS_of_wp (wp_skip ?_)
  cases c₀
  simp_all [bodyPostS, results, Tryz.results36]
set_option maxHeartbeats 8000000 in
set_option maxRecDepth 100000 in
theorem closure_panicking (g1 g2 g3 : Nat) (c0 c1 c2 d0 d1 : Value) (older : List PanicEntry) (w : World)
    (h1 : w.heap[g1]? = some (.cells #[c0, c1, c2] 24 (0, 0))) (h2 : w.heap[g2]? = some (.cells #[d0] 3 (0, 0))) (h3 : w.heap[g3]? = some (.cells #[d1] 26 (0, 0))) (h12 : g1 ≠ g2) (h13 : g1 ≠ g3) (h23 : g2 ≠ g3) :
    CallsD Tryz.prog 36 #[.pointer (some ⟨g1, 0, none⟩), .pointer (some ⟨g2, 0, none⟩), .pointer (some ⟨g3, 0, none⟩)] (.panicking ({ v := .iface 128 (.agg #[.int .i64 290]), recovered := false } :: older)) w fun e u' w' =>
      e = .returned (.tuple #[]) ∧ u' = .panicking ({ v := .iface 128 (.agg #[.int .i64 290]), recovered := true } :: older) ∧ ∃ w1, Below w.heap.size w w1 ∧ w' = (((w1.setCell ⟨g1, 0, none⟩ (.int .i64 0)).setCell ⟨g1, 1, none⟩ (.slice none 0 0)).setCell ⟨g1, 2, none⟩ (.slice none 0 0) |>.setCell ⟨g2, 0, none⟩ (.int .i64 0)).setCell ⟨g3, 0, none⟩ (.int .i64 290) := by
  have hu24 := Tryz.underlying24
  refine callsD_of_wpS Tryz.func36 rfl fun c₀ cs hu => ?_
  apply wpS_seq
  apply wpS_region
  simp [wpOpsS, go_sem, recoverD, hu, Tryz.ntmps36, Exit.thenS]
  refine (settled_log w).mono ?_
  rintro e w1 ⟨rfl, hb⟩
  have b1 := blk_below h1 hb
  have b2 := blk_below h2 hb
  have b3 := blk_below h3 hb
  have e10 : w1.cell? ⟨g1, 0, none⟩ = some c0 := (blk_cell b1 0).trans rfl
  have e11 : w1.cell? ⟨g1, 1, none⟩ = some c1 := (blk_cell b1 1).trans rfl
  have e12 : w1.cell? ⟨g1, 2, none⟩ = some c2 := (blk_cell b1 2).trans rfl
  have e20 : w1.cell? ⟨g2, 0, none⟩ = some d0 := (blk_cell b2 0).trans rfl
  have e30 : w1.cell? ⟨g3, 0, none⟩ = some d1 := (blk_cell b3 0).trans rfl
  have f10 := blk_frozen b1 0
  have f11 := blk_frozen b1 1
  have f12 := blk_frozen b1 2
  have f20 := blk_frozen b2 0
  have f30 := blk_frozen b3 0
  apply wpS_seq
  apply wpS_region
  simp [wpOpsS, go_sem, Exit.thenS]
  refine wpS_cond (t := true) (by simp [Act.eval, Array.replicate]) ?_
  simp only [if_true]
  apply wpS_region
  simp [wpOpsS, go_sem, e10, e11, e12, e20, e30, f10, f11, f12, f20, f30, bodyPostS, results, Tryz.results36, h12, h13, h23, h12.symm, h13.symm, h23.symm, hu24]
  exact ⟨w1, hb, rfl⟩
end Go.Proofs.J.Print
end
section
namespace Go.Proofs.J.Print
open Go.RowKit Go.Proofs.PrintWords Go.Proofs.PrintLast Go.Proofs.PrintMore
set_option maxHeartbeats 8000000 in
set_option maxRecDepth 100000 in
theorem decode_panics (k : Nat) (b : ByteArray) (w : World) (h : commitP.f k b = some none) :
    Calls Tryz.prog 13 #[.string b] w fun e w' => e = .returned (.tuple #[.agg #[.int .i64 0, .slice none 0 0, .slice none 0 0], .int .i64 0, .int .i64 290]) ∧ Below w.heap.size w w' := by
  have hu24 := Tryz.underlying24
  have hu103 := Tryz.underlying103
  have A1 := Aside0.mk h
  clear h
  have HB1 := Aside0.mk (Below.refl w.heap.size w)
  have hmf : ∀ (fn : Fn) (first cap : Array Value) (w : World), (Instr.makeFunc fn first cap).run Tryz.prog w = .ok (.func fn first cap) w := fun _ _ _ _ => rfl
  go_enter_defers Tryz.func13, Tryz.ntmps13
  go_wp2_with (first | ((with_reducible refine gate_dst (N := 2) rfl ?_); refine boxS 2 #[.int .i64 0, .slice none 0 0, .slice none 0 0] 24 ?_; intro g2 hg W2 hbox hb; have HB2 := Aside0.mk (below_step HB1.out hb); have L2 := Aside0.mk (by rw [hg]; exact HB1.out.size : w.heap.size ≤ g2); have B2 := Aside0.mk hbox; clear hb hbox hg) | ((with_reducible refine gate_dst (N := 3) rfl ?_); refine boxS 3 #[.int .i64 0] 3 ?_; intro g3 hg W3 hbox hb; have HB3 := Aside0.mk (below_step HB2.out hb); have L3 := Aside0.mk (by rw [hg]; exact HB2.out.size : w.heap.size ≤ g3); have NE2_3 := Aside0.mk (by rw [hg]; exact Nat.ne_of_lt (blk_lt B2.out) : g2 ≠ g3); have n_ := Aside0.mk (blk_below B2.out hb); clear B2; have B2 := n_; clear n_; have B3 := Aside0.mk hbox; clear hb hbox hg) | ((with_reducible refine gate_dst (N := 4) rfl ?_); refine boxS 4 #[.int .i64 0] 26 ?_; intro g4 hg W4 hbox hb; have HB4 := Aside0.mk (below_step HB3.out hb); have L4 := Aside0.mk (by rw [hg]; exact HB3.out.size : w.heap.size ≤ g4); have NE2_4 := Aside0.mk (by rw [hg]; exact Nat.ne_of_lt (blk_lt B2.out) : g2 ≠ g4); have NE3_4 := Aside0.mk (by rw [hg]; exact Nat.ne_of_lt (blk_lt B3.out) : g3 ≠ g4); have n_ := Aside0.mk (blk_below B2.out hb); clear B2; have B2 := n_; clear n_; have n_ := Aside0.mk (blk_below B3.out hb); clear B3; have B3 := n_; clear n_; have B4 := Aside0.mk hbox; clear hb hbox hg) | ((with_reducible refine gate_dst (N := 5) rfl ?_); refine boxS 5 #[.string (⟨#[]⟩ : ByteArray)] 103 ?_; intro g5 hg W5 hbox hb; have HB5 := Aside0.mk (below_step HB4.out hb); have L5 := Aside0.mk (by rw [hg]; exact HB4.out.size : w.heap.size ≤ g5); have NE2_5 := Aside0.mk (by rw [hg]; exact Nat.ne_of_lt (blk_lt B2.out) : g2 ≠ g5); have NE3_5 := Aside0.mk (by rw [hg]; exact Nat.ne_of_lt (blk_lt B3.out) : g3 ≠ g5); have NE4_5 := Aside0.mk (by rw [hg]; exact Nat.ne_of_lt (blk_lt B4.out) : g4 ≠ g5); have n_ := Aside0.mk (blk_below B2.out hb); clear B2; have B2 := n_; clear n_; have n_ := Aside0.mk (blk_below B3.out hb); clear B3; have B3 := n_; clear n_; have n_ := Aside0.mk (blk_below B4.out hb); clear B4; have B4 := n_; clear n_; have B5 := Aside0.mk hbox; clear hb hbox hg; have hc5 : W5.cell? ⟨g5, 0, none⟩ = some (.string (⟨#[]⟩ : ByteArray)) := (blk_cell B5.out 0).trans rfl; have hf5 := blk_frozen B5.out 0) | ((with_reducible refine gate_callee (f := 38) rfl ?_); refine goesP (some 9) Tryz.func38 #[.pointer (some ⟨g5, 0, none⟩)] ?_; (with_reducible refine (commitP.calls k g5 b _ w _ ?side1 ?side2 A1.out).mono ?_); (case side1 => exact (show IsS103 w (W5.setCell ⟨g5, 0, none⟩ (.string b)) g5 b from ⟨by simpa using blk_set B5.out 0 (.string b), L5.out⟩)); (case side2 => exact below_set HB5.out L5.out); rintro e wC ⟨⟨rfl, s', hi⟩, hb, hk⟩; refine ⟨_, rfl, ?_⟩; have n_ := Aside0.mk (KeepBut.blk hk (g' := g2) (o := .cells #[.int .i64 0, .slice none 0 0, .slice none 0 0] 24 (0, 0)) (blk_far B2.out NE2_5.out _) NE2_5.out (by simp)); clear B2; have B2 := n_; clear n_; have n_ := Aside0.mk (KeepBut.blk hk (g' := g3) (o := .cells #[.int .i64 0] 3 (0, 0)) (blk_far B3.out NE3_5.out _) NE3_5.out (by simp)); clear B3; have B3 := n_; clear n_; have n_ := Aside0.mk (KeepBut.blk hk (g' := g4) (o := .cells #[.int .i64 0] 26 (0, 0)) (blk_far B4.out NE4_5.out _) NE4_5.out (by simp)); clear B4; have B4 := n_; clear n_; have HBC := Aside0.mk hb; clear hb hk hi))
  unfold logChain
  refine leaves_cons (f := 36) (args := #[.pointer (some ⟨g2, 0, none⟩), .pointer (some ⟨g3, 0, none⟩), .pointer (some ⟨g4, 0, none⟩)]) (by simp) (by simp [go_sem]) ?_
  refine (closure_panicking g2 g3 g4 _ _ _ _ _ [] _ B2.out B3.out B4.out NE2_3.out NE2_4.out NE3_4.out).mono ?_
  rintro e u' w'' ⟨rfl, rfl, w1, hb, rfl⟩
  have b1 := blk_below B2.out hb
  have b3 := blk_below B3.out hb
  have b4 := blk_below B4.out hb
  have c2 : ((((w1.setCell ⟨g2, 0, none⟩ (.int .i64 0)).setCell ⟨g2, 1, none⟩ (.slice none 0 0)).setCell ⟨g2, 2, none⟩ (.slice none 0 0)).setCell ⟨g3, 0, none⟩ (.int .i64 0) |>.setCell ⟨g4, 0, none⟩ (.int .i64 290)).heap[g2]? = some (.cells #[.int .i64 0, .slice none 0 0, .slice none 0 0] 24 (0, 0)) := blk_far (blk_far (blk_put (blk_put (blk_put b1 0 _ rfl) 1 _ rfl) 2 _ rfl) NE2_3.out _) NE2_4.out _
  have c3 : ((((w1.setCell ⟨g2, 0, none⟩ (.int .i64 0)).setCell ⟨g2, 1, none⟩ (.slice none 0 0)).setCell ⟨g2, 2, none⟩ (.slice none 0 0)).setCell ⟨g3, 0, none⟩ (.int .i64 0) |>.setCell ⟨g4, 0, none⟩ (.int .i64 290)).heap[g3]? = some (.cells #[.int .i64 0] 3 (0, 0)) := blk_far (blk_put (blk_far (blk_far (blk_far b3 (Ne.symm NE2_3.out) _) (Ne.symm NE2_3.out) _) (Ne.symm NE2_3.out) _) 0 _ rfl) NE3_4.out _
  have c4 : ((((w1.setCell ⟨g2, 0, none⟩ (.int .i64 0)).setCell ⟨g2, 1, none⟩ (.slice none 0 0)).setCell ⟨g2, 2, none⟩ (.slice none 0 0)).setCell ⟨g3, 0, none⟩ (.int .i64 0) |>.setCell ⟨g4, 0, none⟩ (.int .i64 290)).heap[g4]? = some (.cells #[.int .i64 290] 26 (0, 0)) := blk_put (blk_far (blk_far (blk_far (blk_far b4 (Ne.symm NE2_4.out) _) (Ne.symm NE2_4.out) _) (Ne.symm NE2_4.out) _) (Ne.symm NE3_4.out) _) 0 _ rfl
  have hfin : Below w.heap.size w ((((w1.setCell ⟨g2, 0, none⟩ (.int .i64 0)).setCell ⟨g2, 1, none⟩ (.slice none 0 0)).setCell ⟨g2, 2, none⟩ (.slice none 0 0)).setCell ⟨g3, 0, none⟩ (.int .i64 0) |>.setCell ⟨g4, 0, none⟩ (.int .i64 290)) := below_set (below_set (below_set (below_set (below_set (below_step HBC.out hb) L2.out) L2.out) L2.out) L3.out) L4.out
  generalize ((((w1.setCell ⟨g2, 0, none⟩ (.int .i64 0)).setCell ⟨g2, 1, none⟩ (.slice none 0 0)).setCell ⟨g2, 2, none⟩ (.slice none 0 0)).setCell ⟨g3, 0, none⟩ (.int .i64 0) |>.setCell ⟨g4, 0, none⟩ (.int .i64 290)) = W2 at c2 c3 c4 hfin ⊢
  have e0 : W2.cell? ⟨g2, 0, none⟩ = some (.int .i64 0) := (blk_cell c2 0).trans rfl
  have e1 : W2.cell? ⟨g2, 1, none⟩ = some (.slice none 0 0) := (blk_cell c2 1).trans rfl
  have e2 : W2.cell? ⟨g2, 2, none⟩ = some (.slice none 0 0) := (blk_cell c2 2).trans rfl
  have e3 : W2.cell? ⟨g3, 0, none⟩ = some (.int .i64 0) := (blk_cell c3 0).trans rfl
  have e4 : W2.cell? ⟨g4, 0, none⟩ = some (.int .i64 290) := (blk_cell c4 0).trans rfl
  simp [Leaves, settle, results, Tryz.results13, go_sem, e0, e1, e2, e3, e4, hu24]
  trace_state
  exact hfin
end Go.Proofs.J.Print
end
section
namespace Go.Proofs.J.Print
open Go.RowKit Go.Proofs.PrintWords Go.Proofs.PrintLast Go.Proofs.PrintMore
set_option maxHeartbeats 8000000 in
set_option maxRecDepth 100000 in
theorem decode_returns (k : Nat) (b : ByteArray) (n : Int) (l1 l2 : List S90) (s' : ByteArray) (w : World) (h : commitP.f k b = some (some ((n, l1, l2), s'))) :
    Calls Tryz.prog 13 #[.string b] w fun e w' => ∃ v1_ v2_ : Value, e = .returned (.tuple #[.agg #[.int .i64 n, v1_, v2_], .int .i64 (wrap64 ((b.size : Int) - (s'.size : Int))), .int .i64 0]) ∧ Kd.S k90 90 w' w.heap.size (fun k_ => some k_ ≠ v2_.ownBlock) v1_ l1 ∧ Kd.S k90 90 w' w.heap.size (fun k_ => some k_ ≠ v1_.ownBlock) v2_ l2 ∧ Below w.heap.size w w' := by
  have hu24 := Tryz.underlying24
  have hu103 := Tryz.underlying103
  have A1 := Aside0.mk h
  clear h
  have HB1 := Aside0.mk (Below.refl w.heap.size w)
  have hmf : ∀ (fn : Fn) (first cap : Array Value) (w : World), (Instr.makeFunc fn first cap).run Tryz.prog w = .ok (.func fn first cap) w := fun _ _ _ _ => rfl
  go_enter_defers Tryz.func13, Tryz.ntmps13
  go_wp2_with (first | ((with_reducible refine gate_dst (N := 2) rfl ?_); refine boxS 2 #[.int .i64 0, .slice none 0 0, .slice none 0 0] 24 ?_; intro g2 hg W2 hbox hb; have HB2 := Aside0.mk (below_step HB1.out hb); have L2 := Aside0.mk (by rw [hg]; exact HB1.out.size : w.heap.size ≤ g2); have B2 := Aside0.mk hbox; clear hb hbox hg) | ((with_reducible refine gate_dst (N := 3) rfl ?_); refine boxS 3 #[.int .i64 0] 3 ?_; intro g3 hg W3 hbox hb; have HB3 := Aside0.mk (below_step HB2.out hb); have L3 := Aside0.mk (by rw [hg]; exact HB2.out.size : w.heap.size ≤ g3); have NE2_3 := Aside0.mk (by rw [hg]; exact Nat.ne_of_lt (blk_lt B2.out) : g2 ≠ g3); have n_ := Aside0.mk (blk_below B2.out hb); clear B2; have B2 := n_; clear n_; have B3 := Aside0.mk hbox; clear hb hbox hg) | ((with_reducible refine gate_dst (N := 4) rfl ?_); refine boxS 4 #[.int .i64 0] 26 ?_; intro g4 hg W4 hbox hb; have HB4 := Aside0.mk (below_step HB3.out hb); have L4 := Aside0.mk (by rw [hg]; exact HB3.out.size : w.heap.size ≤ g4); have NE2_4 := Aside0.mk (by rw [hg]; exact Nat.ne_of_lt (blk_lt B2.out) : g2 ≠ g4); have NE3_4 := Aside0.mk (by rw [hg]; exact Nat.ne_of_lt (blk_lt B3.out) : g3 ≠ g4); have n_ := Aside0.mk (blk_below B2.out hb); clear B2; have B2 := n_; clear n_; have n_ := Aside0.mk (blk_below B3.out hb); clear B3; have B3 := n_; clear n_; have B4 := Aside0.mk hbox; clear hb hbox hg) | ((with_reducible refine gate_dst (N := 5) rfl ?_); refine boxS 5 #[.string (⟨#[]⟩ : ByteArray)] 103 ?_; intro g5 hg W5 hbox hb; have HB5 := Aside0.mk (below_step HB4.out hb); have L5 := Aside0.mk (by rw [hg]; exact HB4.out.size : w.heap.size ≤ g5); have NE2_5 := Aside0.mk (by rw [hg]; exact Nat.ne_of_lt (blk_lt B2.out) : g2 ≠ g5); have NE3_5 := Aside0.mk (by rw [hg]; exact Nat.ne_of_lt (blk_lt B3.out) : g3 ≠ g5); have NE4_5 := Aside0.mk (by rw [hg]; exact Nat.ne_of_lt (blk_lt B4.out) : g4 ≠ g5); have n_ := Aside0.mk (blk_below B2.out hb); clear B2; have B2 := n_; clear n_; have n_ := Aside0.mk (blk_below B3.out hb); clear B3; have B3 := n_; clear n_; have n_ := Aside0.mk (blk_below B4.out hb); clear B4; have B4 := n_; clear n_; have B5 := Aside0.mk hbox; clear hb hbox hg; have hc5 : W5.cell? ⟨g5, 0, none⟩ = some (.string (⟨#[]⟩ : ByteArray)) := (blk_cell B5.out 0).trans rfl; have hf5 := blk_frozen B5.out 0) | ((with_reducible refine gate_callee (f := 38) rfl ?_); refine goesS (some 9) Tryz.func38 #[.pointer (some ⟨g5, 0, none⟩)] ?_; (with_reducible refine (commitP.calls k g5 b _ w _ ?side1 ?side2 A1.out).mono ?_); (case side1 => exact (show IsS103 w (W5.setCell ⟨g5, 0, none⟩ (.string b)) g5 b from ⟨by simpa using blk_set B5.out 0 (.string b), L5.out⟩)); (case side2 => exact below_set HB5.out L5.out); rintro e wC ⟨⟨v1, v2, rfl, hs1, hs2, hi⟩, hb, hk⟩; refine ⟨_, rfl, ?_⟩; have n_ := Aside0.mk (KeepBut.blk hk (g' := g2) (o := .cells #[.int .i64 0, .slice none 0 0, .slice none 0 0] 24 (0, 0)) (blk_far B2.out NE2_5.out _) NE2_5.out (by simp)); clear B2; have B2 := n_; clear n_; have n_ := Aside0.mk (KeepBut.blk hk (g' := g3) (o := .cells #[.int .i64 0] 3 (0, 0)) (blk_far B3.out NE3_5.out _) NE3_5.out (by simp)); clear B3; have B3 := n_; clear n_; have n_ := Aside0.mk (KeepBut.blk hk (g' := g4) (o := .cells #[.int .i64 0] 26 (0, 0)) (blk_far B4.out NE4_5.out _) NE4_5.out (by simp)); clear B4; have B4 := n_; clear n_; have HBC := Aside0.mk hb; have HS1 := Aside0.mk hs1; have HS2 := Aside0.mk hs2; have HI5 := Aside0.mk hi; obtain ⟨Ao1, co1, eo1⟩ := Kd.S_slice HS1.out; subst eo1; obtain ⟨Ao2, co2, eo2⟩ := Kd.S_slice HS2.out; subst eo2; clear hb hk hi hs1 hs2; have hc2_0 : wC.cell? ⟨g2, 0, none⟩ = some (.int .i64 0) := (blk_cell B2.out 0).trans rfl; have hf2_0 := blk_frozen B2.out 0; have hc2_1 : wC.cell? ⟨g2, 1, none⟩ = some (.slice none 0 0) := (blk_cell B2.out 1).trans rfl; have hf2_1 := blk_frozen B2.out 1; have hc2_2 : wC.cell? ⟨g2, 2, none⟩ = some (.slice none 0 0) := (blk_cell B2.out 2).trans rfl; have hf2_2 := blk_frozen B2.out 2; have hc3_0 : wC.cell? ⟨g3, 0, none⟩ = some (.int .i64 0) := (blk_cell B3.out 0).trans rfl; have hf3_0 := blk_frozen B3.out 0; have hc4_0 : wC.cell? ⟨g4, 0, none⟩ = some (.int .i64 0) := (blk_cell B4.out 0).trans rfl; have hf4_0 := blk_frozen B4.out 0; have hc5_0 : wC.cell? ⟨g5, 0, none⟩ = some (.string s') := (blk_cell HI5.out.1 0).trans rfl; have hf5_0 := blk_frozen HI5.out.1 0; have hn23 := NE2_3.out; have hm23 := Ne.symm NE2_3.out; have hn24 := NE2_4.out; have hm24 := Ne.symm NE2_4.out; have hn34 := NE3_4.out; have hm34 := Ne.symm NE3_4.out; have hn25 := NE2_5.out; have hm25 := Ne.symm NE2_5.out; have hn35 := NE3_5.out; have hm35 := Ne.symm NE3_5.out; have hn45 := NE4_5.out; have hm45 := Ne.symm NE4_5.out))
  have b2 : (((wC.setCell ⟨g2, 0, none⟩ (.int .i64 n)).setCell ⟨g2, 1, none⟩ (.slice Ao1 l1.length co1)).setCell ⟨g2, 2, none⟩ (.slice Ao2 l2.length co2)).heap[g2]? = some (.cells #[.int .i64 n, .slice Ao1 l1.length co1, .slice Ao2 l2.length co2] 24 (0, 0)) := blk_put (blk_put (blk_put B2.out 0 _ rfl) 1 _ rfl) 2 _ rfl
  have b3 : (((wC.setCell ⟨g2, 0, none⟩ (.int .i64 n)).setCell ⟨g2, 1, none⟩ (.slice Ao1 l1.length co1)).setCell ⟨g2, 2, none⟩ (.slice Ao2 l2.length co2)).heap[g3]? = some (.cells #[.int .i64 0] 3 (0, 0)) := blk_far (blk_far (blk_far B3.out hm23 _) hm23 _) hm23 _
  have b4 : (((wC.setCell ⟨g2, 0, none⟩ (.int .i64 n)).setCell ⟨g2, 1, none⟩ (.slice Ao1 l1.length co1)).setCell ⟨g2, 2, none⟩ (.slice Ao2 l2.length co2)).heap[g4]? = some (.cells #[.int .i64 0] 26 (0, 0)) := blk_far (blk_far (blk_far B4.out hm24 _) hm24 _) hm24 _
  have b5 : (((wC.setCell ⟨g2, 0, none⟩ (.int .i64 n)).setCell ⟨g2, 1, none⟩ (.slice Ao1 l1.length co1)).setCell ⟨g2, 2, none⟩ (.slice Ao2 l2.length co2)).heap[g5]? = some (.cells #[.string s'] 103 (0, 0)) := blk_far (blk_far (blk_far HI5.out.1 hm25 _) hm25 _) hm25 _
  have HBW : Below w.heap.size w (((wC.setCell ⟨g2, 0, none⟩ (.int .i64 n)).setCell ⟨g2, 1, none⟩ (.slice Ao1 l1.length co1)).setCell ⟨g2, 2, none⟩ (.slice Ao2 l2.length co2)) := below_set (below_set (below_set HBC.out L2.out) L2.out) L2.out
  have S1 : Kd.S k90 90 (((wC.setCell ⟨g2, 0, none⟩ (.int .i64 n)).setCell ⟨g2, 1, none⟩ (.slice Ao1 l1.length co1)).setCell ⟨g2, 2, none⟩ (.slice Ao2 l2.length co2)) w.heap.size (fun k_ => some k_ ≠ (.slice Ao2 l2.length co2 : Value).ownBlock) (.slice Ao1 l1.length co1) l1 :=
    Kd.S_set (Kd.S_set (Kd.S_set (Kd.S_lower HS1.out (below_size (below_set HB5.out L5.out))) B2.out (by decide) 0 _) (blk_put B2.out 0 (.int .i64 n) rfl) (by decide) 1 _) (blk_put (blk_put B2.out 0 (.int .i64 n) rfl) 1 (.slice Ao1 l1.length co1) rfl) (by decide) 2 _
  have S2 : Kd.S k90 90 (((wC.setCell ⟨g2, 0, none⟩ (.int .i64 n)).setCell ⟨g2, 1, none⟩ (.slice Ao1 l1.length co1)).setCell ⟨g2, 2, none⟩ (.slice Ao2 l2.length co2)) w.heap.size (fun k_ => some k_ ≠ (.slice Ao1 l1.length co1 : Value).ownBlock) (.slice Ao2 l2.length co2) l2 :=
    Kd.S_set (Kd.S_set (Kd.S_set (Kd.S_lower HS2.out (below_size (below_set HB5.out L5.out))) B2.out (by decide) 0 _) (blk_put B2.out 0 (.int .i64 n) rfl) (by decide) 1 _) (blk_put (blk_put B2.out 0 (.int .i64 n) rfl) 1 (.slice Ao1 l1.length co1) rfl) (by decide) 2 _
  generalize (((wC.setCell ⟨g2, 0, none⟩ (.int .i64 n)).setCell ⟨g2, 1, none⟩ (.slice Ao1 l1.length co1)).setCell ⟨g2, 2, none⟩ (.slice Ao2 l2.length co2)) = W3 at b2 b3 b4 b5 HBW S1 S2 ⊢
  clear hc2_0 hf2_0 hc2_1 hf2_1 hc2_2 hf2_2 hc3_0 hf3_0 hc4_0 hf4_0 hc5_0 hf5_0
  have hc2_0 : W3.cell? ⟨g2, 0, none⟩ = some (.int .i64 n) := (blk_cell b2 0).trans rfl
  have hc2_1 : W3.cell? ⟨g2, 1, none⟩ = some (.slice Ao1 l1.length co1) := (blk_cell b2 1).trans rfl
  have hc2_2 : W3.cell? ⟨g2, 2, none⟩ = some (.slice Ao2 l2.length co2) := (blk_cell b2 2).trans rfl
  have hc3_0 : W3.cell? ⟨g3, 0, none⟩ = some (.int .i64 0) := (blk_cell b3 0).trans rfl
  have hc4_0 : W3.cell? ⟨g4, 0, none⟩ = some (.int .i64 0) := (blk_cell b4 0).trans rfl
  have hc5_0 : W3.cell? ⟨g5, 0, none⟩ = some (.string s') := (blk_cell b5 0).trans rfl
  have hf2_0 := blk_frozen b2 0
  have hf2_1 := blk_frozen b2 1
  have hf2_2 := blk_frozen b2 2
  have hf3_0 := blk_frozen b3 0
  have hf4_0 := blk_frozen b4 0
  have hf5_0 := blk_frozen b5 0
  have HBX := Aside0.mk HBW
  have HSX1 := Aside0.mk S1
  have HSX2 := Aside0.mk S2
  have BX2 := Aside0.mk b2
  have BX3 := Aside0.mk b3
  have BX4 := Aside0.mk b4
  clear b2 b3 b4 b5 HBW S1 S2 B2 B3 B4 HI5 HS1 HS2 HBC
  go_region
  go_wp2
  refine leaves_cons (f := 36) (args := #[.pointer (some ⟨g2, 0, none⟩), .pointer (some ⟨g3, 0, none⟩), .pointer (some ⟨g4, 0, none⟩)]) (by simp) (by simp [go_sem]) ?_
  refine (closure_idle _ _ _ _).mono ?_
  rintro e u' w'' ⟨rfl, rfl, rfl⟩
  have d2 : ((((((W3.setCell ⟨g2, 0, none⟩ (.int .i64 n)).setCell ⟨g2, 1, none⟩ (.slice Ao1 l1.length co1)).setCell ⟨g2, 2, none⟩ (.slice Ao2 l2.length co2)).setCell ⟨g3, 0, none⟩ (.int .i64 (wrap64 ((b.size : Int) - (s'.size : Int))))).setCell ⟨g4, 0, none⟩ (.int .i64 0)).drew).heap[g2]? = some (.cells #[.int .i64 n, .slice Ao1 l1.length co1, .slice Ao2 l2.length co2] 24 (0, 0)) := blk_drew (blk_far (blk_far (blk_put (blk_put (blk_put BX2.out 0 _ rfl) 1 _ rfl) 2 _ rfl) hn23 _) hn24 _)
  have d3 : ((((((W3.setCell ⟨g2, 0, none⟩ (.int .i64 n)).setCell ⟨g2, 1, none⟩ (.slice Ao1 l1.length co1)).setCell ⟨g2, 2, none⟩ (.slice Ao2 l2.length co2)).setCell ⟨g3, 0, none⟩ (.int .i64 (wrap64 ((b.size : Int) - (s'.size : Int))))).setCell ⟨g4, 0, none⟩ (.int .i64 0)).drew).heap[g3]? = some (.cells #[.int .i64 (wrap64 ((b.size : Int) - (s'.size : Int)))] 3 (0, 0)) := blk_drew (blk_far (blk_put (blk_far (blk_far (blk_far BX3.out hm23 _) hm23 _) hm23 _) 0 _ rfl) hn34 _)
  have d4 : ((((((W3.setCell ⟨g2, 0, none⟩ (.int .i64 n)).setCell ⟨g2, 1, none⟩ (.slice Ao1 l1.length co1)).setCell ⟨g2, 2, none⟩ (.slice Ao2 l2.length co2)).setCell ⟨g3, 0, none⟩ (.int .i64 (wrap64 ((b.size : Int) - (s'.size : Int))))).setCell ⟨g4, 0, none⟩ (.int .i64 0)).drew).heap[g4]? = some (.cells #[.int .i64 0] 26 (0, 0)) := blk_drew (blk_put (blk_far (blk_far (blk_far (blk_far BX4.out hm24 _) hm24 _) hm24 _) hm34 _) 0 _ rfl)
  have hfin : Below w.heap.size w (((((W3.setCell ⟨g2, 0, none⟩ (.int .i64 n)).setCell ⟨g2, 1, none⟩ (.slice Ao1 l1.length co1)).setCell ⟨g2, 2, none⟩ (.slice Ao2 l2.length co2)).setCell ⟨g3, 0, none⟩ (.int .i64 (wrap64 ((b.size : Int) - (s'.size : Int))))).setCell ⟨g4, 0, none⟩ (.int .i64 0)).drew := below_drew1 (below_set (below_set (below_set (below_set (below_set HBX.out L2.out) L2.out) L2.out) L3.out) L4.out)
  have SS1 : Kd.S k90 90 (((((W3.setCell ⟨g2, 0, none⟩ (.int .i64 n)).setCell ⟨g2, 1, none⟩ (.slice Ao1 l1.length co1)).setCell ⟨g2, 2, none⟩ (.slice Ao2 l2.length co2)).setCell ⟨g3, 0, none⟩ (.int .i64 (wrap64 ((b.size : Int) - (s'.size : Int))))).setCell ⟨g4, 0, none⟩ (.int .i64 0)).drew w.heap.size (fun k_ => some k_ ≠ (.slice Ao2 l2.length co2 : Value).ownBlock) (.slice Ao1 l1.length co1) l1 :=
    Kd.S_drew (Kd.S_set (Kd.S_set (Kd.S_set (Kd.S_set (Kd.S_set HSX1.out BX2.out (by decide) 0 _) (blk_put BX2.out 0 (.int .i64 n) rfl) (by decide) 1 _) (blk_put (blk_put BX2.out 0 (.int .i64 n) rfl) 1 (.slice Ao1 l1.length co1) rfl) (by decide) 2 _) (blk_far (blk_far (blk_far BX3.out hm23 _) hm23 _) hm23 _) (by decide) 0 _) (blk_far (blk_far (blk_far (blk_far BX4.out hm24 _) hm24 _) hm24 _) hm34 _) (by decide) 0 _)
  have SS2 : Kd.S k90 90 (((((W3.setCell ⟨g2, 0, none⟩ (.int .i64 n)).setCell ⟨g2, 1, none⟩ (.slice Ao1 l1.length co1)).setCell ⟨g2, 2, none⟩ (.slice Ao2 l2.length co2)).setCell ⟨g3, 0, none⟩ (.int .i64 (wrap64 ((b.size : Int) - (s'.size : Int))))).setCell ⟨g4, 0, none⟩ (.int .i64 0)).drew w.heap.size (fun k_ => some k_ ≠ (.slice Ao1 l1.length co1 : Value).ownBlock) (.slice Ao2 l2.length co2) l2 :=
    Kd.S_drew (Kd.S_set (Kd.S_set (Kd.S_set (Kd.S_set (Kd.S_set HSX2.out BX2.out (by decide) 0 _) (blk_put BX2.out 0 (.int .i64 n) rfl) (by decide) 1 _) (blk_put (blk_put BX2.out 0 (.int .i64 n) rfl) 1 (.slice Ao1 l1.length co1) rfl) (by decide) 2 _) (blk_far (blk_far (blk_far BX3.out hm23 _) hm23 _) hm23 _) (by decide) 0 _) (blk_far (blk_far (blk_far (blk_far BX4.out hm24 _) hm24 _) hm24 _) hm34 _) (by decide) 0 _)
  generalize (((((W3.setCell ⟨g2, 0, none⟩ (.int .i64 n)).setCell ⟨g2, 1, none⟩ (.slice Ao1 l1.length co1)).setCell ⟨g2, 2, none⟩ (.slice Ao2 l2.length co2)).setCell ⟨g3, 0, none⟩ (.int .i64 (wrap64 ((b.size : Int) - (s'.size : Int))))).setCell ⟨g4, 0, none⟩ (.int .i64 0)).drew = W5 at d2 d3 d4 hfin SS1 SS2 ⊢
  have e0 : W5.cell? ⟨g2, 0, none⟩ = some (.int .i64 n) := (blk_cell d2 0).trans rfl
  have e1 : W5.cell? ⟨g2, 1, none⟩ = some (.slice Ao1 l1.length co1) := (blk_cell d2 1).trans rfl
  have e2 : W5.cell? ⟨g2, 2, none⟩ = some (.slice Ao2 l2.length co2) := (blk_cell d2 2).trans rfl
  have e3 : W5.cell? ⟨g3, 0, none⟩ = some (.int .i64 (wrap64 ((b.size : Int) - (s'.size : Int)))) := (blk_cell d3 0).trans rfl
  have e4 : W5.cell? ⟨g4, 0, none⟩ = some (.int .i64 0) := (blk_cell d4 0).trans rfl
  simp [Leaves, settle, results, Tryz.results13, go_sem, e0, e1, e2, e3, e4]
  exact ⟨_, _, ⟨rfl, rfl⟩, SS1, SS2, hfin⟩
end Go.Proofs.J.Print
end
section
namespace Go.Proofs.J.Print
open Go.RowKit Go.Proofs.PrintWords Go.Proofs.PrintLast Go.Proofs.PrintMore
def decodeOf (a0 : ByteArray) (r : Option ((Int × List S90 × List S90) × ByteArray)) : Int × (List (S90)) × (List (S90)) × Int × Int := match r with
  | none => (0, [], [], 0, 290)
  | some ((n, l1, l2), rest) => (n, l1, l2, wrap64 ((a0.size : Int) - (rest.size : Int)), 0)
def journal_Decode.f (k : Nat) (a0 : ByteArray) : Option (Int × (List (S90)) × (List (S90)) × Int × Int) := (commitP.f k a0).bind fun r => some (decodeOf a0 r)
theorem journal_Decode.calls (k : Nat) (a0 : ByteArray) (r1 : Int) (r2 : List (S90)) (r3 : List (S90)) (r4 : Int) (r5 : Int) (w : World) (h : journal_Decode.f k a0 = some (r1, r2, r3, r4, r5)) :
    Calls Tryz.prog 13 #[.string a0] w fun e w' => ∃ v1_ v2_ : Value, e = .returned (.tuple #[.agg #[.int .i64 r1, v1_, v2_], .int .i64 r4, .int .i64 r5]) ∧ Kd.S k90 90 w' w.heap.size (fun k_ => some k_ ≠ v2_.ownBlock) v1_ r2 ∧ Kd.S k90 90 w' w.heap.size (fun k_ => some k_ ≠ v1_.ownBlock) v2_ r3 ∧ Below w.heap.size w w' := by
  unfold journal_Decode.f at h
  obtain ⟨r, hr, h⟩ := Option.bind_eq_some_iff.mp h
  cases r with
  | none =>
    simp only [decodeOf, Option.some.injEq, Prod.mk.injEq] at h
    obtain ⟨rfl, rfl, rfl, rfl, rfl⟩ := h
    refine (decode_panics k a0 w hr).mono ?_
    rintro e w' ⟨rfl, hb⟩
    exact ⟨_, _, rfl, Kd.S_nil _ _ _ _ _, Kd.S_nil _ _ _ _ _, hb⟩
  | some p =>
    obtain ⟨⟨n, l1, l2⟩, rest⟩ := p
    simp only [decodeOf, Option.some.injEq, Prod.mk.injEq] at h
    obtain ⟨rfl, rfl, rfl, rfl, rfl⟩ := h
    refine (decode_returns k a0 _ _ _ rest w hr).mono ?_
    rintro e w' ⟨v1, v2, rfl, s1, s2, hb⟩
    exact ⟨_, _, rfl, s1, s2, hb⟩
end Go.Proofs.J.Print
end
section
namespace Go.Proofs.J.Print
open Go.RowKit Go.Proofs.PrintWords Go.Proofs.PrintLast Go.Proofs.PrintMore
theorem body_empty (k : Nat) : body.f k (⟨#[]⟩ : ByteArray) = some none := by
  unfold body.f
  rw [show tk (⟨#[]⟩ : ByteArray) 4 = none from rfl]
  rfl
set_option maxHeartbeats 8000000 in
set_option maxRecDepth 100000 in
theorem first_empty (g : Nat) (w0 w : World) (hI : IsS103 w0 w g ⟨#[]⟩) (hB : Below w0.heap.size w0 w) :
    Calls Tryz.prog 91 #[.pointer (some ⟨g, 0, none⟩)] w fun e w' => e = .panicked logChain ∧ Below w0.heap.size w0 w' ∧ KeepBut w w' g none := by
  have hI := Aside0.mk hI
  have hB := Aside0.mk hB
  go_enter Tryz.func91, Tryz.ntmps91
  go_wp2_with (first | ((with_reducible refine gate_callee (f := 96) rfl ?_); refine goesP (some 13) Tryz.func96 #[.pointer (some ⟨g, 0, none⟩)] ?_; (with_reducible refine (body.calls 0 g ⟨#[]⟩ none w0 _ ?side1 ?side2 (body_empty 0)).mono ?_); (case side1 => exact hI.out); (case side2 => exact hB.out); rintro e wC hE; unfold Ends at hE; dsimp only at hE; obtain ⟨⟨rfl, hi⟩, hb, hk⟩ := hE; refine ⟨_, rfl, ?_⟩))
  exact ⟨rfl, rfl, hb, hk⟩
set_option maxHeartbeats 8000000 in
set_option maxRecDepth 100000 in
theorem open_closure (g1 g2 g3 : Nat) (c0 d0 d1 : Value) (older : List PanicEntry) (w : World)
    (h1 : w.heap[g1]? = some (.cells #[c0] 91 (0, 0))) (h2 : w.heap[g2]? = some (.cells #[d0] 3 (0, 0))) (h3 : w.heap[g3]? = some (.cells #[d1] 26 (0, 0))) (h12 : g1 ≠ g2) (h13 : g1 ≠ g3) (h23 : g2 ≠ g3) :
    CallsD Tryz.prog 90 #[.pointer (some ⟨g1, 0, none⟩), .pointer (some ⟨g2, 0, none⟩), .pointer (some ⟨g3, 0, none⟩)] (.panicking ({ v := .iface 128 (.agg #[.int .i64 290]), recovered := false } :: older)) w fun e u' w' =>
      e = .returned (.tuple #[]) ∧ u' = .panicking ({ v := .iface 128 (.agg #[.int .i64 290]), recovered := true } :: older) ∧ ∃ w1, Below w.heap.size w w1 ∧ w' = ((w1.setCell ⟨g1, 0, none⟩ (.pointer none)).setCell ⟨g2, 0, none⟩ (.int .i64 0)).setCell ⟨g3, 0, none⟩ (.int .i64 290) := by
  refine callsD_of_wpS Tryz.func90 rfl fun c₀ cs hu => ?_
  apply wpS_seq
  apply wpS_region
  simp [wpOpsS, go_sem, recoverD, hu, Tryz.ntmps90, Exit.thenS]
  refine (settled_log w).mono ?_
  rintro e w1 ⟨rfl, hb⟩
  have b1 := blk_below h1 hb
  have b2 := blk_below h2 hb
  have b3 := blk_below h3 hb
  have e10 : w1.cell? ⟨g1, 0, none⟩ = some c0 := (blk_cell b1 0).trans rfl
  have e20 : w1.cell? ⟨g2, 0, none⟩ = some d0 := (blk_cell b2 0).trans rfl
  have e30 : w1.cell? ⟨g3, 0, none⟩ = some d1 := (blk_cell b3 0).trans rfl
  have f10 := blk_frozen b1 0
  have f20 := blk_frozen b2 0
  have f30 := blk_frozen b3 0
  apply wpS_seq
  apply wpS_region
  simp [wpOpsS, go_sem, Exit.thenS]
  refine wpS_cond (t := true) (by simp [Act.eval, Array.replicate]) ?_
  simp only [if_true]
  apply wpS_region
  simp [wpOpsS, go_sem, e10, e20, e30, f10, f20, f30, bodyPostS, results, Tryz.results90, h13, h23, h12.symm, h13.symm, h23.symm]
  exact ⟨w1, hb, rfl⟩
set_option maxHeartbeats 8000000 in
set_option maxRecDepth 100000 in
theorem open_empty (w : World) :
    Calls Tryz.prog 31 #[.string (⟨#[]⟩ : ByteArray)] w fun e w' => e = .returned (.tuple #[.pointer none, .int .i64 0, .int .i64 290]) ∧ Below w.heap.size w w' := by
  have hu103 := Tryz.underlying103
  have HB1 := Aside0.mk (Below.refl w.heap.size w)
  have hmf : ∀ (fn : Fn) (first cap : Array Value) (w : World), (Instr.makeFunc fn first cap).run Tryz.prog w = .ok (.func fn first cap) w := fun _ _ _ _ => rfl
  go_enter_defers Tryz.func31, Tryz.ntmps31
  go_wp2_with (first | ((with_reducible refine gate_dst (N := 2) rfl ?_); refine boxS 2 #[.pointer none] 91 ?_; intro g2 hg W2 hbox hb; have HB2 := Aside0.mk (below_step HB1.out hb); have L2 := Aside0.mk (by rw [hg]; exact HB1.out.size : w.heap.size ≤ g2); have B2 := Aside0.mk hbox; clear hb hbox hg) | ((with_reducible refine gate_dst (N := 3) rfl ?_); refine boxS 3 #[.int .i64 0] 3 ?_; intro g3 hg W3 hbox hb; have HB3 := Aside0.mk (below_step HB2.out hb); have L3 := Aside0.mk (by rw [hg]; exact HB2.out.size : w.heap.size ≤ g3); have NE2_3 := Aside0.mk (by rw [hg]; exact Nat.ne_of_lt (blk_lt B2.out) : g2 ≠ g3); have n_ := Aside0.mk (blk_below B2.out hb); clear B2; have B2 := n_; clear n_; have B3 := Aside0.mk hbox; clear hb hbox hg) | ((with_reducible refine gate_dst (N := 4) rfl ?_); refine boxS 4 #[.int .i64 0] 26 ?_; intro g4 hg W4 hbox hb; have HB4 := Aside0.mk (below_step HB3.out hb); have L4 := Aside0.mk (by rw [hg]; exact HB3.out.size : w.heap.size ≤ g4); have NE2_4 := Aside0.mk (by rw [hg]; exact Nat.ne_of_lt (blk_lt B2.out) : g2 ≠ g4); have NE3_4 := Aside0.mk (by rw [hg]; exact Nat.ne_of_lt (blk_lt B3.out) : g3 ≠ g4); have n_ := Aside0.mk (blk_below B2.out hb); clear B2; have B2 := n_; clear n_; have n_ := Aside0.mk (blk_below B3.out hb); clear B3; have B3 := n_; clear n_; have B4 := Aside0.mk hbox; clear hb hbox hg) | ((with_reducible refine gate_dst (N := 5) rfl ?_); refine boxS 5 #[.string (⟨#[]⟩ : ByteArray)] 103 ?_; intro g5 hg W5 hbox hb; have HB5 := Aside0.mk (below_step HB4.out hb); have L5 := Aside0.mk (by rw [hg]; exact HB4.out.size : w.heap.size ≤ g5); have NE2_5 := Aside0.mk (by rw [hg]; exact Nat.ne_of_lt (blk_lt B2.out) : g2 ≠ g5); have NE3_5 := Aside0.mk (by rw [hg]; exact Nat.ne_of_lt (blk_lt B3.out) : g3 ≠ g5); have NE4_5 := Aside0.mk (by rw [hg]; exact Nat.ne_of_lt (blk_lt B4.out) : g4 ≠ g5); have n_ := Aside0.mk (blk_below B2.out hb); clear B2; have B2 := n_; clear n_; have n_ := Aside0.mk (blk_below B3.out hb); clear B3; have B3 := n_; clear n_; have n_ := Aside0.mk (blk_below B4.out hb); clear B4; have B4 := n_; clear n_; have B5 := Aside0.mk hbox; clear hb hbox hg; have hc5 : W5.cell? ⟨g5, 0, none⟩ = some (.string (⟨#[]⟩ : ByteArray)) := (blk_cell B5.out 0).trans rfl; have hf5 := blk_frozen B5.out 0) | ((with_reducible refine gate_callee (f := 91) rfl ?_); refine goesP (some 15) Tryz.func91 #[.pointer (some ⟨g5, 0, none⟩)] ?_; (with_reducible refine (first_empty g5 w _ ?side1 ?side2).mono ?_); (case side1 => exact (show IsS103 w (W5.setCell ⟨g5, 0, none⟩ (.string (⟨#[]⟩ : ByteArray))) g5 ⟨#[]⟩ from ⟨by simpa using blk_set B5.out 0 (.string (⟨#[]⟩ : ByteArray)), L5.out⟩)); (case side2 => exact below_set HB5.out L5.out); rintro e wC ⟨rfl, hb, hk⟩; refine ⟨_, rfl, ?_⟩; have n_ := Aside0.mk (KeepBut.blk hk (g' := g2) (o := .cells #[.pointer none] 91 (0, 0)) (blk_far B2.out NE2_5.out _) NE2_5.out (by simp)); clear B2; have B2 := n_; clear n_; have n_ := Aside0.mk (KeepBut.blk hk (g' := g3) (o := .cells #[.int .i64 0] 3 (0, 0)) (blk_far B3.out NE3_5.out _) NE3_5.out (by simp)); clear B3; have B3 := n_; clear n_; have n_ := Aside0.mk (KeepBut.blk hk (g' := g4) (o := .cells #[.int .i64 0] 26 (0, 0)) (blk_far B4.out NE4_5.out _) NE4_5.out (by simp)); clear B4; have B4 := n_; clear n_; have HBC := Aside0.mk hb; clear hb hk))
  unfold logChain
  refine leaves_cons (f := 90) (args := #[.pointer (some ⟨g2, 0, none⟩), .pointer (some ⟨g3, 0, none⟩), .pointer (some ⟨g4, 0, none⟩)]) (by simp) (by simp [go_sem]) ?_
  refine (open_closure g2 g3 g4 _ _ _ [] _ B2.out B3.out B4.out NE2_3.out NE2_4.out NE3_4.out).mono ?_
  rintro e u' w'' ⟨rfl, rfl, w1, hb, rfl⟩
  have b2 := blk_below B2.out hb
  have b3 := blk_below B3.out hb
  have b4 := blk_below B4.out hb
  have c2 : (((w1.setCell ⟨g2, 0, none⟩ (.pointer none)).setCell ⟨g3, 0, none⟩ (.int .i64 0)).setCell ⟨g4, 0, none⟩ (.int .i64 290)).heap[g2]? = some (.cells #[.pointer none] 91 (0, 0)) := blk_far (blk_far (blk_put b2 0 _ rfl) NE2_3.out _) NE2_4.out _
  have c3 : (((w1.setCell ⟨g2, 0, none⟩ (.pointer none)).setCell ⟨g3, 0, none⟩ (.int .i64 0)).setCell ⟨g4, 0, none⟩ (.int .i64 290)).heap[g3]? = some (.cells #[.int .i64 0] 3 (0, 0)) := blk_far (blk_put (blk_far b3 (Ne.symm NE2_3.out) _) 0 _ rfl) NE3_4.out _
  have c4 : (((w1.setCell ⟨g2, 0, none⟩ (.pointer none)).setCell ⟨g3, 0, none⟩ (.int .i64 0)).setCell ⟨g4, 0, none⟩ (.int .i64 290)).heap[g4]? = some (.cells #[.int .i64 290] 26 (0, 0)) := blk_put (blk_far (blk_far b4 (Ne.symm NE2_4.out) _) (Ne.symm NE3_4.out) _) 0 _ rfl
  have hfin : Below w.heap.size w (((w1.setCell ⟨g2, 0, none⟩ (.pointer none)).setCell ⟨g3, 0, none⟩ (.int .i64 0)).setCell ⟨g4, 0, none⟩ (.int .i64 290)) := below_set (below_set (below_set (below_step HBC.out hb) L2.out) L3.out) L4.out
  generalize (((w1.setCell ⟨g2, 0, none⟩ (.pointer none)).setCell ⟨g3, 0, none⟩ (.int .i64 0)).setCell ⟨g4, 0, none⟩ (.int .i64 290)) = W2 at c2 c3 c4 hfin ⊢
  have e0 : W2.cell? ⟨g2, 0, none⟩ = some (.pointer none) := (blk_cell c2 0).trans rfl
  have e3 : W2.cell? ⟨g3, 0, none⟩ = some (.int .i64 0) := (blk_cell c3 0).trans rfl
  have e4 : W2.cell? ⟨g4, 0, none⟩ = some (.int .i64 290) := (blk_cell c4 0).trans rfl
  simp [Leaves, settle, results, Tryz.results31, go_sem, e0, e3, e4]
  exact hfin
end Go.Proofs.J.Print
end
section
namespace Go.Proofs.J.Print
open Go.RowKit Go.Proofs.PrintWords Go.Proofs.PrintLast Go.Proofs.PrintMore
set_option maxHeartbeats 8000000 in
set_option maxRecDepth 100000 in
theorem num_calls (n : Int) (w : World) : Calls Tryz.prog 29 #[.int .i64 n] w fun e w' => e = .returned (.agg #[.int .i8 1, .int .i64 n, .string (⟨#[]⟩ : ByteArray)]) ∧ Below w.heap.size w w' := by
  have hu85 := Tryz.underlying85
  have HB1 := Aside0.mk (Below.refl w.heap.size w)
  go_enter Tryz.func29, Tryz.ntmps29
  go_wp2_with (first | ((with_reducible refine gate_dst (N := 2) rfl ?_); refine boxS 2 #[.int .i8 0, .int .i64 0, .string (⟨#[]⟩ : ByteArray)] 85 ?_; intro g2 hg W2 hbox hb; have HB2 := Aside0.mk (below_step HB1.out hb); have L2 := Aside0.mk (by rw [hg]; exact HB1.out.size : w.heap.size ≤ g2); have B2 := Aside0.mk hbox; clear hb hbox hg; have hc0 : W2.cell? ⟨g2, 0, none⟩ = some (.int .i8 0) := (blk_cell B2.out 0).trans rfl; have hc1 : W2.cell? ⟨g2, 1, none⟩ = some (.int .i64 0) := (blk_cell B2.out 1).trans rfl; have hc2 : W2.cell? ⟨g2, 2, none⟩ = some (.string (⟨#[]⟩ : ByteArray)) := (blk_cell B2.out 2).trans rfl; have hf0 := blk_frozen B2.out 0; have hf1 := blk_frozen B2.out 1; have hf2 := blk_frozen B2.out 2))
  refine bodyPost_ret (results_cell1 rfl _ _ g2 85 #[.int .i8 1, .int .i64 n, .string (⟨#[]⟩ : ByteArray)] (0, 0) _ rfl (by refine blk_put (cs := #[.int .i8 1, .int .i64 n, .string (⟨#[]⟩ : ByteArray)]) ?_ 2 _ rfl; refine blk_put (cs := #[.int .i8 1, .int .i64 0, .string (⟨#[]⟩ : ByteArray)]) ?_ 1 _ rfl; refine blk_put (cs := #[.int .i8 0, .int .i64 0, .string (⟨#[]⟩ : ByteArray)]) ?_ 0 _ rfl; exact B2.out) Tryz.underlying85 rfl (by kernel_rfl)) rfl ?_
  exact ⟨rfl, below_set (below_set (below_set HB2.out L2.out) L2.out) L2.out⟩
set_option maxHeartbeats 8000000 in
set_option maxRecDepth 100000 in
theorem word_calls (s : ByteArray) (w : World) : Calls Tryz.prog 30 #[.string s] w fun e w' => e = .returned (.agg #[.int .i8 2, .int .i64 0, .string s]) ∧ Below w.heap.size w w' := by
  have hu85 := Tryz.underlying85
  have HB1 := Aside0.mk (Below.refl w.heap.size w)
  go_enter Tryz.func30, Tryz.ntmps30
  go_wp2_with (first | ((with_reducible refine gate_dst (N := 2) rfl ?_); refine boxS 2 #[.int .i8 0, .int .i64 0, .string (⟨#[]⟩ : ByteArray)] 85 ?_; intro g2 hg W2 hbox hb; have HB2 := Aside0.mk (below_step HB1.out hb); have L2 := Aside0.mk (by rw [hg]; exact HB1.out.size : w.heap.size ≤ g2); have B2 := Aside0.mk hbox; clear hb hbox hg; have hc0 : W2.cell? ⟨g2, 0, none⟩ = some (.int .i8 0) := (blk_cell B2.out 0).trans rfl; have hc1 : W2.cell? ⟨g2, 1, none⟩ = some (.int .i64 0) := (blk_cell B2.out 1).trans rfl; have hc2 : W2.cell? ⟨g2, 2, none⟩ = some (.string (⟨#[]⟩ : ByteArray)) := (blk_cell B2.out 2).trans rfl; have hf0 := blk_frozen B2.out 0; have hf1 := blk_frozen B2.out 1; have hf2 := blk_frozen B2.out 2))
  refine bodyPost_ret (results_cell1 rfl _ _ g2 85 #[.int .i8 2, .int .i64 0, .string s] (0, 0) _ rfl (by refine blk_put (cs := #[.int .i8 2, .int .i64 0, .string (⟨#[]⟩ : ByteArray)]) ?_ 2 _ rfl; refine blk_put (cs := #[.int .i8 2, .int .i64 0, .string (⟨#[]⟩ : ByteArray)]) ?_ 1 _ rfl; refine blk_put (cs := #[.int .i8 0, .int .i64 0, .string (⟨#[]⟩ : ByteArray)]) ?_ 0 _ rfl; exact B2.out) Tryz.underlying85 rfl (by kernel_rfl)) rfl ?_
  exact ⟨rfl, below_set (below_set (below_set HB2.out L2.out) L2.out) L2.out⟩
end Go.Proofs.J.Print
end
section
namespace Go.Proofs.J.Print
open Go.RowKit Go.Proofs.PrintWords Go.Proofs.PrintLast Go.Proofs.PrintMore
def journal_put_uint64.l0 : Nat → List Int → Int → Int → Int → Option (List Int)
 | 0, _, _, _, _ => none
 | k + 1, x0, x1, x7, x8 => if x8 < x7 then (if x0.length < 140737488355328 then (journal_put_uint64.l0 k (x0 ++ [(x1) % 256]) (x1 / 256) x7 (wrap64 (x8 + 1))) else (none)) else (some x0)
def journal_put_uint64.f (k : Nat) (l0 : List Int) (a1 : Int) (a2 : Int) : Option (List Int) := journal_put_uint64.l0 k l0 a1 a2 0
set_option maxHeartbeats 8000000 in
set_option maxRecDepth 100000 in
theorem journal_put_uint64.calls (k : Nat) (P0_ : Nat → Prop) (u9000_ : Value) (l0 : List Int) (a1 : Int) (a2 : Int) (r : List Int) (w0 w : World) (hB : Below w0.heap.size w0 w) (ho0 : Kd.R (Kd.int .u8) 5 w w0.heap.size P0_ u9000_ l0) (h : journal_put_uint64.f k l0 a1 a2 = some r) :
  Calls Tryz.prog 25 #[u9000_, .int .u64 a1, .int .i64 a2] w fun e w' => ∃ v0_ : Value, e = .returned (v0_) ∧ Kd.R (Kd.int .u8) 5 w' w0.heap.size (fun k_ => (P0_ k_ ∨ w.heap.size ≤ k_)) v0_ r ∧ Below w0.heap.size w0 w' ∧ Kept w w' (fun k_ => P0_ k_) := by
 have HO0 := Aside0.mk (show Kd.R (Kd.int .u8) 5 w w0.heap.size (fun k_ => (P0_ k_ ∨ w.heap.size ≤ k_)) u9000_ l0 from Kd.R_mono ho0 (fun k_ hk => (.inl hk)))
 have HK := Aside0.mk (Kept.refl w (fun k_ => P0_ k_))
 have HW0 := Aside0.mk hB.size
 have HB := Aside0.mk hB
 clear hB
 have H : (journal_put_uint64.l0 k l0 a1 a2 0) = some r := h
 clear h
 have H' := Aside0.mk H
 clear H
 go_enter Tryz.func25, Tryz.ntmps25
 go_wp2
 go_loopg [0, 1, 8] k (fun kq v0 v1 v8 w' => ∃ (x0_1 : List Int) (x1_1 : Int) (x8_1 : Int), v1 = .int .u64 x1_1 ∧ v8 = .int .i64 x8_1 ∧ Aside0 (journal_put_uint64.l0 kq x0_1 x1_1 a2 x8_1 = some r) ∧ Aside0 (kq ≤ k) ∧ Aside0 (Kd.R (Kd.int .u8) 5 w' w0.heap.size (fun k_ => (P0_ k_ ∨ w.heap.size ≤ k_)) v0 x0_1) ∧ Aside0 (Kept w w' (fun k_ => P0_ k_)) ∧ Aside0 (Below w0.heap.size w0 w'))
 case atStart => exact ⟨(l0), (a1), (0), eqS, eqS, H', ⟨Nat.le_refl _⟩, ⟨upR HO0.out⟩, ⟨by repeat (first | (with_reducible first | exact HK.out | apply Kept.alloc | apply Kept.drewN | apply Kept.drew) | exact HK.out)⟩, ⟨upB HB.out⟩⟩
 case round =>
  clear H'
  try clear c2
  try clear p2
  obtain ⟨x0_1, x1_1, x8_1, rfl, rfl, HA, HK1, HO_0, HK, HB⟩ := hrel
  cases gk with
  | zero => exact absurd HA.out (by simp [journal_put_uint64.l0])
  | succ k1 =>
   have H := HA.out
   clear HA
   simp only [journal_put_uint64.l0] at H
   by_cases c4 : x8_1 < a2
   ·rw [if_pos c4] at H
    have c4b0 := decide_eq_true c4
    clear c4
    by_cases c5 : x0_1.length < 140737488355328
    ·rw [if_pos c5] at H
     have LMc5 := Aside0.mk c5
     clear c5
     obtain ⟨y250, hy250⟩ : ∃ y_ : List Int, y_ = (x0_1 ++ [(x1_1) % 256]) := ⟨_, rfl⟩
     replace H : (journal_put_uint64.l0 k1 y250 (x1_1 / 256) a2 (wrap64 (x8_1 + 1))) = some r := by first | (rw [hy250]; with_reducible exact H) | (have H2_ := (Option.bind_some _ _).symm.trans H; rw [hy250]; with_reducible exact H2_) | (have H2_ := (Option.bind_some _ _).symm.trans H; with_reducible exact H2_) | with_reducible exact H | (rw [hy250]; exact H) | exact H
     have Ny250 := Aside0.mk hy250
     clear hy250
     have H' := Aside0.mk H
     clear H
     go_wp2_with (first | ((with_reducible refine gate_builtin (b := .append) (xs := #[.tmp 10, .tmp 13]) rfl ?_); at_builtin; refine Kd.R_append (Kd.int .u8) (w0 := w0) w0.heap.size rfl (.tmp 10) (.tmp 13) 78 5 (.int .u8 0) 1 rfl Tryz.underlying78 info5 rfl (by decide) (by omega) u0 x0_1 ((x1_1) % 256) [.int .u8 ((x1_1) % 256)] (fun k_ => (P0_ k_ ∨ w.heap.size ≤ k_)) (fun _ => False) rfl rfl ?aP (fun _ hk => hk.elim) ?aF ?aO ?aB ?aS ?aL ?_; (case aP => exact rfl); (case aB => exact (upB HB.out)); (case aF => exact (fun k_ hk => (.inr (Nat.le_trans (by first | exact HK.out.1 | exact (show Kept w _ (fun k_ => P0_ k_) from by repeat (first | (with_reducible first | exact HK.out | apply Kept.alloc | apply Kept.drewN | apply Kept.drew) | exact HK.out)).1) hk)))); (case aO => exact (upR HO_0.out)); (case aS => exact (below_size (upB HB.out))); (case aL => have := LMc5.out; omega); intro v251 w6 ho hb hg hat; rw [← Ny250.out] at ho; have n0_ := Aside0.mk (hb); have n1_ := Aside0.mk (Kept.of_grown (S := (fun k_ => P0_ k_)) hg (by repeat (first | (with_reducible first | exact HK.out | apply Kept.alloc | apply Kept.drewN | apply Kept.drew) | exact HK.out)) (fun k_ e_ => (HO_0.out.1 k_ e_))); have n2_ := Aside0.mk (ho); clear HB; clear HK; clear HO_0; have HB := n0_; have HK := n1_; have HO252 := n2_; clear n0_ n1_ n2_; clear ho hb hg hat))
     go_roundg k1
     case measure => have := HK1.out; omega
     case rel => exact ⟨(y250), (x1_1 / 256), (wrap64 (x8_1 + 1)), eqS, eqS, H', ⟨by have := HK1.out; omega⟩, ⟨upR HO252.out⟩, ⟨by repeat (first | (with_reducible first | exact HK.out | apply Kept.alloc | apply Kept.drewN | apply Kept.drew) | exact HK.out)⟩, ⟨upB HB.out⟩⟩
    ·rw [if_neg c5] at H
     exact absurd H (by simp)
   ·rw [if_neg c4] at H
    have c4b0 := decide_eq_false c4
    clear c4
    obtain rfl := Option.some.inj H
    go_wp2
    go_ret
    exact ⟨_, eqE, upR HO_0.out, upB HB.out, by repeat (first | (with_reducible first | exact HK.out | apply Kept.alloc | apply Kept.drewN | apply Kept.drew) | exact HK.out)⟩
end Go.Proofs.J.Print
end
section
namespace Go.Proofs.J.Print
open Go.RowKit Go.Proofs.PrintWords Go.Proofs.PrintLast Go.Proofs.PrintMore
def journal_put_uint32.l0 : Nat → List Int → Int → Int → Int → Option (List Int)
 | 0, _, _, _, _ => none
 | k + 1, x0, x1, x7, x8 => if x8 < x7 then (if x0.length < 140737488355328 then (journal_put_uint32.l0 k (x0 ++ [(x1) % 256]) (((IntKind.u64.wrap (x1)) / 256) % 4294967296) x7 (wrap64 (x8 + 1))) else (none)) else (some x0)
def journal_put_uint32.f (k : Nat) (l0 : List Int) (a1 : Int) (a2 : Int) : Option (List Int) := journal_put_uint32.l0 k l0 a1 a2 0
set_option maxHeartbeats 8000000 in
set_option maxRecDepth 100000 in
theorem journal_put_uint32.calls (k : Nat) (P0_ : Nat → Prop) (u9000_ : Value) (l0 : List Int) (a1 : Int) (a2 : Int) (r : List Int) (w0 w : World) (hB : Below w0.heap.size w0 w) (ho0 : Kd.R (Kd.int .u8) 5 w w0.heap.size P0_ u9000_ l0) (h : journal_put_uint32.f k l0 a1 a2 = some r) :
  Calls Tryz.prog 85 #[u9000_, .int .u32 a1, .int .i64 a2] w fun e w' => ∃ v0_ : Value, e = .returned (v0_) ∧ Kd.R (Kd.int .u8) 5 w' w0.heap.size (fun k_ => (P0_ k_ ∨ w.heap.size ≤ k_)) v0_ r ∧ Below w0.heap.size w0 w' ∧ Kept w w' (fun k_ => P0_ k_) := by
 have HO0 := Aside0.mk (show Kd.R (Kd.int .u8) 5 w w0.heap.size (fun k_ => (P0_ k_ ∨ w.heap.size ≤ k_)) u9000_ l0 from Kd.R_mono ho0 (fun k_ hk => (.inl hk)))
 have HK := Aside0.mk (Kept.refl w (fun k_ => P0_ k_))
 have HW0 := Aside0.mk hB.size
 have HB := Aside0.mk hB
 clear hB
 have H : (journal_put_uint32.l0 k l0 a1 a2 0) = some r := h
 clear h
 have H' := Aside0.mk H
 clear H
 go_enter Tryz.func85, Tryz.ntmps85
 go_wp2
 go_loopg [0, 1, 8] k (fun kq v0 v1 v8 w' => ∃ (x0_1 : List Int) (x1_1 : Int) (x8_1 : Int), v1 = .int .u32 x1_1 ∧ v8 = .int .i64 x8_1 ∧ Aside0 (journal_put_uint32.l0 kq x0_1 x1_1 a2 x8_1 = some r) ∧ Aside0 (kq ≤ k) ∧ Aside0 (Kd.R (Kd.int .u8) 5 w' w0.heap.size (fun k_ => (P0_ k_ ∨ w.heap.size ≤ k_)) v0 x0_1) ∧ Aside0 (Kept w w' (fun k_ => P0_ k_)) ∧ Aside0 (Below w0.heap.size w0 w'))
 case atStart => exact ⟨(l0), (a1), (0), eqS, eqS, H', ⟨Nat.le_refl _⟩, ⟨upR HO0.out⟩, ⟨by repeat (first | (with_reducible first | exact HK.out | apply Kept.alloc | apply Kept.drewN | apply Kept.drew) | exact HK.out)⟩, ⟨upB HB.out⟩⟩
 case round =>
  clear H'
  try clear p2
  obtain ⟨x0_1, x1_1, x8_1, rfl, rfl, HA, HK1, HO_0, HK, HB⟩ := hrel
  cases gk with
  | zero => exact absurd HA.out (by simp [journal_put_uint32.l0])
  | succ k1 =>
   have H := HA.out
   clear HA
   simp only [journal_put_uint32.l0] at H
   by_cases c4 : x8_1 < a2
   ·rw [if_pos c4] at H
    have c4b0 := decide_eq_true c4
    clear c4
    by_cases c5 : x0_1.length < 140737488355328
    ·rw [if_pos c5] at H
     have LMc5 := Aside0.mk c5
     clear c5
     obtain ⟨y253, hy253⟩ : ∃ y_ : List Int, y_ = (x0_1 ++ [(x1_1) % 256]) := ⟨_, rfl⟩
     replace H : (journal_put_uint32.l0 k1 y253 (((IntKind.u64.wrap (x1_1)) / 256) % 4294967296) a2 (wrap64 (x8_1 + 1))) = some r := by first | (rw [hy253]; with_reducible exact H) | (have H2_ := (Option.bind_some _ _).symm.trans H; rw [hy253]; with_reducible exact H2_) | (have H2_ := (Option.bind_some _ _).symm.trans H; with_reducible exact H2_) | with_reducible exact H | (rw [hy253]; exact H) | exact H
     have Ny253 := Aside0.mk hy253
     clear hy253
     have H' := Aside0.mk H
     clear H
     go_wp2_with (first | ((with_reducible refine gate_builtin (b := .append) (xs := #[.tmp 10, .tmp 13]) rfl ?_); at_builtin; refine Kd.R_append (Kd.int .u8) (w0 := w0) w0.heap.size rfl (.tmp 10) (.tmp 13) 78 5 (.int .u8 0) 1 rfl Tryz.underlying78 info5 rfl (by decide) (by omega) u0 x0_1 ((x1_1) % 256) [.int .u8 ((x1_1) % 256)] (fun k_ => (P0_ k_ ∨ w.heap.size ≤ k_)) (fun _ => False) rfl rfl ?aP (fun _ hk => hk.elim) ?aF ?aO ?aB ?aS ?aL ?_; (case aP => exact rfl); (case aB => exact (upB HB.out)); (case aF => exact (fun k_ hk => (.inr (Nat.le_trans (by first | exact HK.out.1 | exact (show Kept w _ (fun k_ => P0_ k_) from by repeat (first | (with_reducible first | exact HK.out | apply Kept.alloc | apply Kept.drewN | apply Kept.drew) | exact HK.out)).1) hk)))); (case aO => exact (upR HO_0.out)); (case aS => exact (below_size (upB HB.out))); (case aL => have := LMc5.out; omega); intro v254 w6 ho hb hg hat; rw [← Ny253.out] at ho; have n0_ := Aside0.mk (hb); have n1_ := Aside0.mk (Kept.of_grown (S := (fun k_ => P0_ k_)) hg (by repeat (first | (with_reducible first | exact HK.out | apply Kept.alloc | apply Kept.drewN | apply Kept.drew) | exact HK.out)) (fun k_ e_ => (HO_0.out.1 k_ e_))); have n2_ := Aside0.mk (ho); clear HB; clear HK; clear HO_0; have HB := n0_; have HK := n1_; have HO255 := n2_; clear n0_ n1_ n2_; clear ho hb hg hat))
     go_roundg k1
     case measure => have := HK1.out; omega
     case rel => exact ⟨(y253), (((IntKind.u64.wrap (x1_1)) / 256) % 4294967296), (wrap64 (x8_1 + 1)), eqS, eqS, H', ⟨by have := HK1.out; omega⟩, ⟨upR HO255.out⟩, ⟨by repeat (first | (with_reducible first | exact HK.out | apply Kept.alloc | apply Kept.drewN | apply Kept.drew) | exact HK.out)⟩, ⟨upB HB.out⟩⟩
    ·rw [if_neg c5] at H
     exact absurd H (by simp)
   ·rw [if_neg c4] at H
    have c4b0 := decide_eq_false c4
    clear c4
    obtain rfl := Option.some.inj H
    go_wp2
    go_ret
    exact ⟨_, eqE, upR HO_0.out, upB HB.out, by repeat (first | (with_reducible first | exact HK.out | apply Kept.alloc | apply Kept.drewN | apply Kept.drew) | exact HK.out)⟩
end Go.Proofs.J.Print
end
section
namespace Go.Proofs.J.Print
open Go.RowKit Go.Proofs.PrintWords Go.Proofs.PrintLast Go.Proofs.PrintMore
def journal_put_uint8.l0 : Nat → List Int → Int → Int → Int → Option (List Int)
 | 0, _, _, _, _ => none
 | k + 1, x0, x1, x7, x8 => if x8 < x7 then (if x0.length < 140737488355328 then (journal_put_uint8.l0 k (x0 ++ [x1]) (((IntKind.u64.wrap (x1)) / 256) % 256) x7 (wrap64 (x8 + 1))) else (none)) else (some x0)
def journal_put_uint8.f (k : Nat) (l0 : List Int) (a1 : Int) (a2 : Int) : Option (List Int) := journal_put_uint8.l0 k l0 a1 a2 0
set_option maxHeartbeats 8000000 in
set_option maxRecDepth 100000 in
theorem journal_put_uint8.calls (k : Nat) (P0_ : Nat → Prop) (u9000_ : Value) (l0 : List Int) (a1 : Int) (a2 : Int) (r : List Int) (w0 w : World) (hB : Below w0.heap.size w0 w) (ho0 : Kd.R (Kd.int .u8) 5 w w0.heap.size P0_ u9000_ l0) (h : journal_put_uint8.f k l0 a1 a2 = some r) :
  Calls Tryz.prog 86 #[u9000_, .int .u8 a1, .int .i64 a2] w fun e w' => ∃ v0_ : Value, e = .returned (v0_) ∧ Kd.R (Kd.int .u8) 5 w' w0.heap.size (fun k_ => (P0_ k_ ∨ w.heap.size ≤ k_)) v0_ r ∧ Below w0.heap.size w0 w' ∧ Kept w w' (fun k_ => P0_ k_) := by
 have HO0 := Aside0.mk (show Kd.R (Kd.int .u8) 5 w w0.heap.size (fun k_ => (P0_ k_ ∨ w.heap.size ≤ k_)) u9000_ l0 from Kd.R_mono ho0 (fun k_ hk => (.inl hk)))
 have HK := Aside0.mk (Kept.refl w (fun k_ => P0_ k_))
 have HW0 := Aside0.mk hB.size
 have HB := Aside0.mk hB
 clear hB
 have H : (journal_put_uint8.l0 k l0 a1 a2 0) = some r := h
 clear h
 have H' := Aside0.mk H
 clear H
 go_enter Tryz.func86, Tryz.ntmps86
 go_wp2
 go_loopg [0, 1, 8] k (fun kq v0 v1 v8 w' => ∃ (x0_1 : List Int) (x1_1 : Int) (x8_1 : Int), v1 = .int .u8 x1_1 ∧ v8 = .int .i64 x8_1 ∧ Aside0 (journal_put_uint8.l0 kq x0_1 x1_1 a2 x8_1 = some r) ∧ Aside0 (kq ≤ k) ∧ Aside0 (Kd.R (Kd.int .u8) 5 w' w0.heap.size (fun k_ => (P0_ k_ ∨ w.heap.size ≤ k_)) v0 x0_1) ∧ Aside0 (Kept w w' (fun k_ => P0_ k_)) ∧ Aside0 (Below w0.heap.size w0 w'))
 case atStart => exact ⟨(l0), (a1), (0), eqS, eqS, H', ⟨Nat.le_refl _⟩, ⟨upR HO0.out⟩, ⟨by repeat (first | (with_reducible first | exact HK.out | apply Kept.alloc | apply Kept.drewN | apply Kept.drew) | exact HK.out)⟩, ⟨upB HB.out⟩⟩
 case round =>
  clear H'
  try clear p2
  obtain ⟨x0_1, x1_1, x8_1, rfl, rfl, HA, HK1, HO_0, HK, HB⟩ := hrel
  cases gk with
  | zero => exact absurd HA.out (by simp [journal_put_uint8.l0])
  | succ k1 =>
   have H := HA.out
   clear HA
   simp only [journal_put_uint8.l0] at H
   by_cases c4 : x8_1 < a2
   ·rw [if_pos c4] at H
    have c4b0 := decide_eq_true c4
    clear c4
    by_cases c5 : x0_1.length < 140737488355328
    ·rw [if_pos c5] at H
     have LMc5 := Aside0.mk c5
     clear c5
     obtain ⟨y256, hy256⟩ : ∃ y_ : List Int, y_ = (x0_1 ++ [x1_1]) := ⟨_, rfl⟩
     replace H : (journal_put_uint8.l0 k1 y256 (((IntKind.u64.wrap (x1_1)) / 256) % 256) a2 (wrap64 (x8_1 + 1))) = some r := by first | (rw [hy256]; with_reducible exact H) | (have H2_ := (Option.bind_some _ _).symm.trans H; rw [hy256]; with_reducible exact H2_) | (have H2_ := (Option.bind_some _ _).symm.trans H; with_reducible exact H2_) | with_reducible exact H | (rw [hy256]; exact H) | exact H
     have Ny256 := Aside0.mk hy256
     clear hy256
     have H' := Aside0.mk H
     clear H
     go_wp2_with (first | ((with_reducible refine gate_builtin (b := .append) (xs := #[.tmp 10, .tmp 12]) rfl ?_); at_builtin; refine Kd.R_append (Kd.int .u8) (w0 := w0) w0.heap.size rfl (.tmp 10) (.tmp 12) 78 5 (.int .u8 0) 1 rfl Tryz.underlying78 info5 rfl (by decide) (by omega) u0 x0_1 x1_1 [.int .u8 x1_1] (fun k_ => (P0_ k_ ∨ w.heap.size ≤ k_)) (fun _ => False) rfl rfl ?aP (fun _ hk => hk.elim) ?aF ?aO ?aB ?aS ?aL ?_; (case aP => exact rfl); (case aB => exact (upB HB.out)); (case aF => exact (fun k_ hk => (.inr (Nat.le_trans (by first | exact HK.out.1 | exact (show Kept w _ (fun k_ => P0_ k_) from by repeat (first | (with_reducible first | exact HK.out | apply Kept.alloc | apply Kept.drewN | apply Kept.drew) | exact HK.out)).1) hk)))); (case aO => exact (upR HO_0.out)); (case aS => exact (below_size (upB HB.out))); (case aL => have := LMc5.out; omega); intro v257 w6 ho hb hg hat; rw [← Ny256.out] at ho; have n0_ := Aside0.mk (hb); have n1_ := Aside0.mk (Kept.of_grown (S := (fun k_ => P0_ k_)) hg (by repeat (first | (with_reducible first | exact HK.out | apply Kept.alloc | apply Kept.drewN | apply Kept.drew) | exact HK.out)) (fun k_ e_ => (HO_0.out.1 k_ e_))); have n2_ := Aside0.mk (ho); clear HB; clear HK; clear HO_0; have HB := n0_; have HK := n1_; have HO258 := n2_; clear n0_ n1_ n2_; clear ho hb hg hat))
     go_roundg k1
     case measure => have := HK1.out; omega
     case rel => exact ⟨(y256), (((IntKind.u64.wrap (x1_1)) / 256) % 256), (wrap64 (x8_1 + 1)), eqS, eqS, H', ⟨by have := HK1.out; omega⟩, ⟨upR HO258.out⟩, ⟨by repeat (first | (with_reducible first | exact HK.out | apply Kept.alloc | apply Kept.drewN | apply Kept.drew) | exact HK.out)⟩, ⟨upB HB.out⟩⟩
    ·rw [if_neg c5] at H
     exact absurd H (by simp)
   ·rw [if_neg c4] at H
    have c4b0 := decide_eq_false c4
    clear c4
    obtain rfl := Option.some.inj H
    go_wp2
    go_ret
    exact ⟨_, eqE, upR HO_0.out, upB HB.out, by repeat (first | (with_reducible first | exact HK.out | apply Kept.alloc | apply Kept.drewN | apply Kept.drew) | exact HK.out)⟩
end Go.Proofs.J.Print
end
