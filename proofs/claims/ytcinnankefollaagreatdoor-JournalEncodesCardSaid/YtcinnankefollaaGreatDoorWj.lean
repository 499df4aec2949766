/- On the way to the law 'JournalEncodes': what the functions that it reaches compute, step by step, and the plain law (JGn .. JGo). Each theorem states its own conditions. -/
import Derived.Test.YtcinnankefollaaGreatDoorWi
set_option linter.unusedVariables false
set_option linter.unusedSimpArgs false
section
namespace Go.Proofs.J.Print
open Go.RowKit Go.Proofs.PrintWords Go.Proofs.PrintLast Go.Proofs.PrintMore
mutual
def factsP.l0 : Nat → List (S90) → Int → Int → ByteArray → Option (Option ((List (S90)) × ByteArray))
 | 0, _, _, _, _ => none
 | k + 1, x3, x7, x8, x1000 => if x8 < x7 then (bindP (journal_reader_take.f x1000 1) fun bt367 => (if 0 < (bt367.1.size : Int) then (bindP (journal_reader_take.f bt367.2 (wrap64 (bt bt367.1 0))) fun bt369 => (bindP (journal_reader_take.f bt369.2 1) fun bt372 => (if 0 < (bt372.1.size : Int) then (factsP.l1 k x3 x7 x8 (bt bt372.1 0) 0 bt372.2 bt369.1 ([] : List (S85))) else (none)))) else (none))) else ((journal_rising.f k x3).bind fun t366 => (if t366 = true then (some (some (x3, x1000))) else (some none)))
def factsP.l1 : Nat → List (S90) → Int → Int → Int → Int → ByteArray → ByteArray → List (S85) → Option (Option ((List (S90)) × ByteArray))
 | 0, _, _, _, _, _, _, _, _ => none
 | k + 1, x3, x7, x8, x19, x20, x1000, x372000, x372001 => if x20 < x19 then (bindP (journal_reader_take.f x1000 1) fun bt377 => (if bt377.1.toList = ([78] : List UInt8) then (bindP (journal_reader_take.f bt377.2 8) fun bt379 => ((journal_get_uint64.f k bt379.1 8).bind fun t381 => (if x372001.length < 4398046511104 then (factsP.l1 k x3 x7 x8 x19 ((x20 + 1) % 256) bt379.2 x372000 (x372001 ++ [(⟨1, wrap64 (t381), (⟨#[]⟩ : ByteArray)⟩ : S85)])) else (none)))) else (if bt377.1.toList = ([84] : List UInt8) then (bindP (journal_reader_take.f bt377.2 1) fun bt385 => (if 0 < (bt385.1.size : Int) then (bindP (journal_reader_take.f bt385.2 (wrap64 (bt bt385.1 0))) fun bt387 => (if x372001.length < 4398046511104 then (factsP.l1 k x3 x7 x8 x19 ((x20 + 1) % 256) bt387.2 x372000 (x372001 ++ [(⟨2, 0, bt387.1⟩ : S85)])) else (none))) else (none))) else (some none)))) else (if x3.length < 3518437208883 then (factsP.l0 k (x3 ++ [(⟨x372000, x372001⟩ : S90)]) x7 ((x8 + 1) % 4294967296) x1000) else (none))
end
def factsP.f (k : Nat) (s0_0 : ByteArray) : Option (Option ((List (S90)) × ByteArray)) := bindP (journal_reader_take.f s0_0 4) fun bt363 => ((journal_get_uint32.f k bt363.1 4).bind fun t365 => (factsP.l0 k ([] : List (S90)) t365 0 bt363.2))
def factsP.T10 : Bool × List (List Nat × List Nat) := (true, [([], []), ([0], [0]), ([], []), ([2], [2]), ([3, 3], [3]), ([4], [4]), ([5], [5]), ([6], [6]), ([1, 7, 4], [1, 7]), ([0, 1, 2, 3, 4, 5, 6, 7, 8], []), ([9, 8, 8, 0, 1, 2, 3, 4, 5, 6, 7, 8], [8, 9])])
def factsP.B10 : List Nat := [0, 1, 0, 4, 12, 28, 60, 124, 255, 511, 1023]
theorem factsP.tab10 : rtab .any (opsOf Tryz.f98 10) = factsP.T10 := by kernel_rfl
theorem factsP.bits10 : waitsOk factsP.T10.2 factsP.B10 = true := by kernel_rfl
def factsP.T12 : Bool × List (List Nat × List Nat) := (true, [([], []), ([0], [0]), ([], []), ([], []), ([3], [3]), ([4], [4]), ([5], [5]), ([2, 6, 4], [2, 6]), ([7], [7]), ([8], [8]), ([1, 9, 7], [1, 9]), ([0, 1, 2, 3, 4, 5, 6, 7, 8, 9, 10], []), ([11, 10, 10, 0, 1, 2, 3, 4, 5, 6, 7, 8, 9, 10], [10, 11])])
def factsP.B12 : List Nat := [0, 1, 0, 0, 8, 24, 56, 124, 252, 508, 1023, 2047, 4095]
theorem factsP.tab12 : rtab .any (opsOf Tryz.f98 12) = factsP.T12 := by kernel_rfl
theorem factsP.bits12 : waitsOk factsP.T12.2 factsP.B12 = true := by kernel_rfl
def EndsF (w0 w : World) (g : Nat) (r : Option (List S90 × ByteArray)) (e : Ending) (w' : World) : Prop :=
 (match r with | some (r1, r2) => ∃ v0_ : Value, e = .returned v0_ ∧ Kd.S k90 90 w' w.heap.size (fun _ => True) v0_ r1 ∧ IsS103 w0 w' g r2 | none => e = .panicked logChain ∧ ∃ s', IsS103 w0 w' g s') ∧ Below w0.heap.size w0 w' ∧ KeepBut w w' g none
theorem take_none {s : ByteArray} {n : Int} (h : journal_reader_take.f s n = none) (hn : 0 ≤ n) : (s.size : Int) < n := by
 unfold journal_reader_take.f at h
 split at h
 ·omega
 ·first | rw [if_pos hn, if_pos (by omega)] at h | rw [if_pos (by omega)] at h
  cases h
theorem bt_nonneg (s : ByteArray) (i : Int) : 0 ≤ wrap64 (bt s i) := by
 have h := bt_range s i
 unfold wrap64
 omega
set_option maxHeartbeats 8000000 in
set_option maxRecDepth 100000 in
theorem factsP.calls (k : Nat) (g : Nat) (s0_0 : ByteArray) (r : Option (List S90 × ByteArray)) (w0 w : World) (hI : IsS103 w0 w g s0_0) (hB : Below w0.heap.size w0 w) (h : factsP.f k s0_0 = some r) :
  Calls Tryz.prog 98 #[.pointer (some ⟨g, 0, none⟩)] w (EndsF w0 w g r) := by
 unfold EndsF
 have hu90 := Tryz.underlying90
 have hu85 := Tryz.underlying85
 have hu128 := Tryz.underlying128
 have HI0 := Aside0.mk hI
 have HK := Aside0.mk (KeepBut.refl w g none)
 have HL := Aside0.mk hB.size
 clear hI
 have HW0 := Aside0.mk hB.size
 have HB := Aside0.mk hB
 clear hB
 have H : (bindP (journal_reader_take.f s0_0 4) fun bt363 => ((journal_get_uint32.f k bt363.1 4).bind fun t365 => (factsP.l0 k ([] : List (S90)) t365 0 bt363.2))) = some r := h
 clear h
 cases A20 : journal_reader_take.f s0_0 4 with
 | none =>
  rw [A20, bindP_none] at H
  simp only [Option.some.injEq] at H
  subst H
  have A2 := Aside0.mk (take_none A20 (by first | omega | exact bt_nonneg _ _))
  clear A20
  go_enter Tryz.func98, Tryz.ntmps98
  go_wp2_with (first | ((with_reducible refine gate_callee (f := 93) rfl ?_); refine goesP (some 6) Tryz.func93 #[.pointer (some ⟨g, 0, none⟩), .int .i64 4] ?_; (with_reducible refine (take_panics g s0_0 4 w0 _ ?side1 A2.out).mono ?_); (case side1 => exact (upI HI0.out)); rintro e w_ ⟨rfl, hw⟩; refine ⟨_, rfl, ?_⟩; subst hw) | ((with_reducible refine gate_callee (f := 93) rfl ?_); refine goesS (some 6) Tryz.func93 #[.pointer (some ⟨g, 0, none⟩), .int .i64 4] ?_; (with_reducible refine (journal_reader_take.calls g s0_0 4 t363 t364 w0 _ ?side1 ?side2 A2.out).mono ?_); (case side1 => exact upI HI0.out); (case side2 => exact upB HB.out); rintro e w4 ⟨rfl, hi, hb, hk⟩; refine ⟨_, rfl, ?_⟩; have n0_ := Aside0.mk (KeepBut.trans (upK HK.out) hk (.inl rfl)); have n1_ := Aside0.mk (hb); have n2_ := Aside0.mk (hi); clear HK; clear HB; clear HI0; have HK := n0_; have HB := n1_; have HI0 := n2_; clear n0_ n1_ n2_; (try clear hb); (try clear hb2); (try clear hk); (try clear hi)) | ((with_reducible refine gate_callee (f := 214) rfl ?_); refine goesS (some 7) Tryz.func214 #[.string t363, .int .i64 4] ?_; (with_reducible refine (journal_get_uint32.calls k t363 4 t365 _ A3.out).mono ?_); rintro e w' ⟨rfl, ⟨nd, rfl⟩⟩; refine ⟨_, rfl, ?_⟩))
  exact ⟨rfl, ⟨rfl, s0_0, (upI HI0.out)⟩, (upB HB.out), (upK HK.out)⟩
 | some p_ =>
 obtain ⟨t363, t364⟩ := p_
 rw [A20, bindP_some] at H
 replace H : ((journal_get_uint32.f k t363 4).bind fun t365 => (factsP.l0 k ([] : List (S90)) t365 0 t364)) = some r := H
 have A2 := Aside0.mk A20
 clear A20
 replace H := Option.bind_eq_some_iff.mp H
 obtain ⟨t365, A30, H⟩ := H
 replace H : (factsP.l0 k ([] : List (S90)) t365 0 t364) = some r := H
 have A3 := Aside0.mk A30
 clear A30
 have H' := Aside0.mk H
 clear H
 go_enter Tryz.func98, Tryz.ntmps98
 go_wp2_with (first | ((with_reducible refine gate_callee (f := 93) rfl ?_); refine goesS (some 6) Tryz.func93 #[.pointer (some ⟨g, 0, none⟩), .int .i64 4] ?_; (with_reducible refine (journal_reader_take.calls g s0_0 4 t363 t364 w0 _ ?side1 ?side2 A2.out).mono ?_); (case side1 => exact upI HI0.out); (case side2 => exact upB HB.out); rintro e w4 ⟨rfl, hi, hb, hk⟩; refine ⟨_, rfl, ?_⟩; have n0_ := Aside0.mk (KeepBut.trans (upK HK.out) hk (.inl rfl)); have n1_ := Aside0.mk (hb); have n2_ := Aside0.mk (hi); clear HK; clear HB; clear HI0; have HK := n0_; have HB := n1_; have HI0 := n2_; clear n0_ n1_ n2_; (try clear hb); (try clear hb2); (try clear hk); (try clear hi)) | ((with_reducible refine gate_callee (f := 214) rfl ?_); refine goesS (some 7) Tryz.func214 #[.string t363, .int .i64 4] ?_; (with_reducible refine (journal_get_uint32.calls k t363 4 t365 _ A3.out).mono ?_); rintro e w' ⟨rfl, ⟨nd, rfl⟩⟩; refine ⟨_, rfl, ?_⟩))
 go_loopg [3, 8] k (fun kq v3 v8 w' => ∃ (x3_1 : List (S90)) (x8_1 : Int) (x1000_1 : ByteArray), v8 = .int .u32 x8_1 ∧ Aside0 (factsP.l0 kq x3_1 t365 x8_1 x1000_1 = some r) ∧ Aside0 (kq ≤ k) ∧ Aside0 (Kd.S k90 90 w' w.heap.size (fun _ => True) v3 x3_1) ∧ Aside0 (IsS103 w0 w' g x1000_1) ∧ Aside0 (KeepBut w w' g none) ∧ Aside0 (Below w0.heap.size w0 w'))
 case atStart => exact ⟨(([] : List (S90))), (0), (t364), eqS, H', ⟨Nat.le_refl _⟩, ⟨by first | exact Kd.S_nil _ _ _ _ _ | exact Kd.N_nil _ _ _ _ _ | exact Kd.V_nil _ _ _ _ _ | exact Kd.Q_nil _ _ _ _ _ | exact Kd.R_nil _ _ _ _ _⟩, ⟨upI HI0.out⟩, ⟨upK HK.out⟩, ⟨upB HB.out⟩⟩
 case round =>
  clear H'
  try clear c2
  try clear p2
  obtain ⟨x3_1, x8_1, x1000_1, rfl, HA, HK1, HO_3, HI0, HK, HB⟩ := hrel
  cases gk with
  | zero => exact absurd HA.out (by simp [factsP.l0])
  | succ k1 =>
   have H := HA.out
   clear HA
   simp only [factsP.l0] at H
   by_cases c5 : x8_1 < t365
   ·rw [if_pos c5] at H
    have c5b0 := decide_eq_true c5
    clear c5
    cases A60 : journal_reader_take.f x1000_1 1 with
    | none =>
     rw [A60, bindP_none] at H
     simp only [Option.some.injEq] at H
     subst H
     have A6 := Aside0.mk (take_none A60 (by first | omega | exact bt_nonneg _ _))
     clear A60
     go_wp2_with (first | ((with_reducible refine gate_callee (f := 93) rfl ?_); refine goesP (some 12) Tryz.func93 #[.pointer (some ⟨g, 0, none⟩), .int .i64 1] ?_; (with_reducible refine (take_panics g x1000_1 1 w0 _ ?side1 A6.out).mono ?_); (case side1 => exact (upI HI0.out)); rintro e w_ ⟨rfl, hw⟩; refine ⟨_, rfl, ?_⟩; subst hw) | ((with_reducible refine gate_callee (f := 93) rfl ?_); refine goesS (some 12) Tryz.func93 #[.pointer (some ⟨g, 0, none⟩), .int .i64 1] ?_; (with_reducible refine (journal_reader_take.calls g x1000_1 1 t367 t368 w0 _ ?side1 ?side2 A6.out).mono ?_); (case side1 => exact upI HI0.out); (case side2 => exact upB HB.out); rintro e w13 ⟨rfl, hi, hb, hk⟩; refine ⟨_, rfl, ?_⟩; have n0_ := Aside0.mk (Kd.S_mono (Kd.S_keep (IsS103.apartS (show IsS103 w0 _ g x1000_1 from upI HI0.out) (upS HO_3.out) (by decide)) hk (fun _ h => h.2)) (fun _ h => h.1)); have n1_ := Aside0.mk (KeepBut.trans (upK HK.out) hk (.inl rfl)); have n2_ := Aside0.mk (hb); have n3_ := Aside0.mk (hi); clear HO_3; clear HK; clear HB; clear HI0; have HO_3 := n0_; have HK := n1_; have HB := n2_; have HI0 := n3_; clear n0_ n1_ n2_ n3_; (try clear hb); (try clear hb2); (try clear hk); (try clear hi); have p8 : 0 ≤ (0 : Int) := (by omega); have q8 : 0 < t367.size := (by have : (0 : Int) < (t367.size : Int) := of_decide_eq_true byA; omega); have hx8 : ∀ h : 0 < t367.size, ((t367[0]'h).toNat : Int) = bt t367 0 := bt_at t367 0; clear p8; have qi8 : (0 < (t367.size : Int)) = True := eq_true (of_decide_eq_true byA); replace q8 := eq_true q8) | ((with_reducible refine gate_callee (f := 93) rfl ?_); refine goesS (some 15) Tryz.func93 #[.pointer (some ⟨g, 0, none⟩), .int .i64 (wrap64 (bt t367 0))] ?_; (with_reducible refine (journal_reader_take.calls g t368 (wrap64 (bt t367 0)) t369 t370 w0 _ ?side1 ?side2 A9.out).mono ?_); (case side1 => exact upI HI0.out); (case side2 => exact upB HB.out); rintro e w14 ⟨rfl, hi, hb, hk⟩; refine ⟨_, rfl, ?_⟩; have n0_ := Aside0.mk (Kd.S_mono (Kd.S_keep (IsS103.apartS (show IsS103 w0 _ g t368 from upI HI0.out) (upS HO_3.out) (by decide)) hk (fun _ h => h.2)) (fun _ h => h.1)); have n1_ := Aside0.mk (KeepBut.trans (upK HK.out) hk (.inl rfl)); have n2_ := Aside0.mk (hb); have n3_ := Aside0.mk (hi); clear HO_3; clear HK; clear HB; clear HI0; have HO_3 := n0_; have HK := n1_; have HB := n2_; have HI0 := n3_; clear n0_ n1_ n2_ n3_; (try clear hb); (try clear hb2); (try clear hk); (try clear hi)) | ((with_reducible refine gate_dst (N := 4) rfl ?_); refine boxS 4 #[.string (⟨#[]⟩ : ByteArray), .slice none 0 0] 90 ?_; intro gb371 hg w15 hbox hb; have n0_ := Aside0.mk (Kd.S_below (Kd.S_elderB (upS HO_3.out) gb371 (Nat.le_of_eq hg.symm)) hb); have n1_ := Aside0.mk (IsS103.below (upI HI0.out) hb); have n2_ := Aside0.mk (KeepBut.trans (upK HK.out) (KeepBut.of_below hb g none) (.inl rfl)); have n3_ := Aside0.mk (below_step (upB HB.out) hb); have n4_ := Aside0.mk (hbox); have n5_ := Aside0.mk ((by rw [hg]; exact (keep_size (w := w) (g := g) (row := none) (upK HK.out)) : w.heap.size ≤ gb371)); have n6_ := Aside0.mk ((Nat.le_trans HW0.out (by rw [hg]; exact (keep_size (w := w) (g := g) (row := none) (upK HK.out)) : w.heap.size ≤ gb371) : w0.heap.size ≤ gb371)); have n7_ := Aside0.mk ((by rw [hg]; exact Nat.ne_of_lt (IsS103.lt (show IsS103 w0 _ g t370 from upI HI0.out)) : g ≠ gb371)); have n8_ := Aside0.mk ((by rw [hg]; exact Nat.ne_of_gt (IsS103.lt (show IsS103 w0 _ g t370 from upI HI0.out)) : gb371 ≠ g)); clear HO_3; clear HI0; clear HK; clear HB; have HO_3 := n0_; have HI0 := n1_; have HK := n2_; have HB := n3_; have BK371 := n4_; have GW371 := n5_; have GE371 := n6_; have NB0_371 := n7_; have NB371_0 := n8_; clear n0_ n1_ n2_ n3_ n4_ n5_ n6_ n7_ n8_; clear hb hbox hg; have hnb16 := NB371_0.out; have hnc16 := NB0_371.out; have hcz17_0 : w15.cell? ⟨gb371, 0, none⟩ = some (.string (⟨#[]⟩ : ByteArray)) := (blk_cell BK371.out 0).trans rfl; have hcz17_1 : w15.cell? ⟨gb371, 1, none⟩ = some (.slice none 0 0) := (blk_cell BK371.out 1).trans rfl; have hfz17_0 := blk_frozen BK371.out 0; have hfz17_1 := blk_frozen BK371.out 1) | ((with_reducible refine gate_callee (f := 93) rfl ?_); refine goesS (some 18) Tryz.func93 #[.pointer (some ⟨g, 0, none⟩), .int .i64 1] ?_; (with_reducible refine (journal_reader_take.calls g t370 1 t372 t373 w0 _ ?side1 ?side2 A10.out).mono ?_); (case side1 => exact upI HI0.out); (case side2 => exact upB HB.out); rintro e w18 ⟨rfl, hi, hb, hk⟩; refine ⟨_, rfl, ?_⟩; have n0_ := Aside0.mk (Kd.S_mono (Kd.S_keep (IsS103.apartS (show IsS103 w0 _ g t370 from upI HI0.out) (by (with_reducible repeat (first | apply Kd.S_alloc | apply Kd.S_drewN | apply Kd.S_drew)); exact (Kd.S_mono (Kd.S_far (p := ⟨gb371, 1, none⟩) (Kd.S_far (p := ⟨gb371, 0, none⟩) (Kd.S_mono HO_3.out (fun k_ hk => (⟨hk, hk.2⟩ : _ ∧ k_ ≠ gb371))) (fun _ hk => hk.2) (.string t369)) (fun _ hk => hk.2) (.slice none 0 0)) (fun _ h_ => h_.1))) (by decide)) hk (fun _ h => h.2)) (fun _ h => h.1)); have n1_ := Aside0.mk (KeepBut.blk hk (g' := gb371) (o := .cells #[.string t369, .slice none 0 0] 90 (0, 0)) (by refine upO ?_; refine blk_put (cs := #[.string t369, .slice none 0 0]) ?_ 1 _ rfl; refine upO ?_; refine blk_put (cs := #[.string (⟨#[]⟩ : ByteArray), .slice none 0 0]) ?_ 0 _ rfl; exact upO BK371.out) NB371_0.out (by simp)); have n2_ := Aside0.mk (KeepBut.trans (upK HK.out) hk (.inl rfl)); have n3_ := Aside0.mk (hb); have n4_ := Aside0.mk (hi); clear HO_3; clear BK371; clear HK; clear HB; clear HI0; have HO_3 := n0_; have BK371 := n1_; have HK := n2_; have HB := n3_; have HI0 := n4_; clear n0_ n1_ n2_ n3_ n4_; (try clear hb); (try clear hb2); (try clear hk); (try clear hi); have p12 : 0 ≤ (0 : Int) := (by omega); have q12 : 0 < t372.size := (by have : (0 : Int) < (t372.size : Int) := of_decide_eq_true byA; omega); have hx12 : ∀ h : 0 < t372.size, ((t372[0]'h).toNat : Int) = bt t372 0 := bt_at t372 0; clear p12; have qi12 : (0 < (t372.size : Int)) = True := eq_true (of_decide_eq_true byA); replace q12 := eq_true q12))
     exact ⟨rfl, ⟨rfl, x1000_1, (upI HI0.out)⟩, (upB HB.out), (upK HK.out)⟩
    | some p_ =>
    obtain ⟨t367, t368⟩ := p_
    rw [A60, bindP_some] at H
    replace H : (if 0 < (t367.size : Int) then (bindP (journal_reader_take.f t368 (wrap64 (bt t367 0))) fun bt369 => (bindP (journal_reader_take.f bt369.2 1) fun bt372 => (if 0 < (bt372.1.size : Int) then (factsP.l1 k1 x3_1 t365 x8_1 (bt bt372.1 0) 0 bt372.2 bt369.1 ([] : List (S85))) else (none)))) else (none)) = some r := H
    have A6 := Aside0.mk A60
    clear A60
    by_cases c7 : 0 < (t367.size : Int)
    ·rw [if_pos c7] at H
     have c7b0 := decide_eq_true c7
     have c7b1 : decide (0 < t367.size) = true := decide_eq_true (by omega)
     clear c7
     cases A90 : journal_reader_take.f t368 (wrap64 (bt t367 0)) with
     | none =>
      rw [A90, bindP_none] at H
      simp only [Option.some.injEq] at H
      subst H
      have A9 := Aside0.mk (take_none A90 (by first | omega | exact bt_nonneg _ _))
      clear A90
      go_wp2_with (first | ((with_reducible refine gate_callee (f := 93) rfl ?_); refine goesP (some 15) Tryz.func93 #[.pointer (some ⟨g, 0, none⟩), .int .i64 (wrap64 (bt t367 0))] ?_; (with_reducible refine (take_panics g t368 (wrap64 (bt t367 0)) w0 _ ?side1 A9.out).mono ?_); (case side1 => exact (upI HI0.out)); rintro e w_ ⟨rfl, hw⟩; refine ⟨_, rfl, ?_⟩; subst hw) | ((with_reducible refine gate_callee (f := 93) rfl ?_); refine goesS (some 12) Tryz.func93 #[.pointer (some ⟨g, 0, none⟩), .int .i64 1] ?_; (with_reducible refine (journal_reader_take.calls g x1000_1 1 t367 t368 w0 _ ?side1 ?side2 A6.out).mono ?_); (case side1 => exact upI HI0.out); (case side2 => exact upB HB.out); rintro e w13 ⟨rfl, hi, hb, hk⟩; refine ⟨_, rfl, ?_⟩; have n0_ := Aside0.mk (Kd.S_mono (Kd.S_keep (IsS103.apartS (show IsS103 w0 _ g x1000_1 from upI HI0.out) (upS HO_3.out) (by decide)) hk (fun _ h => h.2)) (fun _ h => h.1)); have n1_ := Aside0.mk (KeepBut.trans (upK HK.out) hk (.inl rfl)); have n2_ := Aside0.mk (hb); have n3_ := Aside0.mk (hi); clear HO_3; clear HK; clear HB; clear HI0; have HO_3 := n0_; have HK := n1_; have HB := n2_; have HI0 := n3_; clear n0_ n1_ n2_ n3_; (try clear hb); (try clear hb2); (try clear hk); (try clear hi); have p8 : 0 ≤ (0 : Int) := (by omega); have q8 : 0 < t367.size := (by have : (0 : Int) < (t367.size : Int) := of_decide_eq_true byA; omega); have hx8 : ∀ h : 0 < t367.size, ((t367[0]'h).toNat : Int) = bt t367 0 := bt_at t367 0; clear p8; have qi8 : (0 < (t367.size : Int)) = True := eq_true (of_decide_eq_true byA); replace q8 := eq_true q8) | ((with_reducible refine gate_callee (f := 93) rfl ?_); refine goesS (some 15) Tryz.func93 #[.pointer (some ⟨g, 0, none⟩), .int .i64 (wrap64 (bt t367 0))] ?_; (with_reducible refine (journal_reader_take.calls g t368 (wrap64 (bt t367 0)) t369 t370 w0 _ ?side1 ?side2 A9.out).mono ?_); (case side1 => exact upI HI0.out); (case side2 => exact upB HB.out); rintro e w14 ⟨rfl, hi, hb, hk⟩; refine ⟨_, rfl, ?_⟩; have n0_ := Aside0.mk (Kd.S_mono (Kd.S_keep (IsS103.apartS (show IsS103 w0 _ g t368 from upI HI0.out) (upS HO_3.out) (by decide)) hk (fun _ h => h.2)) (fun _ h => h.1)); have n1_ := Aside0.mk (KeepBut.trans (upK HK.out) hk (.inl rfl)); have n2_ := Aside0.mk (hb); have n3_ := Aside0.mk (hi); clear HO_3; clear HK; clear HB; clear HI0; have HO_3 := n0_; have HK := n1_; have HB := n2_; have HI0 := n3_; clear n0_ n1_ n2_ n3_; (try clear hb); (try clear hb2); (try clear hk); (try clear hi)) | ((with_reducible refine gate_dst (N := 4) rfl ?_); refine boxS 4 #[.string (⟨#[]⟩ : ByteArray), .slice none 0 0] 90 ?_; intro gb371 hg w15 hbox hb; have n0_ := Aside0.mk (Kd.S_below (Kd.S_elderB (upS HO_3.out) gb371 (Nat.le_of_eq hg.symm)) hb); have n1_ := Aside0.mk (IsS103.below (upI HI0.out) hb); have n2_ := Aside0.mk (KeepBut.trans (upK HK.out) (KeepBut.of_below hb g none) (.inl rfl)); have n3_ := Aside0.mk (below_step (upB HB.out) hb); have n4_ := Aside0.mk (hbox); have n5_ := Aside0.mk ((by rw [hg]; exact (keep_size (w := w) (g := g) (row := none) (upK HK.out)) : w.heap.size ≤ gb371)); have n6_ := Aside0.mk ((Nat.le_trans HW0.out (by rw [hg]; exact (keep_size (w := w) (g := g) (row := none) (upK HK.out)) : w.heap.size ≤ gb371) : w0.heap.size ≤ gb371)); have n7_ := Aside0.mk ((by rw [hg]; exact Nat.ne_of_lt (IsS103.lt (show IsS103 w0 _ g t370 from upI HI0.out)) : g ≠ gb371)); have n8_ := Aside0.mk ((by rw [hg]; exact Nat.ne_of_gt (IsS103.lt (show IsS103 w0 _ g t370 from upI HI0.out)) : gb371 ≠ g)); clear HO_3; clear HI0; clear HK; clear HB; have HO_3 := n0_; have HI0 := n1_; have HK := n2_; have HB := n3_; have BK371 := n4_; have GW371 := n5_; have GE371 := n6_; have NB0_371 := n7_; have NB371_0 := n8_; clear n0_ n1_ n2_ n3_ n4_ n5_ n6_ n7_ n8_; clear hb hbox hg; have hnb16 := NB371_0.out; have hnc16 := NB0_371.out; have hcz17_0 : w15.cell? ⟨gb371, 0, none⟩ = some (.string (⟨#[]⟩ : ByteArray)) := (blk_cell BK371.out 0).trans rfl; have hcz17_1 : w15.cell? ⟨gb371, 1, none⟩ = some (.slice none 0 0) := (blk_cell BK371.out 1).trans rfl; have hfz17_0 := blk_frozen BK371.out 0; have hfz17_1 := blk_frozen BK371.out 1) | ((with_reducible refine gate_callee (f := 93) rfl ?_); refine goesS (some 18) Tryz.func93 #[.pointer (some ⟨g, 0, none⟩), .int .i64 1] ?_; (with_reducible refine (journal_reader_take.calls g t370 1 t372 t373 w0 _ ?side1 ?side2 A10.out).mono ?_); (case side1 => exact upI HI0.out); (case side2 => exact upB HB.out); rintro e w18 ⟨rfl, hi, hb, hk⟩; refine ⟨_, rfl, ?_⟩; have n0_ := Aside0.mk (Kd.S_mono (Kd.S_keep (IsS103.apartS (show IsS103 w0 _ g t370 from upI HI0.out) (by (with_reducible repeat (first | apply Kd.S_alloc | apply Kd.S_drewN | apply Kd.S_drew)); exact (Kd.S_mono (Kd.S_far (p := ⟨gb371, 1, none⟩) (Kd.S_far (p := ⟨gb371, 0, none⟩) (Kd.S_mono HO_3.out (fun k_ hk => (⟨hk, hk.2⟩ : _ ∧ k_ ≠ gb371))) (fun _ hk => hk.2) (.string t369)) (fun _ hk => hk.2) (.slice none 0 0)) (fun _ h_ => h_.1))) (by decide)) hk (fun _ h => h.2)) (fun _ h => h.1)); have n1_ := Aside0.mk (KeepBut.blk hk (g' := gb371) (o := .cells #[.string t369, .slice none 0 0] 90 (0, 0)) (by refine upO ?_; refine blk_put (cs := #[.string t369, .slice none 0 0]) ?_ 1 _ rfl; refine upO ?_; refine blk_put (cs := #[.string (⟨#[]⟩ : ByteArray), .slice none 0 0]) ?_ 0 _ rfl; exact upO BK371.out) NB371_0.out (by simp)); have n2_ := Aside0.mk (KeepBut.trans (upK HK.out) hk (.inl rfl)); have n3_ := Aside0.mk (hb); have n4_ := Aside0.mk (hi); clear HO_3; clear BK371; clear HK; clear HB; clear HI0; have HO_3 := n0_; have BK371 := n1_; have HK := n2_; have HB := n3_; have HI0 := n4_; clear n0_ n1_ n2_ n3_ n4_; (try clear hb); (try clear hb2); (try clear hk); (try clear hi); have p12 : 0 ≤ (0 : Int) := (by omega); have q12 : 0 < t372.size := (by have : (0 : Int) < (t372.size : Int) := of_decide_eq_true byA; omega); have hx12 : ∀ h : 0 < t372.size, ((t372[0]'h).toNat : Int) = bt t372 0 := bt_at t372 0; clear p12; have qi12 : (0 < (t372.size : Int)) = True := eq_true (of_decide_eq_true byA); replace q12 := eq_true q12))
      exact ⟨rfl, ⟨rfl, t368, (upI HI0.out)⟩, (upB HB.out), (upK HK.out)⟩
     | some p_ =>
     obtain ⟨t369, t370⟩ := p_
     rw [A90, bindP_some] at H
     replace H : (bindP (journal_reader_take.f t370 1) fun bt372 => (if 0 < (bt372.1.size : Int) then (factsP.l1 k1 x3_1 t365 x8_1 (bt bt372.1 0) 0 bt372.2 t369 ([] : List (S85))) else (none))) = some r := H
     have A9 := Aside0.mk A90
     clear A90
     cases A100 : journal_reader_take.f t370 1 with
     | none =>
      rw [A100, bindP_none] at H
      simp only [Option.some.injEq] at H
      subst H
      have A10 := Aside0.mk (take_none A100 (by first | omega | exact bt_nonneg _ _))
      clear A100
      go_wp2_with (first | ((with_reducible refine gate_callee (f := 93) rfl ?_); refine goesP (some 18) Tryz.func93 #[.pointer (some ⟨g, 0, none⟩), .int .i64 1] ?_; (with_reducible refine (take_panics g t370 1 w0 _ ?side1 A10.out).mono ?_); (case side1 => exact (upI HI0.out)); rintro e w_ ⟨rfl, hw⟩; refine ⟨_, rfl, ?_⟩; subst hw) | ((with_reducible refine gate_callee (f := 93) rfl ?_); refine goesS (some 12) Tryz.func93 #[.pointer (some ⟨g, 0, none⟩), .int .i64 1] ?_; (with_reducible refine (journal_reader_take.calls g x1000_1 1 t367 t368 w0 _ ?side1 ?side2 A6.out).mono ?_); (case side1 => exact upI HI0.out); (case side2 => exact upB HB.out); rintro e w13 ⟨rfl, hi, hb, hk⟩; refine ⟨_, rfl, ?_⟩; have n0_ := Aside0.mk (Kd.S_mono (Kd.S_keep (IsS103.apartS (show IsS103 w0 _ g x1000_1 from upI HI0.out) (upS HO_3.out) (by decide)) hk (fun _ h => h.2)) (fun _ h => h.1)); have n1_ := Aside0.mk (KeepBut.trans (upK HK.out) hk (.inl rfl)); have n2_ := Aside0.mk (hb); have n3_ := Aside0.mk (hi); clear HO_3; clear HK; clear HB; clear HI0; have HO_3 := n0_; have HK := n1_; have HB := n2_; have HI0 := n3_; clear n0_ n1_ n2_ n3_; (try clear hb); (try clear hb2); (try clear hk); (try clear hi); have p8 : 0 ≤ (0 : Int) := (by omega); have q8 : 0 < t367.size := (by have : (0 : Int) < (t367.size : Int) := of_decide_eq_true byA; omega); have hx8 : ∀ h : 0 < t367.size, ((t367[0]'h).toNat : Int) = bt t367 0 := bt_at t367 0; clear p8; have qi8 : (0 < (t367.size : Int)) = True := eq_true (of_decide_eq_true byA); replace q8 := eq_true q8) | ((with_reducible refine gate_callee (f := 93) rfl ?_); refine goesS (some 15) Tryz.func93 #[.pointer (some ⟨g, 0, none⟩), .int .i64 (wrap64 (bt t367 0))] ?_; (with_reducible refine (journal_reader_take.calls g t368 (wrap64 (bt t367 0)) t369 t370 w0 _ ?side1 ?side2 A9.out).mono ?_); (case side1 => exact upI HI0.out); (case side2 => exact upB HB.out); rintro e w14 ⟨rfl, hi, hb, hk⟩; refine ⟨_, rfl, ?_⟩; have n0_ := Aside0.mk (Kd.S_mono (Kd.S_keep (IsS103.apartS (show IsS103 w0 _ g t368 from upI HI0.out) (upS HO_3.out) (by decide)) hk (fun _ h => h.2)) (fun _ h => h.1)); have n1_ := Aside0.mk (KeepBut.trans (upK HK.out) hk (.inl rfl)); have n2_ := Aside0.mk (hb); have n3_ := Aside0.mk (hi); clear HO_3; clear HK; clear HB; clear HI0; have HO_3 := n0_; have HK := n1_; have HB := n2_; have HI0 := n3_; clear n0_ n1_ n2_ n3_; (try clear hb); (try clear hb2); (try clear hk); (try clear hi)) | ((with_reducible refine gate_dst (N := 4) rfl ?_); refine boxS 4 #[.string (⟨#[]⟩ : ByteArray), .slice none 0 0] 90 ?_; intro gb371 hg w15 hbox hb; have n0_ := Aside0.mk (Kd.S_below (Kd.S_elderB (upS HO_3.out) gb371 (Nat.le_of_eq hg.symm)) hb); have n1_ := Aside0.mk (IsS103.below (upI HI0.out) hb); have n2_ := Aside0.mk (KeepBut.trans (upK HK.out) (KeepBut.of_below hb g none) (.inl rfl)); have n3_ := Aside0.mk (below_step (upB HB.out) hb); have n4_ := Aside0.mk (hbox); have n5_ := Aside0.mk ((by rw [hg]; exact (keep_size (w := w) (g := g) (row := none) (upK HK.out)) : w.heap.size ≤ gb371)); have n6_ := Aside0.mk ((Nat.le_trans HW0.out (by rw [hg]; exact (keep_size (w := w) (g := g) (row := none) (upK HK.out)) : w.heap.size ≤ gb371) : w0.heap.size ≤ gb371)); have n7_ := Aside0.mk ((by rw [hg]; exact Nat.ne_of_lt (IsS103.lt (show IsS103 w0 _ g t370 from upI HI0.out)) : g ≠ gb371)); have n8_ := Aside0.mk ((by rw [hg]; exact Nat.ne_of_gt (IsS103.lt (show IsS103 w0 _ g t370 from upI HI0.out)) : gb371 ≠ g)); clear HO_3; clear HI0; clear HK; clear HB; have HO_3 := n0_; have HI0 := n1_; have HK := n2_; have HB := n3_; have BK371 := n4_; have GW371 := n5_; have GE371 := n6_; have NB0_371 := n7_; have NB371_0 := n8_; clear n0_ n1_ n2_ n3_ n4_ n5_ n6_ n7_ n8_; clear hb hbox hg; have hnb16 := NB371_0.out; have hnc16 := NB0_371.out; have hcz17_0 : w15.cell? ⟨gb371, 0, none⟩ = some (.string (⟨#[]⟩ : ByteArray)) := (blk_cell BK371.out 0).trans rfl; have hcz17_1 : w15.cell? ⟨gb371, 1, none⟩ = some (.slice none 0 0) := (blk_cell BK371.out 1).trans rfl; have hfz17_0 := blk_frozen BK371.out 0; have hfz17_1 := blk_frozen BK371.out 1) | ((with_reducible refine gate_callee (f := 93) rfl ?_); refine goesS (some 18) Tryz.func93 #[.pointer (some ⟨g, 0, none⟩), .int .i64 1] ?_; (with_reducible refine (journal_reader_take.calls g t370 1 t372 t373 w0 _ ?side1 ?side2 A10.out).mono ?_); (case side1 => exact upI HI0.out); (case side2 => exact upB HB.out); rintro e w18 ⟨rfl, hi, hb, hk⟩; refine ⟨_, rfl, ?_⟩; have n0_ := Aside0.mk (Kd.S_mono (Kd.S_keep (IsS103.apartS (show IsS103 w0 _ g t370 from upI HI0.out) (by (with_reducible repeat (first | apply Kd.S_alloc | apply Kd.S_drewN | apply Kd.S_drew)); exact (Kd.S_mono (Kd.S_far (p := ⟨gb371, 1, none⟩) (Kd.S_far (p := ⟨gb371, 0, none⟩) (Kd.S_mono HO_3.out (fun k_ hk => (⟨hk, hk.2⟩ : _ ∧ k_ ≠ gb371))) (fun _ hk => hk.2) (.string t369)) (fun _ hk => hk.2) (.slice none 0 0)) (fun _ h_ => h_.1))) (by decide)) hk (fun _ h => h.2)) (fun _ h => h.1)); have n1_ := Aside0.mk (KeepBut.blk hk (g' := gb371) (o := .cells #[.string t369, .slice none 0 0] 90 (0, 0)) (by refine upO ?_; refine blk_put (cs := #[.string t369, .slice none 0 0]) ?_ 1 _ rfl; refine upO ?_; refine blk_put (cs := #[.string (⟨#[]⟩ : ByteArray), .slice none 0 0]) ?_ 0 _ rfl; exact upO BK371.out) NB371_0.out (by simp)); have n2_ := Aside0.mk (KeepBut.trans (upK HK.out) hk (.inl rfl)); have n3_ := Aside0.mk (hb); have n4_ := Aside0.mk (hi); clear HO_3; clear BK371; clear HK; clear HB; clear HI0; have HO_3 := n0_; have BK371 := n1_; have HK := n2_; have HB := n3_; have HI0 := n4_; clear n0_ n1_ n2_ n3_ n4_; (try clear hb); (try clear hb2); (try clear hk); (try clear hi); have p12 : 0 ≤ (0 : Int) := (by omega); have q12 : 0 < t372.size := (by have : (0 : Int) < (t372.size : Int) := of_decide_eq_true byA; omega); have hx12 : ∀ h : 0 < t372.size, ((t372[0]'h).toNat : Int) = bt t372 0 := bt_at t372 0; clear p12; have qi12 : (0 < (t372.size : Int)) = True := eq_true (of_decide_eq_true byA); replace q12 := eq_true q12))
      exact ⟨rfl, ⟨rfl, t370, (upI HI0.out)⟩, (upB HB.out), (upK HK.out)⟩
     | some p_ =>
     obtain ⟨t372, t373⟩ := p_
     rw [A100, bindP_some] at H
     replace H : (if 0 < (t372.size : Int) then (factsP.l1 k1 x3_1 t365 x8_1 (bt t372 0) 0 t373 t369 ([] : List (S85))) else (none)) = some r := H
     have A10 := Aside0.mk A100
     clear A100
     by_cases c11 : 0 < (t372.size : Int)
     ·rw [if_pos c11] at H
      have c11b0 := decide_eq_true c11
      have c11b1 : decide (0 < t372.size) = true := decide_eq_true (by omega)
      clear c11
      have H' := Aside0.mk H
      clear H
      go_wp2_with (first | ((with_reducible refine gate_callee (f := 93) rfl ?_); refine goesS (some 12) Tryz.func93 #[.pointer (some ⟨g, 0, none⟩), .int .i64 1] ?_; (with_reducible refine (journal_reader_take.calls g x1000_1 1 t367 t368 w0 _ ?side1 ?side2 A6.out).mono ?_); (case side1 => exact upI HI0.out); (case side2 => exact upB HB.out); rintro e w13 ⟨rfl, hi, hb, hk⟩; refine ⟨_, rfl, ?_⟩; have n0_ := Aside0.mk (Kd.S_mono (Kd.S_keep (IsS103.apartS (show IsS103 w0 _ g x1000_1 from upI HI0.out) (upS HO_3.out) (by decide)) hk (fun _ h => h.2)) (fun _ h => h.1)); have n1_ := Aside0.mk (KeepBut.trans (upK HK.out) hk (.inl rfl)); have n2_ := Aside0.mk (hb); have n3_ := Aside0.mk (hi); clear HO_3; clear HK; clear HB; clear HI0; have HO_3 := n0_; have HK := n1_; have HB := n2_; have HI0 := n3_; clear n0_ n1_ n2_ n3_; (try clear hb); (try clear hb2); (try clear hk); (try clear hi); have p8 : 0 ≤ (0 : Int) := (by omega); have q8 : 0 < t367.size := (by have : (0 : Int) < (t367.size : Int) := of_decide_eq_true byA; omega); have hx8 : ∀ h : 0 < t367.size, ((t367[0]'h).toNat : Int) = bt t367 0 := bt_at t367 0; clear p8; have qi8 : (0 < (t367.size : Int)) = True := eq_true (of_decide_eq_true byA); replace q8 := eq_true q8) | ((with_reducible refine gate_callee (f := 93) rfl ?_); refine goesS (some 15) Tryz.func93 #[.pointer (some ⟨g, 0, none⟩), .int .i64 (wrap64 (bt t367 0))] ?_; (with_reducible refine (journal_reader_take.calls g t368 (wrap64 (bt t367 0)) t369 t370 w0 _ ?side1 ?side2 A9.out).mono ?_); (case side1 => exact upI HI0.out); (case side2 => exact upB HB.out); rintro e w14 ⟨rfl, hi, hb, hk⟩; refine ⟨_, rfl, ?_⟩; have n0_ := Aside0.mk (Kd.S_mono (Kd.S_keep (IsS103.apartS (show IsS103 w0 _ g t368 from upI HI0.out) (upS HO_3.out) (by decide)) hk (fun _ h => h.2)) (fun _ h => h.1)); have n1_ := Aside0.mk (KeepBut.trans (upK HK.out) hk (.inl rfl)); have n2_ := Aside0.mk (hb); have n3_ := Aside0.mk (hi); clear HO_3; clear HK; clear HB; clear HI0; have HO_3 := n0_; have HK := n1_; have HB := n2_; have HI0 := n3_; clear n0_ n1_ n2_ n3_; (try clear hb); (try clear hb2); (try clear hk); (try clear hi)) | ((with_reducible refine gate_dst (N := 4) rfl ?_); refine boxS 4 #[.string (⟨#[]⟩ : ByteArray), .slice none 0 0] 90 ?_; intro gb371 hg w15 hbox hb; have n0_ := Aside0.mk (Kd.S_below (Kd.S_elderB (upS HO_3.out) gb371 (Nat.le_of_eq hg.symm)) hb); have n1_ := Aside0.mk (IsS103.below (upI HI0.out) hb); have n2_ := Aside0.mk (KeepBut.trans (upK HK.out) (KeepBut.of_below hb g none) (.inl rfl)); have n3_ := Aside0.mk (below_step (upB HB.out) hb); have n4_ := Aside0.mk (hbox); have n5_ := Aside0.mk ((by rw [hg]; exact (keep_size (w := w) (g := g) (row := none) (upK HK.out)) : w.heap.size ≤ gb371)); have n6_ := Aside0.mk ((Nat.le_trans HW0.out (by rw [hg]; exact (keep_size (w := w) (g := g) (row := none) (upK HK.out)) : w.heap.size ≤ gb371) : w0.heap.size ≤ gb371)); have n7_ := Aside0.mk ((by rw [hg]; exact Nat.ne_of_lt (IsS103.lt (show IsS103 w0 _ g t370 from upI HI0.out)) : g ≠ gb371)); have n8_ := Aside0.mk ((by rw [hg]; exact Nat.ne_of_gt (IsS103.lt (show IsS103 w0 _ g t370 from upI HI0.out)) : gb371 ≠ g)); clear HO_3; clear HI0; clear HK; clear HB; have HO_3 := n0_; have HI0 := n1_; have HK := n2_; have HB := n3_; have BK371 := n4_; have GW371 := n5_; have GE371 := n6_; have NB0_371 := n7_; have NB371_0 := n8_; clear n0_ n1_ n2_ n3_ n4_ n5_ n6_ n7_ n8_; clear hb hbox hg; have hnb16 := NB371_0.out; have hnc16 := NB0_371.out; have hcz17_0 : w15.cell? ⟨gb371, 0, none⟩ = some (.string (⟨#[]⟩ : ByteArray)) := (blk_cell BK371.out 0).trans rfl; have hcz17_1 : w15.cell? ⟨gb371, 1, none⟩ = some (.slice none 0 0) := (blk_cell BK371.out 1).trans rfl; have hfz17_0 := blk_frozen BK371.out 0; have hfz17_1 := blk_frozen BK371.out 1) | ((with_reducible refine gate_callee (f := 93) rfl ?_); refine goesS (some 18) Tryz.func93 #[.pointer (some ⟨g, 0, none⟩), .int .i64 1] ?_; (with_reducible refine (journal_reader_take.calls g t370 1 t372 t373 w0 _ ?side1 ?side2 A10.out).mono ?_); (case side1 => exact upI HI0.out); (case side2 => exact upB HB.out); rintro e w18 ⟨rfl, hi, hb, hk⟩; refine ⟨_, rfl, ?_⟩; have n0_ := Aside0.mk (Kd.S_mono (Kd.S_keep (IsS103.apartS (show IsS103 w0 _ g t370 from upI HI0.out) (by (with_reducible repeat (first | apply Kd.S_alloc | apply Kd.S_drewN | apply Kd.S_drew)); exact (Kd.S_mono (Kd.S_far (p := ⟨gb371, 1, none⟩) (Kd.S_far (p := ⟨gb371, 0, none⟩) (Kd.S_mono HO_3.out (fun k_ hk => (⟨hk, hk.2⟩ : _ ∧ k_ ≠ gb371))) (fun _ hk => hk.2) (.string t369)) (fun _ hk => hk.2) (.slice none 0 0)) (fun _ h_ => h_.1))) (by decide)) hk (fun _ h => h.2)) (fun _ h => h.1)); have n1_ := Aside0.mk (KeepBut.blk hk (g' := gb371) (o := .cells #[.string t369, .slice none 0 0] 90 (0, 0)) (by refine upO ?_; refine blk_put (cs := #[.string t369, .slice none 0 0]) ?_ 1 _ rfl; refine upO ?_; refine blk_put (cs := #[.string (⟨#[]⟩ : ByteArray), .slice none 0 0]) ?_ 0 _ rfl; exact upO BK371.out) NB371_0.out (by simp)); have n2_ := Aside0.mk (KeepBut.trans (upK HK.out) hk (.inl rfl)); have n3_ := Aside0.mk (hb); have n4_ := Aside0.mk (hi); clear HO_3; clear BK371; clear HK; clear HB; clear HI0; have HO_3 := n0_; have BK371 := n1_; have HK := n2_; have HB := n3_; have HI0 := n4_; clear n0_ n1_ n2_ n3_ n4_; (try clear hb); (try clear hb2); (try clear hk); (try clear hi); have p12 : 0 ≤ (0 : Int) := (by omega); have q12 : 0 < t372.size := (by have : (0 : Int) < (t372.size : Int) := of_decide_eq_true byA; omega); have hx12 : ∀ h : 0 < t372.size, ((t372[0]'h).toNat : Int) = bt t372 0 := bt_at t372 0; clear p12; have qi12 : (0 < (t372.size : Int)) = True := eq_true (of_decide_eq_true byA); replace q12 := eq_true q12))
      go_loopg [20] k1 (fun kq v20 w' => ∃ (x20_2 : Int) (x1000_2 : ByteArray) (x372001_2 : List (S85)) (u372001 : Value), v20 = .int .u8 x20_2 ∧ Aside0 (factsP.l1 kq x3_1 t365 x8_1 (bt t372 0) x20_2 x1000_2 t369 x372001_2 = some r) ∧ Aside0 (kq ≤ k1) ∧ Aside0 (Kd.S k90 90 w' w.heap.size (fun k_ => some k_ ≠ (u372001 : Value).ownBlock ∧ k_ ≠ gb371) u3 x3_1) ∧ Aside0 (Kd.R k85 85 w' w.heap.size (fun _ => True) u372001 x372001_2) ∧ Aside0 (w'.heap[gb371]? = some (.cells #[.string t369, u372001] 90 (0, 0))) ∧ Aside0 (IsS103 w0 w' g x1000_2) ∧ Aside0 (KeepBut w w' g none) ∧ Aside0 (Below w0.heap.size w0 w'))
      case atStart => exact ⟨(0), (t373), (([] : List (S85))), (.slice none 0 0), eqS, H', ⟨Nat.le_refl _⟩, ⟨by (with_reducible repeat (first | apply Kd.S_alloc | apply Kd.S_drewN | apply Kd.S_drew)); exact Kd.S_mono HO_3.out (fun _ hk => ⟨(by simp [Value.ownBlock]), hk.2⟩)⟩, ⟨by first | exact Kd.R_nil _ _ _ _ _ | exact Kd.N_nil _ _ _ _ _ | exact Kd.V_nil _ _ _ _ _ | exact Kd.Q_nil _ _ _ _ _ | exact Kd.S_nil _ _ _ _ _⟩, ⟨upO BK371.out⟩, ⟨upI HI0.out⟩, ⟨upK HK.out⟩, ⟨upB HB.out⟩⟩
      case round =>
       clear H'
       try clear c1
       try clear p1
       try clear q1
       try clear hx1
       try clear qi1
       try clear c2
       try clear p2
       try clear c5
       try clear c5b0
       try clear p6
       try clear c7
       try clear c7b0
       try clear c7b1
       try clear p8
       try clear q8
       try clear hx8
       try clear qi8
       try clear c9
       try clear c11
       try clear c11b0
       try clear c11b1
       try clear p12
       try clear q12
       try clear hx12
       try clear qi12
       try clear c16
       try clear hcz17_0
       try clear hcz17_1
       try clear hfz17_0
       try clear hfz17_1
       try clear p12
       try clear p2
       try clear p8
       try clear q12
       try clear q8
       obtain ⟨x20_2, x1000_2, x372001_2, u372001, rfl, HA, HK2, HO_3, HO_372001, BK371, HI0, HK, HB⟩ := hrel
       cases gk with
       | zero => exact absurd HA.out (by simp [factsP.l1])
       | succ k2 =>
        have H := HA.out
        clear HA
        simp only [factsP.l1] at H
        by_cases c19 : x20_2 < (bt t372 0)
        ·rw [if_pos c19] at H
         have c19b0 := decide_eq_true c19
         clear c19
         cases A200 : journal_reader_take.f x1000_2 1 with
         | none =>
          rw [A200, bindP_none] at H
          simp only [Option.some.injEq] at H
          subst H
          have A20 := Aside0.mk (take_none A200 (by first | omega | exact bt_nonneg _ _))
          clear A200
          go_wp2_with (first | ((with_reducible refine gate_callee (f := 93) rfl ?_); refine goesP (some 23) Tryz.func93 #[.pointer (some ⟨g, 0, none⟩), .int .i64 1] ?_; (with_reducible refine (take_panics g x1000_2 1 w0 _ ?side1 A20.out).mono ?_); (case side1 => exact (upI HI0.out)); rintro e w_ ⟨rfl, hw⟩; refine ⟨_, rfl, ?_⟩; subst hw) | ((with_reducible refine gate_callee (f := 93) rfl ?_); refine goesS (some 23) Tryz.func93 #[.pointer (some ⟨g, 0, none⟩), .int .i64 1] ?_; (with_reducible refine (journal_reader_take.calls g x1000_2 1 t377 t378 w0 _ ?side1 ?side2 A20.out).mono ?_); (case side1 => exact upI HI0.out); (case side2 => exact upB HB.out); rintro e w25 ⟨rfl, hi, hb, hk⟩; refine ⟨_, rfl, ?_⟩; have n0_ := Aside0.mk (Kd.S_mono (Kd.S_keep (IsS103.apartS (show IsS103 w0 _ g x1000_2 from upI HI0.out) (upS HO_3.out) (by decide)) hk (fun _ h => h.2)) (fun _ h => h.1)); have n1_ := Aside0.mk (Kd.R_mono (Kd.R_keep (IsS103.apart (show IsS103 w0 _ g x1000_2 from upI HI0.out) (upR HO_372001.out) (by decide)) hk (fun _ h => h.2)) (fun _ h => h.1)); have n2_ := Aside0.mk (KeepBut.blk hk (g' := gb371) (o := .cells #[.string t369, u372001] 90 (0, 0)) (upO BK371.out) NB371_0.out (by simp)); have n3_ := Aside0.mk (KeepBut.trans (upK HK.out) hk (.inl rfl)); have n4_ := Aside0.mk (hb); have n5_ := Aside0.mk (hi); clear HO_3; clear HO_372001; clear BK371; clear HK; clear HB; clear HI0; have HO_3 := n0_; have HO_372001 := n1_; have BK371 := n2_; have HK := n3_; have HB := n4_; have HI0 := n5_; clear n0_ n1_ n2_ n3_ n4_ n5_; (try clear hb); (try clear hb2); (try clear hk); (try clear hi)))
          exact ⟨rfl, ⟨rfl, x1000_2, (upI HI0.out)⟩, (upB HB.out), (upK HK.out)⟩
         | some p_ =>
         obtain ⟨t377, t378⟩ := p_
         rw [A200, bindP_some] at H
         replace H : (if t377.toList = ([78] : List UInt8) then (bindP (journal_reader_take.f t378 8) fun bt379 => ((journal_get_uint64.f k2 bt379.1 8).bind fun t381 => (if x372001_2.length < 4398046511104 then (factsP.l1 k2 x3_1 t365 x8_1 (bt t372 0) ((x20_2 + 1) % 256) bt379.2 t369 (x372001_2 ++ [(⟨1, wrap64 (t381), (⟨#[]⟩ : ByteArray)⟩ : S85)])) else (none)))) else (if t377.toList = ([84] : List UInt8) then (bindP (journal_reader_take.f t378 1) fun bt385 => (if 0 < (bt385.1.size : Int) then (bindP (journal_reader_take.f bt385.2 (wrap64 (bt bt385.1 0))) fun bt387 => (if x372001_2.length < 4398046511104 then (factsP.l1 k2 x3_1 t365 x8_1 (bt t372 0) ((x20_2 + 1) % 256) bt387.2 t369 (x372001_2 ++ [(⟨2, 0, bt387.1⟩ : S85)])) else (none))) else (none))) else (some none))) = some r := H
         have A20 := Aside0.mk A200
         clear A200
         by_cases c21 : t377.toList = ([78] : List UInt8)
         ·rw [if_pos c21] at H
          have c21b0 : (t377.toList == ([78] : List UInt8)) = true := beq_iff_eq.mpr c21
          have c21b1 : (t377.toList != ([78] : List UInt8)) = false := bne_eq_false_iff_eq.mpr c21
          clear c21
          cases A220 : journal_reader_take.f t378 8 with
          | none =>
           rw [A220, bindP_none] at H
           simp only [Option.some.injEq] at H
           subst H
           have A22 := Aside0.mk (take_none A220 (by first | omega | exact bt_nonneg _ _))
           clear A220
           try go_wp2_with (first | ((with_reducible refine gate_callee (f := 93) rfl ?_); refine goesS (some 23) Tryz.func93 #[.pointer (some ⟨g, 0, none⟩), .int .i64 1] ?_; (with_reducible refine (journal_reader_take.calls g x1000_2 1 t377 t378 w0 _ ?side1 ?side2 A20.out).mono ?_); (case side1 => exact upI HI0.out); (case side2 => exact upB HB.out); rintro e w25 ⟨rfl, hi, hb, hk⟩; refine ⟨_, rfl, ?_⟩; have n0_ := Aside0.mk (Kd.S_mono (Kd.S_keep (IsS103.apartS (show IsS103 w0 _ g x1000_2 from upI HI0.out) (upS HO_3.out) (by decide)) hk (fun _ h => h.2)) (fun _ h => h.1)); have n1_ := Aside0.mk (Kd.R_mono (Kd.R_keep (IsS103.apart (show IsS103 w0 _ g x1000_2 from upI HI0.out) (upR HO_372001.out) (by decide)) hk (fun _ h => h.2)) (fun _ h => h.1)); have n2_ := Aside0.mk (KeepBut.blk hk (g' := gb371) (o := .cells #[.string t369, u372001] 90 (0, 0)) (upO BK371.out) NB371_0.out (by simp)); have n3_ := Aside0.mk (KeepBut.trans (upK HK.out) hk (.inl rfl)); have n4_ := Aside0.mk (hb); have n5_ := Aside0.mk (hi); clear HO_3; clear HO_372001; clear BK371; clear HK; clear HB; clear HI0; have HO_3 := n0_; have HO_372001 := n1_; have BK371 := n2_; have HK := n3_; have HB := n4_; have HI0 := n5_; clear n0_ n1_ n2_ n3_ n4_ n5_; (try clear hb); (try clear hb2); (try clear hk); (try clear hi)))
           have n0_ := Aside0.mk (Kd.S_drew HO_3.out)
           have n1_ := Aside0.mk (Kd.R_drew HO_372001.out)
           have n2_ := Aside0.mk (blk_drew BK371.out)
           have n3_ := Aside0.mk (IsS103.drew HI0.out)
           have n4_ := Aside0.mk (keep_drew HK.out)
           have n5_ := Aside0.mk (below_drew1 HB.out)
           clear HO_3
           clear HO_372001
           clear BK371
           clear HI0
           clear HK
           clear HB
           have HO_3 := n0_
           have HO_372001 := n1_
           have BK371 := n2_
           have HI0 := n3_
           have HK := n4_
           have HB := n5_
           clear n0_ n1_ n2_ n3_ n4_ n5_
           refine start_ (n := 11) (S := fun w' => w'.cell? ⟨gb371, 0, none⟩ = some (.string t369) ∧ w'.cell? ⟨gb371, 1, none⟩ = some (u372001)) (ds := [10]) #[false,false,false,false,false,false,false,false,false,false,false] (by kernel_rfl) rfl rfl ⟨(blk_cell BK371.out 0).trans rfl, (blk_cell BK371.out 1).trans rfl⟩ (fun hHeld => ?_); refine with_tabW factsP.tab10 factsP.bits10 (fun HT_ HW_ => ?_)
           generalize w25.drew = w26 at HO_3 HO_372001 BK371 HI0 HK HB hHeld ⊢
           refine pureS 0 (some 28) HT_ ?_
           refine pureS 2 (some 30) HT_ ?_
           refine takeS 1 (some 29) HT_ HW_ hHeld ?_
           refine one_ (i := 3) (N := some 31) #[true, true, true, true, false,false,false,false,false,false,false] rfl rfl (one_of HT_.out (by kernel_rfl)) (by decide) (fun K hK => ?_)
           refine goesR_ Tryz.func93 (by kernel_rfl) rfl #[.pointer (some ⟨g, 0, none⟩), .int .i64 8] (by rfl) rfl rfl (by (try simp only [List.map_toArray, List.map_cons, List.map_nil]); first | done | rfl | (simp only [List.length_drop, List.length_take]; rfl)) ?_
           with_reducible refine (take_panics g t378 8 w0 _ ?side1 A22.out).mono ?_
           (case side1 => exact (upI HI0.out))
           rintro e w_ ⟨rfl, hw⟩
           subst hw
           refine ⟨_, rfl, ?_⟩
           clear hK K
           try go_wp2
           exact ⟨rfl, ⟨rfl, t378, (upI HI0.out)⟩, (upB HB.out), (upK HK.out)⟩
          | some p_ =>
          obtain ⟨t379, t380⟩ := p_
          rw [A220, bindP_some] at H
          replace H : ((journal_get_uint64.f k2 t379 8).bind fun t381 => (if x372001_2.length < 4398046511104 then (factsP.l1 k2 x3_1 t365 x8_1 (bt t372 0) ((x20_2 + 1) % 256) t380 t369 (x372001_2 ++ [(⟨1, wrap64 (t381), (⟨#[]⟩ : ByteArray)⟩ : S85)])) else (none))) = some r := H
          have A22 := Aside0.mk A220
          clear A220
          replace H := Option.bind_eq_some_iff.mp H
          obtain ⟨t381, A230, H⟩ := H
          replace H : (if x372001_2.length < 4398046511104 then (factsP.l1 k2 x3_1 t365 x8_1 (bt t372 0) ((x20_2 + 1) % 256) t380 t369 (x372001_2 ++ [(⟨1, wrap64 (t381), (⟨#[]⟩ : ByteArray)⟩ : S85)])) else (none)) = some r := H
          have A23 := Aside0.mk A230
          clear A230
          by_cases c24 : x372001_2.length < 4398046511104
          ·rw [if_pos c24] at H
           have LMc24 := Aside0.mk c24
           clear c24
           obtain ⟨y382, hy382⟩ : ∃ y_ : List (S85), y_ = (x372001_2 ++ [(⟨1, wrap64 (t381), (⟨#[]⟩ : ByteArray)⟩ : S85)]) := ⟨_, rfl⟩
           replace H : (factsP.l1 k2 x3_1 t365 x8_1 (bt t372 0) ((x20_2 + 1) % 256) t380 t369 y382) = some r := by first | (rw [hy382]; with_reducible exact H) | (have H2_ := (Option.bind_some _ _).symm.trans H; rw [hy382]; with_reducible exact H2_) | (have H2_ := (Option.bind_some _ _).symm.trans H; with_reducible exact H2_) | with_reducible exact H | (rw [hy382]; exact H) | exact H
           have Ny382 := Aside0.mk hy382
           clear hy382
           have H' := Aside0.mk H
           clear H
           try go_wp2_with (first | ((with_reducible refine gate_callee (f := 93) rfl ?_); refine goesS (some 23) Tryz.func93 #[.pointer (some ⟨g, 0, none⟩), .int .i64 1] ?_; (with_reducible refine (journal_reader_take.calls g x1000_2 1 t377 t378 w0 _ ?side1 ?side2 A20.out).mono ?_); (case side1 => exact upI HI0.out); (case side2 => exact upB HB.out); rintro e w25 ⟨rfl, hi, hb, hk⟩; refine ⟨_, rfl, ?_⟩; have n0_ := Aside0.mk (Kd.S_mono (Kd.S_keep (IsS103.apartS (show IsS103 w0 _ g x1000_2 from upI HI0.out) (upS HO_3.out) (by decide)) hk (fun _ h => h.2)) (fun _ h => h.1)); have n1_ := Aside0.mk (Kd.R_mono (Kd.R_keep (IsS103.apart (show IsS103 w0 _ g x1000_2 from upI HI0.out) (upR HO_372001.out) (by decide)) hk (fun _ h => h.2)) (fun _ h => h.1)); have n2_ := Aside0.mk (KeepBut.blk hk (g' := gb371) (o := .cells #[.string t369, u372001] 90 (0, 0)) (upO BK371.out) NB371_0.out (by simp)); have n3_ := Aside0.mk (KeepBut.trans (upK HK.out) hk (.inl rfl)); have n4_ := Aside0.mk (hb); have n5_ := Aside0.mk (hi); clear HO_3; clear HO_372001; clear BK371; clear HK; clear HB; clear HI0; have HO_3 := n0_; have HO_372001 := n1_; have BK371 := n2_; have HK := n3_; have HB := n4_; have HI0 := n5_; clear n0_ n1_ n2_ n3_ n4_ n5_; (try clear hb); (try clear hb2); (try clear hk); (try clear hi)))
           have n0_ := Aside0.mk (Kd.S_drew HO_3.out)
           have n1_ := Aside0.mk (Kd.R_drew HO_372001.out)
           have n2_ := Aside0.mk (blk_drew BK371.out)
           have n3_ := Aside0.mk (IsS103.drew HI0.out)
           have n4_ := Aside0.mk (keep_drew HK.out)
           have n5_ := Aside0.mk (below_drew1 HB.out)
           clear HO_3
           clear HO_372001
           clear BK371
           clear HI0
           clear HK
           clear HB
           have HO_3 := n0_
           have HO_372001 := n1_
           have BK371 := n2_
           have HI0 := n3_
           have HK := n4_
           have HB := n5_
           clear n0_ n1_ n2_ n3_ n4_ n5_
           refine start_ (n := 11) (S := fun w' => w'.cell? ⟨gb371, 0, none⟩ = some (.string t369) ∧ w'.cell? ⟨gb371, 1, none⟩ = some (u372001)) (ds := [10]) #[false,false,false,false,false,false,false,false,false,false,false] (by kernel_rfl) rfl rfl ⟨(blk_cell BK371.out 0).trans rfl, (blk_cell BK371.out 1).trans rfl⟩ (fun hHeld => ?_); refine with_tabW factsP.tab10 factsP.bits10 (fun HT_ HW_ => ?_)
           generalize w25.drew = w26 at HO_3 HO_372001 BK371 HI0 HK HB hHeld ⊢
           refine pureS 0 (some 28) HT_ ?_
           refine pureS 2 (some 30) HT_ ?_
           refine takeS 1 (some 29) HT_ HW_ hHeld ?_
           refine one_ (i := 3) (N := some 31) #[true, true, true, true, false,false,false,false,false,false,false] rfl rfl (one_of HT_.out (by kernel_rfl)) (by decide) (fun K hK => ?_)
           refine goes_ Tryz.func93 (by kernel_rfl) rfl #[.pointer (some ⟨g, 0, none⟩), .int .i64 8] (by rfl) rfl rfl (by (try simp only [List.map_toArray, List.map_cons, List.map_nil]); first | done | rfl | (simp only [List.length_drop, List.length_take]; rfl)) ?_
           with_reducible refine (journal_reader_take.calls g t378 8 t379 t380 w0 _ ?side1 ?side2 A22.out).mono ?_
           (case side1 => exact upI HI0.out)
           (case side2 => exact upB HB.out)
           rintro e w27 ⟨rfl, hi, hb, hk⟩
           refine ⟨_, rfl, ?_⟩
           have n0_ := Aside0.mk (Kd.S_mono (Kd.S_keep (IsS103.apartS (show IsS103 w0 _ g t378 from upI HI0.out) (upS HO_3.out) (by decide)) hk (fun _ h => h.2)) (fun _ h => h.1))
           have n1_ := Aside0.mk (Kd.R_mono (Kd.R_keep (IsS103.apart (show IsS103 w0 _ g t378 from upI HI0.out) (upR HO_372001.out) (by decide)) hk (fun _ h => h.2)) (fun _ h => h.1))
           have n2_ := Aside0.mk (KeepBut.blk hk (g' := gb371) (o := .cells #[.string t369, u372001] 90 (0, 0)) (upO BK371.out) NB371_0.out (by simp))
           have n3_ := Aside0.mk (KeepBut.trans (upK HK.out) hk (.inl rfl))
           have n4_ := Aside0.mk (hb)
           have n5_ := Aside0.mk (hi)
           clear HO_3
           clear HO_372001
           clear BK371
           clear HK
           clear HB
           clear HI0
           have HO_3 := n0_
           have HO_372001 := n1_
           have BK371 := n2_
           have HK := n3_
           have HB := n4_
           have HI0 := n5_
           clear n0_ n1_ n2_ n3_ n4_ n5_
           (try clear hb)
           (try clear hb2)
           (try clear hk)
           (try clear hi)
           refine hK.out _ _ ⟨(blk_cell BK371.out 0).trans rfl, (blk_cell BK371.out 1).trans rfl⟩ (fun hHeld => ?_)
           clear hK K
           refine normS (some 31) ?_
           refine one_ (i := 4) (N := some 32) #[true, true, true, true, true, false,false,false,false,false,false] rfl rfl (one_of HT_.out (by kernel_rfl)) (by decide) (fun K hK => ?_)
           refine goes_ Tryz.func97 (by kernel_rfl) rfl #[.string t379, .int .i64 8] (by rfl) rfl rfl (by (try simp only [List.map_toArray, List.map_cons, List.map_nil]); first | done | rfl | (simp only [List.length_drop, List.length_take]; rfl)) ?_
           with_reducible refine (journal_get_uint64.calls k2 t379 8 t381 _ A23.out).mono ?_
           rintro e w' ⟨rfl, ⟨nd, rfl⟩⟩
           refine ⟨_, rfl, ?_⟩
           refine hK.out _ _ ⟨(blk_cell BK371.out 0).trans rfl, (blk_cell BK371.out 1).trans rfl⟩ (fun hHeld => ?_)
           clear hK K
           refine normS (some 32) ?_
           refine pureS 5 (some 33) HT_ ?_
           refine pureS 6 (some 34) HT_ ?_
           refine one_ (i := 7) (N := some 35) #[true, true, true, true, true, true, true, true, false,false,false] rfl rfl (one_of HT_.out (by kernel_rfl)) (by decide) (fun K hK => ?_)
           refine value_ (w1 := ?_) (v := ?_) (by rfl) rfl ?_ ?_
           rotate_left 2
           ·go_simp
            constructor
            ·rfl
            ·rfl
           refine hK.out _ _ ⟨(blk_cell (blk_alloc BK371.out _) 0).trans rfl, (blk_cell (blk_alloc BK371.out _) 1).trans rfl⟩ (fun hHeld => ?_)
           clear hK K
           refine normS (some 35) ?_
           refine one_ (i := 8) (N := some 36) #[true, true, true, true, true, true, true, true, true, false,false] rfl rfl (one_of HT_.out (by kernel_rfl)) (by decide) (fun K hK => ?_)
           refine Kd.R_append_step k85 w.heap.size (by rfl) (.tmp 29) (.tmp 35) 88 85 (.agg #[(.int .i8 0), (.int .i64 0), (.string ⟨#[]⟩)]) 32 rfl Tryz.underlying88 info85 rfl (by decide) (by omega) u372001 x372001_2 (⟨1, wrap64 (t381), (⟨#[]⟩ : ByteArray)⟩ : S85) [.int .i8 1, .int .i64 (wrap64 (t381)), .string (⟨#[]⟩ : ByteArray)] (fun _ => True) (fun _ => False) rfl rfl ?aP (fun _ hk => hk.elim) ?aF ?aO (Below.refl _ _) ?aS ?aL ?_
           (case aP => exact k85_mkM _ _ _ (⟨1, wrap64 (t381), (⟨#[]⟩ : ByteArray)⟩ : S85))
           (case aF => exact (fun _ _ => trivial))
           (case aO => exact (upR HO_372001.out))
           (case aS => exact (keep_size (w := w) (g := g) (row := none) (upK HK.out)))
           (case aL => have := LMc24.out; omega)
           intro v383 w28 ho hb hg hat
           rw [← Ny382.out] at ho
           have n0_ := Aside0.mk (Kd.S_after (ok := (fun k_ => k_ ≠ gb371)) (by (with_reducible repeat (first | apply Kd.S_alloc | apply Kd.S_drewN | apply Kd.S_drew)); exact Kd.S_mono HO_3.out (fun _ hk => ⟨hk.2, hk.1⟩)) hg hat)
           have n1_ := Aside0.mk (blk_grown (g := gb371) (o := .cells #[.string t369, u372001] 90 (0, 0)) (upO BK371.out) hg (Kd.R_ne HO_372001.out BK371.out (by decide)))
           have n2_ := Aside0.mk (IsS103.grown (upI HI0.out) hg (IsS103.own_ne HI0.out HO_372001.out (by decide)))
           have n3_ := Aside0.mk (below_weaken (upB HB.out) HL.out hb)
           have n4_ := Aside0.mk (KeepBut.trans (upK HK.out) (KeepBut.of_grown hg g) (Kd.R_base2 HO_372001.out))
           have n5_ := Aside0.mk (ho)
           clear HO_3
           clear BK371
           clear HI0
           clear HB
           clear HK
           clear HO_372001
           have HO_3 := n0_
           have BK371 := n1_
           have HI0 := n2_
           have HB := n3_
           have HK := n4_
           have HO384 := n5_
           clear n0_ n1_ n2_ n3_ n4_ n5_
           clear ho hb hg hat
           obtain ⟨Ao29, co29, eo29⟩ := Kd.R_slice HO384.out
           (first | subst eo29 | (injection eo29 with f1_ f2_ f3_; have f4_ := f1_.symm; have f5_ := f3_.symm; clear f1_ f2_ f3_; subst f4_; subst f5_))
           refine hK.out _ _ ⟨(blk_cell BK371.out 0).trans rfl, (blk_cell BK371.out 1).trans rfl⟩ (fun hHeld => ?_)
           clear hK K
           refine normS (some 36) ?_
           refine pureS 9 (some 37) HT_ ?_
           refine last_ (i := 10) (N := none) #[true, true, true, true, true, true, true, true, true, true, true] rfl rfl (one_of HT_.out (by kernel_rfl)) (by decide) (fun K hK => ?_)
           have hs30 : w28.cell? ⟨gb371, 1, none⟩ = some (u372001) := (blk_cell BK371.out 1).trans rfl
           have hfs30 := blk_frozen BK371.out 1
           refine skip_ (w1 := ?_) (by rfl) rfl ?_ ?_
           rotate_left
           ·go_simp
            rfl
           refine hK.out _ _ ?_
           clear hK K
           refine done_ (done_of HT_.out (by kernel_rfl)) ?_
           try go_wp2
           go_roundg k2
           case measure => have := HK1.out; have := HK2.out; omega
           case rel => exact ⟨((x20_2 + 1) % 256), (t380), (y382), (.slice Ao29 y382.length co29), eqS, H', ⟨by have := HK1.out; have := HK2.out; omega⟩, ⟨by (with_reducible repeat (first | apply Kd.S_alloc | apply Kd.S_drewN | apply Kd.S_drew)); exact Kd.S_mono (Kd.S_far (p := ⟨gb371, 1, none⟩) (Kd.S_mono HO_3.out (fun k_ hk => (⟨hk, hk.1⟩ : _ ∧ k_ ≠ gb371))) (fun _ hk => hk.2) (.slice Ao29 y382.length co29)) (fun _ hk => ⟨hk.1.2, hk.1.1⟩)⟩, ⟨by (with_reducible repeat (first | apply Kd.R_alloc | apply Kd.R_drewN | apply Kd.R_drew)); exact Kd.R_mono (Kd.R_far (p := ⟨gb371, 1, none⟩) (Kd.R_types HO384.out BK371.out (by decide)) (fun _ hk => hk.2) (.slice Ao29 y382.length co29)) (fun _ hk => trivial)⟩, ⟨by refine upO ?_; refine blk_put (cs := #[.string t369, u372001]) ?_ 1 _ rfl; exact upO BK371.out⟩, ⟨upI HI0.out⟩, ⟨upK HK.out⟩, ⟨upB HB.out⟩⟩
          ·rw [if_neg c24] at H
           exact absurd H (by simp)
         ·rw [if_neg c21] at H
          have c21b0 : (t377.toList == ([78] : List UInt8)) = false := beq_eq_false_iff_ne.mpr c21
          have c21b1 : (t377.toList != ([78] : List UInt8)) = true := bne_iff_ne.mpr c21
          by_cases c31 : t377.toList = ([84] : List UInt8)
          ·rw [if_pos c31] at H
           have c31b0 : (t377.toList == ([84] : List UInt8)) = true := beq_iff_eq.mpr c31
           have c31b1 : (t377.toList != ([84] : List UInt8)) = false := bne_eq_false_iff_eq.mpr c31
           clear c31
           cases A320 : journal_reader_take.f t378 1 with
           | none =>
            rw [A320, bindP_none] at H
            simp only [Option.some.injEq] at H
            subst H
            have A32 := Aside0.mk (take_none A320 (by first | omega | exact bt_nonneg _ _))
            clear A320
            try go_wp2_with (first | ((with_reducible refine gate_callee (f := 93) rfl ?_); refine goesS (some 23) Tryz.func93 #[.pointer (some ⟨g, 0, none⟩), .int .i64 1] ?_; (with_reducible refine (journal_reader_take.calls g x1000_2 1 t377 t378 w0 _ ?side1 ?side2 A20.out).mono ?_); (case side1 => exact upI HI0.out); (case side2 => exact upB HB.out); rintro e w37 ⟨rfl, hi, hb, hk⟩; refine ⟨_, rfl, ?_⟩; have n0_ := Aside0.mk (Kd.S_mono (Kd.S_keep (IsS103.apartS (show IsS103 w0 _ g x1000_2 from upI HI0.out) (upS HO_3.out) (by decide)) hk (fun _ h => h.2)) (fun _ h => h.1)); have n1_ := Aside0.mk (Kd.R_mono (Kd.R_keep (IsS103.apart (show IsS103 w0 _ g x1000_2 from upI HI0.out) (upR HO_372001.out) (by decide)) hk (fun _ h => h.2)) (fun _ h => h.1)); have n2_ := Aside0.mk (KeepBut.blk hk (g' := gb371) (o := .cells #[.string t369, u372001] 90 (0, 0)) (upO BK371.out) NB371_0.out (by simp)); have n3_ := Aside0.mk (KeepBut.trans (upK HK.out) hk (.inl rfl)); have n4_ := Aside0.mk (hb); have n5_ := Aside0.mk (hi); clear HO_3; clear HO_372001; clear BK371; clear HK; clear HB; clear HI0; have HO_3 := n0_; have HO_372001 := n1_; have BK371 := n2_; have HK := n3_; have HB := n4_; have HI0 := n5_; clear n0_ n1_ n2_ n3_ n4_ n5_; (try clear hb); (try clear hb2); (try clear hk); (try clear hi)))
            have n0_ := Aside0.mk (Kd.S_drew HO_3.out)
            have n1_ := Aside0.mk (Kd.R_drew HO_372001.out)
            have n2_ := Aside0.mk (blk_drew BK371.out)
            have n3_ := Aside0.mk (IsS103.drew HI0.out)
            have n4_ := Aside0.mk (keep_drew HK.out)
            have n5_ := Aside0.mk (below_drew1 HB.out)
            clear HO_3
            clear HO_372001
            clear BK371
            clear HI0
            clear HK
            clear HB
            have HO_3 := n0_
            have HO_372001 := n1_
            have BK371 := n2_
            have HI0 := n3_
            have HK := n4_
            have HB := n5_
            clear n0_ n1_ n2_ n3_ n4_ n5_
            refine start_ (n := 13) (S := fun w' => w'.cell? ⟨gb371, 0, none⟩ = some (.string t369) ∧ w'.cell? ⟨gb371, 1, none⟩ = some (u372001)) (ds := [12]) #[false,false,false,false,false,false,false,false,false,false,false,false,false] (by kernel_rfl) rfl rfl ⟨(blk_cell BK371.out 0).trans rfl, (blk_cell BK371.out 1).trans rfl⟩ (fun hHeld => ?_); refine with_tabW factsP.tab12 factsP.bits12 (fun HT_ HW_ => ?_)
            generalize w37.drew = w38 at HO_3 HO_372001 BK371 HI0 HK HB hHeld ⊢
            refine pureS 0 (some 40) HT_ ?_
            refine pureS 2 (some 42) HT_ ?_
            refine pureS 3 (some 43) HT_ ?_
            refine takeS 1 (some 41) HT_ HW_ hHeld ?_
            refine one_ (i := 4) (N := some 44) #[true, true, true, true, true, false,false,false,false,false,false,false,false] rfl rfl (one_of HT_.out (by kernel_rfl)) (by decide) (fun K hK => ?_)
            refine goesR_ Tryz.func93 (by kernel_rfl) rfl #[.pointer (some ⟨g, 0, none⟩), .int .i64 1] (by rfl) rfl rfl (by (try simp only [List.map_toArray, List.map_cons, List.map_nil]); first | done | rfl | (simp only [List.length_drop, List.length_take]; rfl)) ?_
            with_reducible refine (take_panics g t378 1 w0 _ ?side1 A32.out).mono ?_
            (case side1 => exact (upI HI0.out))
            rintro e w_ ⟨rfl, hw⟩
            subst hw
            refine ⟨_, rfl, ?_⟩
            clear hK K
            try go_wp2
            exact ⟨rfl, ⟨rfl, t378, (upI HI0.out)⟩, (upB HB.out), (upK HK.out)⟩
           | some p_ =>
           obtain ⟨t385, t386⟩ := p_
           rw [A320, bindP_some] at H
           replace H : (if 0 < (t385.size : Int) then (bindP (journal_reader_take.f t386 (wrap64 (bt t385 0))) fun bt387 => (if x372001_2.length < 4398046511104 then (factsP.l1 k2 x3_1 t365 x8_1 (bt t372 0) ((x20_2 + 1) % 256) bt387.2 t369 (x372001_2 ++ [(⟨2, 0, bt387.1⟩ : S85)])) else (none))) else (none)) = some r := H
           have A32 := Aside0.mk A320
           clear A320
           by_cases c33 : 0 < (t385.size : Int)
           ·rw [if_pos c33] at H
            have c33b0 := decide_eq_true c33
            have c33b1 : decide (0 < t385.size) = true := decide_eq_true (by omega)
            clear c33
            cases A350 : journal_reader_take.f t386 (wrap64 (bt t385 0)) with
            | none =>
             rw [A350, bindP_none] at H
             simp only [Option.some.injEq] at H
             subst H
             have A35 := Aside0.mk (take_none A350 (by first | omega | exact bt_nonneg _ _))
             clear A350
             try go_wp2_with (first | ((with_reducible refine gate_callee (f := 93) rfl ?_); refine goesS (some 23) Tryz.func93 #[.pointer (some ⟨g, 0, none⟩), .int .i64 1] ?_; (with_reducible refine (journal_reader_take.calls g x1000_2 1 t377 t378 w0 _ ?side1 ?side2 A20.out).mono ?_); (case side1 => exact upI HI0.out); (case side2 => exact upB HB.out); rintro e w37 ⟨rfl, hi, hb, hk⟩; refine ⟨_, rfl, ?_⟩; have n0_ := Aside0.mk (Kd.S_mono (Kd.S_keep (IsS103.apartS (show IsS103 w0 _ g x1000_2 from upI HI0.out) (upS HO_3.out) (by decide)) hk (fun _ h => h.2)) (fun _ h => h.1)); have n1_ := Aside0.mk (Kd.R_mono (Kd.R_keep (IsS103.apart (show IsS103 w0 _ g x1000_2 from upI HI0.out) (upR HO_372001.out) (by decide)) hk (fun _ h => h.2)) (fun _ h => h.1)); have n2_ := Aside0.mk (KeepBut.blk hk (g' := gb371) (o := .cells #[.string t369, u372001] 90 (0, 0)) (upO BK371.out) NB371_0.out (by simp)); have n3_ := Aside0.mk (KeepBut.trans (upK HK.out) hk (.inl rfl)); have n4_ := Aside0.mk (hb); have n5_ := Aside0.mk (hi); clear HO_3; clear HO_372001; clear BK371; clear HK; clear HB; clear HI0; have HO_3 := n0_; have HO_372001 := n1_; have BK371 := n2_; have HK := n3_; have HB := n4_; have HI0 := n5_; clear n0_ n1_ n2_ n3_ n4_ n5_; (try clear hb); (try clear hb2); (try clear hk); (try clear hi)))
             have n0_ := Aside0.mk (Kd.S_drew HO_3.out)
             have n1_ := Aside0.mk (Kd.R_drew HO_372001.out)
             have n2_ := Aside0.mk (blk_drew BK371.out)
             have n3_ := Aside0.mk (IsS103.drew HI0.out)
             have n4_ := Aside0.mk (keep_drew HK.out)
             have n5_ := Aside0.mk (below_drew1 HB.out)
             clear HO_3
             clear HO_372001
             clear BK371
             clear HI0
             clear HK
             clear HB
             have HO_3 := n0_
             have HO_372001 := n1_
             have BK371 := n2_
             have HI0 := n3_
             have HK := n4_
             have HB := n5_
             clear n0_ n1_ n2_ n3_ n4_ n5_
             refine start_ (n := 13) (S := fun w' => w'.cell? ⟨gb371, 0, none⟩ = some (.string t369) ∧ w'.cell? ⟨gb371, 1, none⟩ = some (u372001)) (ds := [12]) #[false,false,false,false,false,false,false,false,false,false,false,false,false] (by kernel_rfl) rfl rfl ⟨(blk_cell BK371.out 0).trans rfl, (blk_cell BK371.out 1).trans rfl⟩ (fun hHeld => ?_); refine with_tabW factsP.tab12 factsP.bits12 (fun HT_ HW_ => ?_)
             generalize w37.drew = w38 at HO_3 HO_372001 BK371 HI0 HK HB hHeld ⊢
             refine pureS 0 (some 40) HT_ ?_
             refine pureS 2 (some 42) HT_ ?_
             refine pureS 3 (some 43) HT_ ?_
             refine takeS 1 (some 41) HT_ HW_ hHeld ?_
             refine one_ (i := 4) (N := some 44) #[true, true, true, true, true, false,false,false,false,false,false,false,false] rfl rfl (one_of HT_.out (by kernel_rfl)) (by decide) (fun K hK => ?_)
             refine goes_ Tryz.func93 (by kernel_rfl) rfl #[.pointer (some ⟨g, 0, none⟩), .int .i64 1] (by rfl) rfl rfl (by (try simp only [List.map_toArray, List.map_cons, List.map_nil]); first | done | rfl | (simp only [List.length_drop, List.length_take]; rfl)) ?_
             with_reducible refine (journal_reader_take.calls g t378 1 t385 t386 w0 _ ?side1 ?side2 A32.out).mono ?_
             (case side1 => exact upI HI0.out)
             (case side2 => exact upB HB.out)
             rintro e w39 ⟨rfl, hi, hb, hk⟩
             refine ⟨_, rfl, ?_⟩
             have n0_ := Aside0.mk (Kd.S_mono (Kd.S_keep (IsS103.apartS (show IsS103 w0 _ g t378 from upI HI0.out) (upS HO_3.out) (by decide)) hk (fun _ h => h.2)) (fun _ h => h.1))
             have n1_ := Aside0.mk (Kd.R_mono (Kd.R_keep (IsS103.apart (show IsS103 w0 _ g t378 from upI HI0.out) (upR HO_372001.out) (by decide)) hk (fun _ h => h.2)) (fun _ h => h.1))
             have n2_ := Aside0.mk (KeepBut.blk hk (g' := gb371) (o := .cells #[.string t369, u372001] 90 (0, 0)) (upO BK371.out) NB371_0.out (by simp))
             have n3_ := Aside0.mk (KeepBut.trans (upK HK.out) hk (.inl rfl))
             have n4_ := Aside0.mk (hb)
             have n5_ := Aside0.mk (hi)
             clear HO_3
             clear HO_372001
             clear BK371
             clear HK
             clear HB
             clear HI0
             have HO_3 := n0_
             have HO_372001 := n1_
             have BK371 := n2_
             have HK := n3_
             have HB := n4_
             have HI0 := n5_
             clear n0_ n1_ n2_ n3_ n4_ n5_
             (try clear hb)
             (try clear hb2)
             (try clear hk)
             (try clear hi)
             have p34 : 0 ≤ (0 : Int) := (by omega)
             have q34 : 0 < t385.size := (by have : (0 : Int) < (t385.size : Int) := of_decide_eq_true byA; omega)
             have hx34 : ∀ h : 0 < t385.size, ((t385[0]'h).toNat : Int) = bt t385 0 := bt_at t385 0
             clear p34
             have qi34 : (0 < (t385.size : Int)) = True := eq_true (of_decide_eq_true byA)
             replace q34 := eq_true q34
             refine hK.out _ _ ⟨(blk_cell BK371.out 0).trans rfl, (blk_cell BK371.out 1).trans rfl⟩ (fun hHeld => ?_)
             clear hK K
             refine normS (some 44) ?_
             refine takeS 5 (some 45) HT_ HW_ hHeld ?_
             refine pureS 6 (some 46) HT_ ?_
             refine one_ (i := 7) (N := some 47) #[true, true, true, true, true, true, true, true, false,false,false,false,false] rfl rfl (one_of HT_.out (by kernel_rfl)) (by decide) (fun K hK => ?_)
             refine goesR_ Tryz.func93 (by kernel_rfl) rfl #[.pointer (some ⟨g, 0, none⟩), .int .i64 (wrap64 (bt t385 0))] (by rfl) rfl rfl (by (try simp only [List.map_toArray, List.map_cons, List.map_nil]); first | done | rfl | (simp only [List.length_drop, List.length_take]; rfl)) ?_
             with_reducible refine (take_panics g t386 (wrap64 (bt t385 0)) w0 _ ?side1 A35.out).mono ?_
             (case side1 => exact (upI HI0.out))
             rintro e w_ ⟨rfl, hw⟩
             subst hw
             refine ⟨_, rfl, ?_⟩
             clear hK K
             try go_wp2
             exact ⟨rfl, ⟨rfl, t386, (upI HI0.out)⟩, (upB HB.out), (upK HK.out)⟩
            | some p_ =>
            obtain ⟨t387, t388⟩ := p_
            rw [A350, bindP_some] at H
            replace H : (if x372001_2.length < 4398046511104 then (factsP.l1 k2 x3_1 t365 x8_1 (bt t372 0) ((x20_2 + 1) % 256) t388 t369 (x372001_2 ++ [(⟨2, 0, t387⟩ : S85)])) else (none)) = some r := H
            have A35 := Aside0.mk A350
            clear A350
            by_cases c36 : x372001_2.length < 4398046511104
            ·rw [if_pos c36] at H
             have LMc36 := Aside0.mk c36
             clear c36
             obtain ⟨y389, hy389⟩ : ∃ y_ : List (S85), y_ = (x372001_2 ++ [(⟨2, 0, t387⟩ : S85)]) := ⟨_, rfl⟩
             replace H : (factsP.l1 k2 x3_1 t365 x8_1 (bt t372 0) ((x20_2 + 1) % 256) t388 t369 y389) = some r := by first | (rw [hy389]; with_reducible exact H) | (have H2_ := (Option.bind_some _ _).symm.trans H; rw [hy389]; with_reducible exact H2_) | (have H2_ := (Option.bind_some _ _).symm.trans H; with_reducible exact H2_) | with_reducible exact H | (rw [hy389]; exact H) | exact H
             have Ny389 := Aside0.mk hy389
             clear hy389
             have H' := Aside0.mk H
             clear H
             try go_wp2_with (first | ((with_reducible refine gate_callee (f := 93) rfl ?_); refine goesS (some 23) Tryz.func93 #[.pointer (some ⟨g, 0, none⟩), .int .i64 1] ?_; (with_reducible refine (journal_reader_take.calls g x1000_2 1 t377 t378 w0 _ ?side1 ?side2 A20.out).mono ?_); (case side1 => exact upI HI0.out); (case side2 => exact upB HB.out); rintro e w37 ⟨rfl, hi, hb, hk⟩; refine ⟨_, rfl, ?_⟩; have n0_ := Aside0.mk (Kd.S_mono (Kd.S_keep (IsS103.apartS (show IsS103 w0 _ g x1000_2 from upI HI0.out) (upS HO_3.out) (by decide)) hk (fun _ h => h.2)) (fun _ h => h.1)); have n1_ := Aside0.mk (Kd.R_mono (Kd.R_keep (IsS103.apart (show IsS103 w0 _ g x1000_2 from upI HI0.out) (upR HO_372001.out) (by decide)) hk (fun _ h => h.2)) (fun _ h => h.1)); have n2_ := Aside0.mk (KeepBut.blk hk (g' := gb371) (o := .cells #[.string t369, u372001] 90 (0, 0)) (upO BK371.out) NB371_0.out (by simp)); have n3_ := Aside0.mk (KeepBut.trans (upK HK.out) hk (.inl rfl)); have n4_ := Aside0.mk (hb); have n5_ := Aside0.mk (hi); clear HO_3; clear HO_372001; clear BK371; clear HK; clear HB; clear HI0; have HO_3 := n0_; have HO_372001 := n1_; have BK371 := n2_; have HK := n3_; have HB := n4_; have HI0 := n5_; clear n0_ n1_ n2_ n3_ n4_ n5_; (try clear hb); (try clear hb2); (try clear hk); (try clear hi)))
             have n0_ := Aside0.mk (Kd.S_drew HO_3.out)
             have n1_ := Aside0.mk (Kd.R_drew HO_372001.out)
             have n2_ := Aside0.mk (blk_drew BK371.out)
             have n3_ := Aside0.mk (IsS103.drew HI0.out)
             have n4_ := Aside0.mk (keep_drew HK.out)
             have n5_ := Aside0.mk (below_drew1 HB.out)
             clear HO_3
             clear HO_372001
             clear BK371
             clear HI0
             clear HK
             clear HB
             have HO_3 := n0_
             have HO_372001 := n1_
             have BK371 := n2_
             have HI0 := n3_
             have HK := n4_
             have HB := n5_
             clear n0_ n1_ n2_ n3_ n4_ n5_
             refine start_ (n := 13) (S := fun w' => w'.cell? ⟨gb371, 0, none⟩ = some (.string t369) ∧ w'.cell? ⟨gb371, 1, none⟩ = some (u372001)) (ds := [12]) #[false,false,false,false,false,false,false,false,false,false,false,false,false] (by kernel_rfl) rfl rfl ⟨(blk_cell BK371.out 0).trans rfl, (blk_cell BK371.out 1).trans rfl⟩ (fun hHeld => ?_); refine with_tabW factsP.tab12 factsP.bits12 (fun HT_ HW_ => ?_)
             generalize w37.drew = w38 at HO_3 HO_372001 BK371 HI0 HK HB hHeld ⊢
             refine pureS 0 (some 40) HT_ ?_
             refine pureS 2 (some 42) HT_ ?_
             refine pureS 3 (some 43) HT_ ?_
             refine takeS 1 (some 41) HT_ HW_ hHeld ?_
             refine one_ (i := 4) (N := some 44) #[true, true, true, true, true, false,false,false,false,false,false,false,false] rfl rfl (one_of HT_.out (by kernel_rfl)) (by decide) (fun K hK => ?_)
             refine goes_ Tryz.func93 (by kernel_rfl) rfl #[.pointer (some ⟨g, 0, none⟩), .int .i64 1] (by rfl) rfl rfl (by (try simp only [List.map_toArray, List.map_cons, List.map_nil]); first | done | rfl | (simp only [List.length_drop, List.length_take]; rfl)) ?_
             with_reducible refine (journal_reader_take.calls g t378 1 t385 t386 w0 _ ?side1 ?side2 A32.out).mono ?_
             (case side1 => exact upI HI0.out)
             (case side2 => exact upB HB.out)
             rintro e w39 ⟨rfl, hi, hb, hk⟩
             refine ⟨_, rfl, ?_⟩
             have n0_ := Aside0.mk (Kd.S_mono (Kd.S_keep (IsS103.apartS (show IsS103 w0 _ g t378 from upI HI0.out) (upS HO_3.out) (by decide)) hk (fun _ h => h.2)) (fun _ h => h.1))
             have n1_ := Aside0.mk (Kd.R_mono (Kd.R_keep (IsS103.apart (show IsS103 w0 _ g t378 from upI HI0.out) (upR HO_372001.out) (by decide)) hk (fun _ h => h.2)) (fun _ h => h.1))
             have n2_ := Aside0.mk (KeepBut.blk hk (g' := gb371) (o := .cells #[.string t369, u372001] 90 (0, 0)) (upO BK371.out) NB371_0.out (by simp))
             have n3_ := Aside0.mk (KeepBut.trans (upK HK.out) hk (.inl rfl))
             have n4_ := Aside0.mk (hb)
             have n5_ := Aside0.mk (hi)
             clear HO_3
             clear HO_372001
             clear BK371
             clear HK
             clear HB
             clear HI0
             have HO_3 := n0_
             have HO_372001 := n1_
             have BK371 := n2_
             have HK := n3_
             have HB := n4_
             have HI0 := n5_
             clear n0_ n1_ n2_ n3_ n4_ n5_
             (try clear hb)
             (try clear hb2)
             (try clear hk)
             (try clear hi)
             have p34 : 0 ≤ (0 : Int) := (by omega)
             have q34 : 0 < t385.size := (by have : (0 : Int) < (t385.size : Int) := of_decide_eq_true byA; omega)
             have hx34 : ∀ h : 0 < t385.size, ((t385[0]'h).toNat : Int) = bt t385 0 := bt_at t385 0
             clear p34
             have qi34 : (0 < (t385.size : Int)) = True := eq_true (of_decide_eq_true byA)
             replace q34 := eq_true q34
             refine hK.out _ _ ⟨(blk_cell BK371.out 0).trans rfl, (blk_cell BK371.out 1).trans rfl⟩ (fun hHeld => ?_)
             clear hK K
             refine normS (some 44) ?_
             refine takeS 5 (some 45) HT_ HW_ hHeld ?_
             refine pureS 6 (some 46) HT_ ?_
             refine one_ (i := 7) (N := some 47) #[true, true, true, true, true, true, true, true, false,false,false,false,false] rfl rfl (one_of HT_.out (by kernel_rfl)) (by decide) (fun K hK => ?_)
             refine goes_ Tryz.func93 (by kernel_rfl) rfl #[.pointer (some ⟨g, 0, none⟩), .int .i64 (wrap64 (bt t385 0))] (by rfl) rfl rfl (by (try simp only [List.map_toArray, List.map_cons, List.map_nil]); first | done | rfl | (simp only [List.length_drop, List.length_take]; rfl)) ?_
             with_reducible refine (journal_reader_take.calls g t386 (wrap64 (bt t385 0)) t387 t388 w0 _ ?side1 ?side2 A35.out).mono ?_
             (case side1 => exact upI HI0.out)
             (case side2 => exact upB HB.out)
             rintro e w40 ⟨rfl, hi, hb, hk⟩
             refine ⟨_, rfl, ?_⟩
             have n0_ := Aside0.mk (Kd.S_mono (Kd.S_keep (IsS103.apartS (show IsS103 w0 _ g t386 from upI HI0.out) (upS HO_3.out) (by decide)) hk (fun _ h => h.2)) (fun _ h => h.1))
             have n1_ := Aside0.mk (Kd.R_mono (Kd.R_keep (IsS103.apart (show IsS103 w0 _ g t386 from upI HI0.out) (upR HO_372001.out) (by decide)) hk (fun _ h => h.2)) (fun _ h => h.1))
             have n2_ := Aside0.mk (KeepBut.blk hk (g' := gb371) (o := .cells #[.string t369, u372001] 90 (0, 0)) (upO BK371.out) NB371_0.out (by simp))
             have n3_ := Aside0.mk (KeepBut.trans (upK HK.out) hk (.inl rfl))
             have n4_ := Aside0.mk (hb)
             have n5_ := Aside0.mk (hi)
             clear HO_3
             clear HO_372001
             clear BK371
             clear HK
             clear HB
             clear HI0
             have HO_3 := n0_
             have HO_372001 := n1_
             have BK371 := n2_
             have HK := n3_
             have HB := n4_
             have HI0 := n5_
             clear n0_ n1_ n2_ n3_ n4_ n5_
             (try clear hb)
             (try clear hb2)
             (try clear hk)
             (try clear hi)
             refine hK.out _ _ ⟨(blk_cell BK371.out 0).trans rfl, (blk_cell BK371.out 1).trans rfl⟩ (fun hHeld => ?_)
             clear hK K
             refine normS (some 47) ?_
             refine pureS 8 (some 48) HT_ ?_
             refine one_ (i := 9) (N := some 49) #[true, true, true, true, true, true, true, true, true, true, false,false,false] rfl rfl (one_of HT_.out (by kernel_rfl)) (by decide) (fun K hK => ?_)
             refine value_ (w1 := ?_) (v := ?_) (by rfl) rfl ?_ ?_
             rotate_left 2
             ·go_simp
              constructor
              ·rfl
              ·rfl
             refine hK.out _ _ ⟨(blk_cell (blk_alloc BK371.out _) 0).trans rfl, (blk_cell (blk_alloc BK371.out _) 1).trans rfl⟩ (fun hHeld => ?_)
             clear hK K
             refine normS (some 49) ?_
             refine one_ (i := 10) (N := some 50) #[true, true, true, true, true, true, true, true, true, true, true, false,false] rfl rfl (one_of HT_.out (by kernel_rfl)) (by decide) (fun K hK => ?_)
             refine Kd.R_append_step k85 w.heap.size (by rfl) (.tmp 41) (.tmp 49) 88 85 (.agg #[(.int .i8 0), (.int .i64 0), (.string ⟨#[]⟩)]) 32 rfl Tryz.underlying88 info85 rfl (by decide) (by omega) u372001 x372001_2 (⟨2, 0, t387⟩ : S85) [.int .i8 2, .int .i64 0, .string t387] (fun _ => True) (fun _ => False) rfl rfl ?aP (fun _ hk => hk.elim) ?aF ?aO (Below.refl _ _) ?aS ?aL ?_
             (case aP => exact k85_mkM _ _ _ (⟨2, 0, t387⟩ : S85))
             (case aF => exact (fun _ _ => trivial))
             (case aO => exact (upR HO_372001.out))
             (case aS => exact (keep_size (w := w) (g := g) (row := none) (upK HK.out)))
             (case aL => have := LMc36.out; omega)
             intro v390 w41 ho hb hg hat
             rw [← Ny389.out] at ho
             have n0_ := Aside0.mk (Kd.S_after (ok := (fun k_ => k_ ≠ gb371)) (by (with_reducible repeat (first | apply Kd.S_alloc | apply Kd.S_drewN | apply Kd.S_drew)); exact Kd.S_mono HO_3.out (fun _ hk => ⟨hk.2, hk.1⟩)) hg hat)
             have n1_ := Aside0.mk (blk_grown (g := gb371) (o := .cells #[.string t369, u372001] 90 (0, 0)) (upO BK371.out) hg (Kd.R_ne HO_372001.out BK371.out (by decide)))
             have n2_ := Aside0.mk (IsS103.grown (upI HI0.out) hg (IsS103.own_ne HI0.out HO_372001.out (by decide)))
             have n3_ := Aside0.mk (below_weaken (upB HB.out) HL.out hb)
             have n4_ := Aside0.mk (KeepBut.trans (upK HK.out) (KeepBut.of_grown hg g) (Kd.R_base2 HO_372001.out))
             have n5_ := Aside0.mk (ho)
             clear HO_3
             clear BK371
             clear HI0
             clear HB
             clear HK
             clear HO_372001
             have HO_3 := n0_
             have BK371 := n1_
             have HI0 := n2_
             have HB := n3_
             have HK := n4_
             have HO391 := n5_
             clear n0_ n1_ n2_ n3_ n4_ n5_
             clear ho hb hg hat
             obtain ⟨Ao42, co42, eo42⟩ := Kd.R_slice HO391.out
             (first | subst eo42 | (injection eo42 with f1_ f2_ f3_; have f4_ := f1_.symm; have f5_ := f3_.symm; clear f1_ f2_ f3_; subst f4_; subst f5_))
             refine hK.out _ _ ⟨(blk_cell BK371.out 0).trans rfl, (blk_cell BK371.out 1).trans rfl⟩ (fun hHeld => ?_)
             clear hK K
             refine normS (some 50) ?_
             refine pureS 11 (some 51) HT_ ?_
             refine last_ (i := 12) (N := none) #[true, true, true, true, true, true, true, true, true, true, true, true, true] rfl rfl (one_of HT_.out (by kernel_rfl)) (by decide) (fun K hK => ?_)
             have hs43 : w41.cell? ⟨gb371, 1, none⟩ = some (u372001) := (blk_cell BK371.out 1).trans rfl
             have hfs43 := blk_frozen BK371.out 1
             refine skip_ (w1 := ?_) (by rfl) rfl ?_ ?_
             rotate_left
             ·go_simp
              rfl
             refine hK.out _ _ ?_
             clear hK K
             refine done_ (done_of HT_.out (by kernel_rfl)) ?_
             try go_wp2
             go_roundg k2
             case measure => have := HK1.out; have := HK2.out; omega
             case rel => exact ⟨((x20_2 + 1) % 256), (t388), (y389), (.slice Ao42 y389.length co42), eqS, H', ⟨by have := HK1.out; have := HK2.out; omega⟩, ⟨by (with_reducible repeat (first | apply Kd.S_alloc | apply Kd.S_drewN | apply Kd.S_drew)); exact Kd.S_mono (Kd.S_far (p := ⟨gb371, 1, none⟩) (Kd.S_mono HO_3.out (fun k_ hk => (⟨hk, hk.1⟩ : _ ∧ k_ ≠ gb371))) (fun _ hk => hk.2) (.slice Ao42 y389.length co42)) (fun _ hk => ⟨hk.1.2, hk.1.1⟩)⟩, ⟨by (with_reducible repeat (first | apply Kd.R_alloc | apply Kd.R_drewN | apply Kd.R_drew)); exact Kd.R_mono (Kd.R_far (p := ⟨gb371, 1, none⟩) (Kd.R_types HO391.out BK371.out (by decide)) (fun _ hk => hk.2) (.slice Ao42 y389.length co42)) (fun _ hk => trivial)⟩, ⟨by refine upO ?_; refine blk_put (cs := #[.string t369, u372001]) ?_ 1 _ rfl; exact upO BK371.out⟩, ⟨upI HI0.out⟩, ⟨upK HK.out⟩, ⟨upB HB.out⟩⟩
            ·rw [if_neg c36] at H
             exact absurd H (by simp)
           ·rw [if_neg c33] at H
            exact absurd H (by simp)
          ·skip
           rw [if_neg c31] at H
           have c31b0 : (t377.toList == ([84] : List UInt8)) = false := beq_eq_false_iff_ne.mpr c31
           have c31b1 : (t377.toList != ([84] : List UInt8)) = true := bne_iff_ne.mpr c31
           clear c31
           simp only [Option.some.injEq] at H
           subst H
           go_wp2_with (first | ((with_reducible refine gate_callee (f := 93) rfl ?_); refine goesS (some 23) Tryz.func93 #[.pointer (some ⟨g, 0, none⟩), .int .i64 1] ?_; (with_reducible refine (journal_reader_take.calls g x1000_2 1 t377 t378 w0 _ ?side1 ?side2 A20.out).mono ?_); (case side1 => exact upI HI0.out); (case side2 => exact upB HB.out); rintro e w37 ⟨rfl, hi, hb, hk⟩; refine ⟨_, rfl, ?_⟩; have n0_ := Aside0.mk (Kd.S_mono (Kd.S_keep (IsS103.apartS (show IsS103 w0 _ g x1000_2 from upI HI0.out) (upS HO_3.out) (by decide)) hk (fun _ h => h.2)) (fun _ h => h.1)); have n1_ := Aside0.mk (Kd.R_mono (Kd.R_keep (IsS103.apart (show IsS103 w0 _ g x1000_2 from upI HI0.out) (upR HO_372001.out) (by decide)) hk (fun _ h => h.2)) (fun _ h => h.1)); have n2_ := Aside0.mk (KeepBut.blk hk (g' := gb371) (o := .cells #[.string t369, u372001] 90 (0, 0)) (upO BK371.out) NB371_0.out (by simp)); have n3_ := Aside0.mk (KeepBut.trans (upK HK.out) hk (.inl rfl)); have n4_ := Aside0.mk (hb); have n5_ := Aside0.mk (hi); clear HO_3; clear HO_372001; clear BK371; clear HK; clear HB; clear HI0; have HO_3 := n0_; have HO_372001 := n1_; have BK371 := n2_; have HK := n3_; have HB := n4_; have HI0 := n5_; clear n0_ n1_ n2_ n3_ n4_ n5_; (try clear hb); (try clear hb2); (try clear hk); (try clear hi)))
           exact ⟨rfl, ⟨rfl, t378, (upI HI0.out)⟩, (upB HB.out), (upK HK.out)⟩
        ·rw [if_neg c19] at H
         have c19b0 := decide_eq_false c19
         clear c19
         by_cases c44 : x3_1.length < 3518437208883
         ·rw [if_pos c44] at H
          have LMc44 := Aside0.mk c44
          clear c44
          obtain ⟨y374, hy374⟩ : ∃ y_ : List (S90), y_ = (x3_1 ++ [(⟨t369, x372001_2⟩ : S90)]) := ⟨_, rfl⟩
          replace H : (factsP.l0 k2 y374 t365 ((x8_1 + 1) % 4294967296) x1000_2) = some r := by first | (rw [hy374]; with_reducible exact H) | (have H2_ := (Option.bind_some _ _).symm.trans H; rw [hy374]; with_reducible exact H2_) | (have H2_ := (Option.bind_some _ _).symm.trans H; with_reducible exact H2_) | with_reducible exact H | (rw [hy374]; exact H) | exact H
          have Ny374 := Aside0.mk hy374
          clear hy374
          have H' := Aside0.mk H
          clear H
          have hnb45 := NB371_0.out
          have hnc45 := NB0_371.out
          have hcz46_0 : wr.cell? ⟨gb371, 0, none⟩ = some (.string t369) := (blk_cell BK371.out 0).trans rfl
          have hcz46_1 : wr.cell? ⟨gb371, 1, none⟩ = some (u372001) := (blk_cell BK371.out 1).trans rfl
          have hfz46_0 := blk_frozen BK371.out 0
          have hfz46_1 := blk_frozen BK371.out 1
          obtain ⟨Ao48, co48, eo48⟩ := Kd.R_slice HO_372001.out
          subst eo48
          go_wp2_with (first | ((with_reducible refine gate_builtin (b := .append) (xs := #[.tmp 53, .tmp 55]) rfl ?_); at_builtin; refine Kd.S_append k90 w.heap.size rfl (.tmp 53) (.tmp 55) 22 90 (.agg #[(.string ⟨#[]⟩), (.slice none 0 0)]) 40 rfl Tryz.underlying22 info90 rfl (by decide) (by omega) u3 x3_1 (⟨t369, x372001_2⟩ : S90) [.string t369, .slice Ao48 x372001_2.length co48] (fun k_ => k_ ≠ gb371) (fun k_ => some k_ = (.slice Ao48 x372001_2.length co48 : Value).ownBlock) rfl rfl ?aP (fun k_ hk_ => ((Kd.R_mono (ok' := fun k_ => ((fun k_ => k_ ≠ gb371)) k_ ∧ some k_ ≠ (u3 : Value).ownBlock) (Kd.R_types (Kd.R_apart' (HO_372001.out) (Kd.S_typed HO_3.out) (by decide)) BK371.out (by decide)) (fun k_ hk => ⟨hk.2, hk.1.2⟩))).1 k_ hk_.symm) ?aF ?aO (Below.refl _ _) ?aS ?aL ?_; (case aP => exact k90_mkM _ _ _ (⟨t369, x372001_2⟩ : S90) (Kd.R_mono (Kd.R_tight rfl (Kd.R_mono (ok' := fun k_ => ((fun k_ => k_ ≠ gb371)) k_ ∧ some k_ ≠ (u3 : Value).ownBlock) (Kd.R_types (Kd.R_apart' (HO_372001.out) (Kd.S_typed HO_3.out) (by decide)) BK371.out (by decide)) (fun k_ hk => ⟨hk.2, hk.1.2⟩))) (fun _ h_ => h_))); (case aF => exact (fun k_ hk => Kd.freshB (g := gb371) (o := .cells #[.string t369, .slice Ao48 x372001_2.length co48] 90 (0, 0)) (upO BK371.out) k_ hk)); (case aO => exact (by (with_reducible repeat (first | apply Kd.S_alloc | apply Kd.S_drewN | apply Kd.S_drew)); exact Kd.S_mono HO_3.out (fun k_ hk => ⟨hk.2, fun e_ => hk.1 e_⟩))); (case aS => exact (keep_size (w := w) (g := g) (row := none) (upK HK.out))); (case aL => have := LMc44.out; omega); intro v375 w47 ho hb hg hat; rw [← Ny374.out] at ho; have n0_ := Aside0.mk (blk_grown (g := gb371) (o := .cells #[.string t369, .slice Ao48 x372001_2.length co48] 90 (0, 0)) (upO BK371.out) hg (Kd.S_away HO_3.out (fun _ hk => hk.2))); have n1_ := Aside0.mk (IsS103.grown (upI HI0.out) hg (IsS103.own_neS HI0.out HO_3.out (by decide))); have n2_ := Aside0.mk (below_weaken (upB HB.out) HL.out hb); have n3_ := Aside0.mk (KeepBut.trans (upK HK.out) (KeepBut.of_grown hg g) (Kd.S_base2 HO_3.out)); have n4_ := Aside0.mk (ho); clear BK371; clear HI0; clear HB; clear HK; clear HO_3; clear HO_372001; have BK371 := n0_; have HI0 := n1_; have HB := n2_; have HK := n3_; have HO376 := n4_; clear n0_ n1_ n2_ n3_ n4_; clear ho hb hg hat))
          go_roundg k2
          case measure => have := HK1.out; have := HK2.out; omega
          case rel => exact ⟨(y374), ((x8_1 + 1) % 4294967296), (x1000_2), eqS, H', ⟨by have := HK1.out; have := HK2.out; omega⟩, ⟨by (with_reducible repeat (first | apply Kd.S_alloc | apply Kd.S_drewN | apply Kd.S_drew)); exact Kd.S_mono HO376.out (fun _ hk => trivial)⟩, ⟨upI HI0.out⟩, ⟨upK HK.out⟩, ⟨upB HB.out⟩⟩
         ·rw [if_neg c44] at H
          exact absurd H (by simp)
     ·rw [if_neg c11] at H
      exact absurd H (by simp)
    ·rw [if_neg c7] at H
     exact absurd H (by simp)
   ·rw [if_neg c5] at H
    have c5b0 := decide_eq_false c5
    clear c5
    replace H := Option.bind_eq_some_iff.mp H
    obtain ⟨t366, A490, H⟩ := H
    replace H : (if t366 = true then (some (some (x3_1, x1000_1))) else (some none)) = some r := H
    have A49 := Aside0.mk A490
    clear A490
    by_cases c50 : t366 = true
    ·subst c50
     have H1 : (some (some (x3_1, x1000_1))) = some r := by rw [if_pos rfl] at H; exact H
     clear H
     have H := H1
     clear H1
     simp only [Option.some.injEq] at H
     subst H
     obtain ⟨Ao51, co51, eo51⟩ := Kd.S_slice HO_3.out
     subst eo51
     go_wp2_with (first | ((with_reducible refine gate_callee (f := 23) rfl ?_); refine goesS (some 59) Tryz.func23 #[.slice Ao51 x3_1.length co51] ?_; (with_reducible refine (journal_rising.calls k1 _ _ x3_1 true _ ?side1 ?side2 A49.out).mono ?_); (case side1 => repeat (first | exact (Kd.S_reads' HO_3.out).2.2 | (with_reducible refine Kd.C_alloc ?_ _) | (with_reducible refine Kd.C_drewN ?_ _) | (with_reducible refine Kd.C_drew ?_))); (case side2 => exact (Kd.S_reads' HO_3.out).2.1); rintro e w52 ⟨rfl, hb⟩; refine ⟨_, rfl, ?_⟩; have n0_ := Aside0.mk (Kd.S_below (upS HO_3.out) hb); have n1_ := Aside0.mk (IsS103.below (upI HI0.out) hb); have n2_ := Aside0.mk (KeepBut.trans (upK HK.out) (KeepBut.of_below hb g none) (.inl rfl)); have n3_ := Aside0.mk (below_step (upB HB.out) hb); clear HO_3; clear HI0; clear HK; clear HB; have HO_3 := n0_; have HI0 := n1_; have HK := n2_; have HB := n3_; clear n0_ n1_ n2_ n3_; (try clear hb); (try clear hb2); (try clear hk); (try clear hi)))
     go_ret
     exact ⟨⟨_, eqE, upS HO_3.out, upI HI0.out⟩, upB HB.out, upK HK.out⟩
    ·replace c50 := Bool.eq_false_iff.mpr c50
     subst c50
     have H1 : (some none) = some r := by rw [if_neg (show ¬ (false = true) by decide)] at H; exact H
     clear H
     have H := H1
     clear H1
     simp only [Option.some.injEq] at H
     subst H
     obtain ⟨Ao51, co51, eo51⟩ := Kd.S_slice HO_3.out
     subst eo51
     go_wp2_with (first | ((with_reducible refine gate_callee (f := 23) rfl ?_); refine goesS (some 59) Tryz.func23 #[.slice Ao51 x3_1.length co51] ?_; (with_reducible refine (journal_rising.calls k1 _ _ x3_1 false _ ?side1 ?side2 A49.out).mono ?_); (case side1 => repeat (first | exact (Kd.S_reads' HO_3.out).2.2 | (with_reducible refine Kd.C_alloc ?_ _) | (with_reducible refine Kd.C_drewN ?_ _) | (with_reducible refine Kd.C_drew ?_))); (case side2 => exact (Kd.S_reads' HO_3.out).2.1); rintro e w52 ⟨rfl, hb⟩; refine ⟨_, rfl, ?_⟩; have n0_ := Aside0.mk (Kd.S_below (upS HO_3.out) hb); have n1_ := Aside0.mk (IsS103.below (upI HI0.out) hb); have n2_ := Aside0.mk (KeepBut.trans (upK HK.out) (KeepBut.of_below hb g none) (.inl rfl)); have n3_ := Aside0.mk (below_step (upB HB.out) hb); clear HO_3; clear HI0; clear HK; clear HB; have HO_3 := n0_; have HI0 := n1_; have HK := n2_; have HB := n3_; clear n0_ n1_ n2_ n3_; (try clear hb); (try clear hb2); (try clear hk); (try clear hi)))
     exact ⟨rfl, ⟨rfl, x1000_1, (upI HI0.out)⟩, (upB HB.out), (upK HK.out)⟩
end Go.Proofs.J.Print
end
section
namespace Go.Proofs.J.Print
open Go.RowKit Go.Proofs.PrintWords Go.Proofs.PrintLast Go.Proofs.PrintMore
theorem keepTo {w W w' : World} {g g3 : Nat} (h : KeepBut w W g none) (k : KeepBut W w' g3 none) (hg : w.heap.size ≤ g3) : KeepBut w w' g none :=
 ⟨Nat.le_trans h.1 k.1, fun i hi hne hn => (k.2 i (Nat.lt_of_lt_of_le hi h.1) (by omega) hn).trans (h.2 i hi hne hn)⟩
theorem IsS103.keepI {w0 W w' : World} {g g3 : Nat} {s : ByteArray} (h : IsS103 w0 W g s) (k : KeepBut W w' g3 none) (hne : g ≠ g3) : IsS103 w0 w' g s := ⟨k.blk h.1 hne (by simp), h.2⟩
theorem size_of_toList_nil {x : ByteArray} (h : x.toList = []) : x.size = 0 := by
 rw [ByteArray.toList_eq] at h
 have := congrArg List.length h
 simpa using this
theorem toList_nil_of_size {x : ByteArray} (h : x.size = 0) : x.toList = [] := by
 rw [ByteArray.toList_eq]
 exact List.eq_nil_of_length_eq_zero (by simpa using h)
theorem results_cell1 {P : Program} {fn : Func} {p : Tmp} {ty : TypeId} (h : fn.results = #[.cell p ty]) (tmps : Array Value) (w : World) (g : Nat) (t : TypeId) (cs : Array Value) (fr : Nat × Nat) (d : TypeDesc)
  (hp : tmps.getD p undef = .pointer (some ⟨g, 0, none⟩)) (hg : w.heap[g]? = some (.cells cs t fr))
  (hu : P.underlying ty = some d) (hd : (match d with | .struct _ | .array _ _ => true | _ => false) = true) (hi : (P.info? ty).map (·.size) = some cs.size) :
  (results fn tmps).run P w = .ok (.agg cs) w := by
 have hp' : tmps[p]?.getD undef = .pointer (some ⟨g, 0, none⟩) := by simpa using hp
 simp [results, h, hp', asAddr, run_loadVar_row w g t ty cs fr d hg hu hd hi]
def EndsC (w0 w : World) (g : Nat) (r : Option ((Int × List S90 × List S90) × ByteArray)) (e : Ending) (w' : World) : Prop :=
 (match r with | some ((n, l1, l2), s') => ∃ v1 v2 : Value, e = .returned (.agg #[.int .i64 n, v1, v2]) ∧ Kd.S k90 90 w' w.heap.size (fun k_ => some k_ ≠ v2.ownBlock) v1 l1 ∧ Kd.S k90 90 w' w.heap.size (fun k_ => some k_ ≠ v1.ownBlock) v2 l2 ∧ IsS103 w0 w' g s' | none => e = .panicked logChain ∧ ∃ s', IsS103 w0 w' g s') ∧ Below w0.heap.size w0 w' ∧ KeepBut w w' g none
def commitP.f (k : Nat) (s : ByteArray) : Option (Option ((Int × List S90 × List S90) × ByteArray)) :=
 (body.f k s).bind fun rb => bindP rb fun p => bindP (journal_reader_take.f p.1 1) fun p1 => if p1.1.toList = ([67] : List UInt8) then (bindP (journal_reader_take.f p1.2 8) fun p2 => (journal_get_uint64.f k p2.1 8).bind fun n => (factsP.f k p2.2).bind fun r1 => bindP r1 fun q1 => (factsP.f k q1.2).bind fun r2 => bindP r2 fun q2 => if wrap64 n < 1 then some none else (if q2.2.size = 0 then ((journal_apart.f k q1.1 q2.1).bind fun okv => if okv = true then some (some ((wrap64 n, q1.1, q2.1), p.2)) else some none) else some none)) else some none
set_option maxHeartbeats 16000000 in
set_option maxRecDepth 100000 in
theorem commitP.calls (k : Nat) (g : Nat) (s : ByteArray) (r : Option ((Int × List S90 × List S90) × ByteArray)) (w0 w : World) (hI : IsS103 w0 w g s) (hB : Below w0.heap.size w0 w) (h : commitP.f k s = some r) :
  Calls Tryz.prog 38 #[.pointer (some ⟨g, 0, none⟩)] w (EndsC w0 w g r) := by
 have hu128 := Tryz.underlying128
 have hu24 := Tryz.underlying24
 have hu103 := Tryz.underlying103
 have HI0 := Aside0.mk hI
 have HK := Aside0.mk (KeepBut.refl w g none)
 clear hI
 have HB := Aside0.mk hB
 clear hB
 unfold EndsC
 have H := h
 clear h
 unfold commitP.f at H
 replace H := Option.bind_eq_some_iff.mp H
 obtain ⟨rb, A10, H⟩ := H
 have A1 := Aside0.mk A10
 clear A10
 rcases rb with _ | p
 focus
  rw [bindP_none] at H
  simp only [Option.some.injEq] at H
  subst H
 rotate_right
 focus
  obtain ⟨b, s1⟩ := p
  rw [bindP_some] at H
  rcases A20 : journal_reader_take.f b 1 with _ | p_
  focus
   rw [A20, bindP_none] at H
   simp only [Option.some.injEq] at H
   subst H
   have A2 := Aside0.mk (take_none A20 (by omega))
   clear A20
  rotate_right
  focus
   obtain ⟨t1, x1⟩ := p_
   rw [A20, bindP_some] at H
   have A2 := Aside0.mk A20
   clear A20
   replace H : (if t1.toList = ([67] : List UInt8) then _ else _) = some r := H
   by_cases c21 : t1.toList = ([67] : List UInt8)
   case' neg =>
    rw [if_neg c21] at H
    have c21b0 : (t1.toList == ([67] : List UInt8)) = false := beq_eq_false_iff_ne.mpr c21
    have c21b1 : (t1.toList != ([67] : List UInt8)) = true := bne_iff_ne.mpr c21
    clear c21
    simp only [Option.some.injEq] at H
    subst H
   rotate_right
   focus
    rw [if_pos c21] at H
    have c21b0 : (t1.toList == ([67] : List UInt8)) = true := beq_iff_eq.mpr c21
    have c21b1 : (t1.toList != ([67] : List UInt8)) = false := bne_eq_false_iff_eq.mpr c21
    clear c21
    rcases A30 : journal_reader_take.f x1 8 with _ | p_
    focus
     rw [A30, bindP_none] at H
     simp only [Option.some.injEq] at H
     subst H
     have A3 := Aside0.mk (take_none A30 (by omega))
     clear A30
    rotate_right
    focus
     obtain ⟨t2, x2⟩ := p_
     rw [A30, bindP_some] at H
     have A3 := Aside0.mk A30
     clear A30
     replace H : ((journal_get_uint64.f k t2 8).bind _) = some r := H
     replace H := Option.bind_eq_some_iff.mp H
     obtain ⟨n, A40, H⟩ := H
     have A4 := Aside0.mk A40
     clear A40
     replace H := Option.bind_eq_some_iff.mp H
     obtain ⟨r1, A50, H⟩ := H
     have A5 := Aside0.mk A50
     clear A50
     rcases r1 with _ | q1
     focus
      rw [bindP_none] at H
      simp only [Option.some.injEq] at H
      subst H
     rotate_right
     focus
      obtain ⟨l1, x3⟩ := q1
      rw [bindP_some] at H
      replace H : ((factsP.f k x3).bind _) = some r := H
      replace H := Option.bind_eq_some_iff.mp H
      obtain ⟨r2, A60, H⟩ := H
      have A6 := Aside0.mk A60
      clear A60
      rcases r2 with _ | q2
      focus
       rw [bindP_none] at H
       simp only [Option.some.injEq] at H
       subst H
      rotate_right
      focus
       obtain ⟨l2, x4⟩ := q2
       rw [bindP_some] at H
       replace H : (if wrap64 n < 1 then some none else _) = some r := H
       by_cases c5 : wrap64 n < 1
       case' pos =>
        rw [if_pos c5] at H
        have c5b := decide_eq_true c5
        clear c5
        simp only [Option.some.injEq] at H
        subst H
       rotate_right
       focus
        rw [if_neg c5] at H
        have c5b := decide_eq_false c5
        clear c5
        replace H : (if x4.size = 0 then _ else some none) = some r := H
        by_cases c6 : x4.size = 0
        case' neg =>
         rw [if_neg c6] at H
         have c6e : ¬ x4 = ⟨#[]⟩ := fun he => c6 (by rw [he]; rfl)
         have c6b : (x4.toList != ([] : List UInt8)) = true := by first | exact bne_iff_ne.mpr (fun he => c6 (size_of_toList_nil he))
         have c6i : x4.toList.isEmpty = false := by cases hE : x4.toList with
          | nil => exact absurd (size_of_toList_nil hE) c6
          | cons _ _ => rfl
         clear c6 c6e
         simp only [Option.some.injEq] at H
         subst H
        rotate_right
        focus
         rw [if_pos c6] at H
         have c6b : (x4.toList != ([] : List UInt8)) = false := by rw [toList_nil_of_size c6]; rfl
         have c6i : x4.toList.isEmpty = true := by rw [toList_nil_of_size c6]; rfl
         clear c6
         replace H := Option.bind_eq_some_iff.mp H
         obtain ⟨okv, A70, H⟩ := H
         have A7 := Aside0.mk A70
         clear A70
         replace H : (if okv = true then (some (some ((wrap64 n, l1, l2), s1))) else some none) = some r := H
         rcases okv with _ | _
         focus
          replace H : some none = some r := H
          simp only [Option.some.injEq] at H
          subst H
         rotate_right
         focus
          replace H : some (some ((wrap64 n, l1, l2), s1)) = some r := H
          simp only [Option.some.injEq] at H
          subst H
 all_goals (go_enter Tryz.func38, Tryz.ntmps38; go_wp2_with (first | ((with_reducible refine gate_dst (N := 2) rfl ?_); refine boxS 2 #[.int .i64 0, .slice none 0 0, .slice none 0 0] 24 ?_; intro g2 hg wA hbox hb; have n0_ := Aside0.mk (IsS103.below (show IsS103 w0 _ g s from (upI HI0.out)) hb); have n1_ := Aside0.mk ((by rw [hg]; exact Nat.ne_of_lt (IsS103.lt (show IsS103 w0 _ g s from (upI HI0.out))) : g ≠ g2)); have n2_ := Aside0.mk ((by rw [hg]; exact keep_size (w := w) (g := g) (row := none) (upK HK.out) : w.heap.size ≤ g2)); have n3_ := Aside0.mk ((by rw [hg]; exact below_size (upB HB.out) : w0.heap.size ≤ g2)); have n4_ := Aside0.mk (KeepBut.trans (w := w) (upK HK.out) (KeepBut.of_below hb g none) (.inl rfl)); have n5_ := Aside0.mk (below_step (w := w0) (upB HB.out) hb); have n6_ := Aside0.mk (hbox); (try clear HI0); (try clear N2); (try clear L2); (try clear LL2); (try clear HK); (try clear HB); (try clear B2); have HI0 := n0_; have N2 := n1_; have L2 := n2_; have LL2 := n3_; have HK := n4_; have HB := n5_; have B2 := n6_; clear n0_ n1_ n2_ n3_ n4_ n5_ n6_; clear hb hbox hg) | ((with_reducible refine gate_callee (f := 96) rfl ?_); refine goesS (some 6) Tryz.func96 #[.pointer (some ⟨g, 0, none⟩)] ?_; (with_reducible refine (body.calls k g s _ w0 _ ?side1 ?side2 A1.out).mono ?_); (case side1 => exact (upI HI0.out)); (case side2 => exact (upB HB.out)); rintro e wB ⟨⟨rfl, hi⟩, hb, hk⟩; refine ⟨_, rfl, ?_⟩; have n0_ := Aside0.mk (KeepBut.trans (w := w) (upK HK.out) hk (.inl rfl)); have n1_ := Aside0.mk (KeepBut.blk hk (g' := g2) (o := .cells #[.int .i64 0, .slice none 0 0, .slice none 0 0] 24 (0, 0)) (by repeat (with_reducible first | exact B2.out | refine blk_drewN ?_ _ | refine blk_drew ?_ | refine blk_far ?_ N23.out _ | refine blk_far ?_ N24.out _)) (Ne.symm N2.out) (by simp)); have n2_ := Aside0.mk (hi); have n3_ := Aside0.mk (hb); (try clear HK); (try clear B2); (try clear HI0); (try clear HB); have HK := n0_; have B2 := n1_; have HI0 := n2_; have HB := n3_; clear n0_ n1_ n2_ n3_; clear hi hb hk) | ((with_reducible refine gate_callee (f := 96) rfl ?_); refine goesP (some 6) Tryz.func96 #[.pointer (some ⟨g, 0, none⟩)] ?_; (with_reducible refine (body.calls k g s _ w0 _ ?side1 ?side2 A1.out).mono ?_); (case side1 => exact (upI HI0.out)); (case side2 => exact (upB HB.out)); rintro e wB ⟨⟨rfl, s', hi⟩, hb, hk⟩; refine ⟨_, rfl, ?_⟩; have n0_ := Aside0.mk (KeepBut.trans (w := w) (upK HK.out) hk (.inl rfl)); have n1_ := Aside0.mk (hi); have n2_ := Aside0.mk (hb); (try clear HK); (try clear HI0); (try clear HB); have HK := n0_; have HI0 := n1_; have HB := n2_; clear n0_ n1_ n2_; clear hi hb hk) | ((with_reducible refine gate_dst (N := 3) rfl ?_); refine boxS 3 #[.string (⟨#[]⟩ : ByteArray)] 103 ?_; intro g3 hg wC hbox hb; have n0_ := Aside0.mk ((by rw [hg]; exact Nat.ne_of_lt (IsS103.lt (show IsS103 w0 _ g s1 from (upI HI0.out))) : g ≠ g3)); have n1_ := Aside0.mk ((by rw [hg]; exact Nat.ne_of_lt (blk_lt (g := g2) (o := .cells #[.int .i64 0, .slice none 0 0, .slice none 0 0] 24 (0, 0)) (by repeat (with_reducible first | exact B2.out | refine blk_drewN ?_ _ | refine blk_drew ?_ | refine blk_far ?_ N23.out _ | refine blk_far ?_ N24.out _))) : g2 ≠ g3)); have n2_ := Aside0.mk ((by rw [hg]; exact keep_size (w := w) (g := g) (row := none) (upK HK.out) : w.heap.size ≤ g3)); have n3_ := Aside0.mk ((by rw [hg]; exact below_size (upB HB.out) : w0.heap.size ≤ g3)); have n4_ := Aside0.mk (IsS103.below (show IsS103 w0 _ g s1 from (upI HI0.out)) hb); have n5_ := Aside0.mk (blk_below (g := g2) (o := .cells #[.int .i64 0, .slice none 0 0, .slice none 0 0] 24 (0, 0)) (by repeat (with_reducible first | exact B2.out | refine blk_drewN ?_ _ | refine blk_drew ?_ | refine blk_far ?_ N23.out _ | refine blk_far ?_ N24.out _)) hb); have n6_ := Aside0.mk (KeepBut.trans (w := w) (upK HK.out) (KeepBut.of_below hb g none) (.inl rfl)); have n7_ := Aside0.mk (below_step (w := w0) (upB HB.out) hb); (try clear N3); (try clear N23); (try clear L3); (try clear LL3); (try clear HI0); (try clear B2); (try clear HK); (try clear HB); have N3 := n0_; have N23 := n1_; have L3 := n2_; have LL3 := n3_; have HI0 := n4_; have B2 := n5_; have HK := n6_; have HB := n7_; clear n0_ n1_ n2_ n3_ n4_ n5_ n6_ n7_; have HJ := Aside0.mk (show IsS103 w0 wC g3 (⟨#[]⟩ : ByteArray) from ⟨hbox, LL3.out⟩); clear hb hbox hg; have hcC := cellS103_0 HJ.out.1; have hfC := blk_frozen HJ.out.1 0) | ((with_reducible refine gate_callee (f := 93) rfl ?_); refine goesS (some 12) Tryz.func93 #[.pointer (some ⟨g3, 0, none⟩), .int .i64 8] ?_; (with_reducible refine (journal_reader_take.calls g3 x1 8 t2 x2 w0 _ ?side1 ?side2 A3.out).mono ?_); (case side1 => exact (upI HJ.out)); (case side2 => exact (upB HB.out)); rintro e wE ⟨rfl, hi, hb, hk⟩; refine ⟨_, rfl, ?_⟩; have n0_ := Aside0.mk (IsS103.keepI (show IsS103 w0 _ g s1 from (upI HI0.out)) hk N3.out); have n1_ := Aside0.mk (KeepBut.blk hk (g' := g2) (o := .cells #[.int .i64 0, .slice none 0 0, .slice none 0 0] 24 (0, 0)) (by repeat (with_reducible first | exact B2.out | refine blk_drewN ?_ _ | refine blk_drew ?_ | refine blk_far ?_ N23.out _ | refine blk_far ?_ N24.out _)) N23.out (by simp)); have n2_ := Aside0.mk (keepTo (w := w) (g := g) (upK HK.out) hk L3.out); have n3_ := Aside0.mk (hb); have n4_ := Aside0.mk (hi); (try clear HI0); (try clear B2); (try clear HK); (try clear HB); (try clear HJ); have HI0 := n0_; have B2 := n1_; have HK := n2_; have HB := n3_; have HJ := n4_; clear n0_ n1_ n2_ n3_ n4_; clear hi hb hk) | ((with_reducible refine gate_callee (f := 93) rfl ?_); refine goesS (some 8) Tryz.func93 #[.pointer (some ⟨g3, 0, none⟩), .int .i64 1] ?_; (with_reducible refine (journal_reader_take.calls g3 b 1 t1 x1 w0 _ ?side1 ?side2 A2.out).mono ?_); (case side1 => exact (upI HJ.out)); (case side2 => exact (upB HB.out)); rintro e wD ⟨rfl, hi, hb, hk⟩; refine ⟨_, rfl, ?_⟩; have n0_ := Aside0.mk (IsS103.keepI (show IsS103 w0 _ g s1 from (upI HI0.out)) hk N3.out); have n1_ := Aside0.mk (KeepBut.blk hk (g' := g2) (o := .cells #[.int .i64 0, .slice none 0 0, .slice none 0 0] 24 (0, 0)) (by repeat (with_reducible first | exact B2.out | refine blk_drewN ?_ _ | refine blk_drew ?_ | refine blk_far ?_ N23.out _ | refine blk_far ?_ N24.out _)) N23.out (by simp)); have n2_ := Aside0.mk (keepTo (w := w) (g := g) (upK HK.out) hk L3.out); have n3_ := Aside0.mk (hb); have n4_ := Aside0.mk (hi); (try clear HI0); (try clear B2); (try clear HK); (try clear HB); (try clear HJ); have HI0 := n0_; have B2 := n1_; have HK := n2_; have HB := n3_; have HJ := n4_; clear n0_ n1_ n2_ n3_ n4_; clear hi hb hk) | ((with_reducible refine gate_callee (f := 93) rfl ?_); refine goesP (some 12) Tryz.func93 #[.pointer (some ⟨g3, 0, none⟩), .int .i64 8] ?_; (with_reducible refine (take_panics g3 x1 8 w0 _ ?side1 A3.out).mono ?_); (case side1 => exact (upI HJ.out)); rintro e w_ ⟨rfl, hw⟩; refine ⟨_, rfl, ?_⟩; subst hw) | ((with_reducible refine gate_callee (f := 93) rfl ?_); refine goesP (some 8) Tryz.func93 #[.pointer (some ⟨g3, 0, none⟩), .int .i64 1] ?_; (with_reducible refine (take_panics g3 b 1 w0 _ ?side1 A2.out).mono ?_); (case side1 => exact (upI HJ.out)); rintro e w_ ⟨rfl, hw⟩; refine ⟨_, rfl, ?_⟩; subst hw) | ((with_reducible refine gate_callee (f := 97) rfl ?_); refine goesS (some 13) Tryz.func97 #[.string t2, .int .i64 8] ?_; (with_reducible refine (journal_get_uint64.calls k t2 8 n _ A4.out).mono ?_); rintro e w' ⟨rfl, ⟨nd, rfl⟩⟩; refine ⟨_, rfl, ?_⟩) | ((with_reducible refine gate_dst (N := 4) rfl ?_); refine boxS 4 #[.int .i64 0, .slice none 0 0, .slice none 0 0] 24 ?_; intro g4 hg wF hbox hb; have n0_ := Aside0.mk ((by rw [hg]; exact Nat.ne_of_lt (IsS103.lt (show IsS103 w0 _ g s1 from (upI HI0.out))) : g ≠ g4)); have n1_ := Aside0.mk ((by rw [hg]; exact Nat.ne_of_lt (blk_lt (g := g2) (o := .cells #[.int .i64 0, .slice none 0 0, .slice none 0 0] 24 (0, 0)) (by repeat (with_reducible first | exact B2.out | refine blk_drewN ?_ _ | refine blk_drew ?_ | refine blk_far ?_ N23.out _ | refine blk_far ?_ N24.out _))) : g2 ≠ g4)); have n2_ := Aside0.mk ((by rw [hg]; exact Nat.ne_of_lt (IsS103.lt (show IsS103 w0 _ g3 x2 from (upI HJ.out))) : g3 ≠ g4)); have n3_ := Aside0.mk ((by rw [hg]; exact keep_size (w := w) (g := g) (row := none) (upK HK.out) : w.heap.size ≤ g4)); have n4_ := Aside0.mk ((by rw [hg]; exact below_size (upB HB.out) : w0.heap.size ≤ g4)); have n5_ := Aside0.mk (IsS103.below (show IsS103 w0 _ g s1 from (upI HI0.out)) hb); have n6_ := Aside0.mk (IsS103.below (show IsS103 w0 _ g3 x2 from (upI HJ.out)) hb); have n7_ := Aside0.mk (blk_below (g := g2) (o := .cells #[.int .i64 0, .slice none 0 0, .slice none 0 0] 24 (0, 0)) (by repeat (with_reducible first | exact B2.out | refine blk_drewN ?_ _ | refine blk_drew ?_ | refine blk_far ?_ N23.out _ | refine blk_far ?_ N24.out _)) hb); have n8_ := Aside0.mk (KeepBut.trans (w := w) (upK HK.out) (KeepBut.of_below hb g none) (.inl rfl)); have n9_ := Aside0.mk (below_step (w := w0) (upB HB.out) hb); have n10_ := Aside0.mk (hbox); (try clear N4); (try clear N24); (try clear N34); (try clear L4); (try clear LL4); (try clear HI0); (try clear HJ); (try clear B2); (try clear HK); (try clear HB); (try clear B4); have N4 := n0_; have N24 := n1_; have N34 := n2_; have L4 := n3_; have LL4 := n4_; have HI0 := n5_; have HJ := n6_; have B2 := n7_; have HK := n8_; have HB := n9_; have B4 := n10_; clear n0_ n1_ n2_ n3_ n4_ n5_ n6_ n7_ n8_ n9_ n10_; clear hb hbox hg; have hcF_0 : wF.cell? ⟨g4, 0, none⟩ = some (.int .i64 0) := (blk_cell B4.out 0).trans rfl; have hfF_0 := blk_frozen B4.out 0; have hcF_1 : wF.cell? ⟨g4, 1, none⟩ = some (.slice none 0 0) := (blk_cell B4.out 1).trans rfl; have hfF_1 := blk_frozen B4.out 1; have hcF_2 : wF.cell? ⟨g4, 2, none⟩ = some (.slice none 0 0) := (blk_cell B4.out 2).trans rfl; have hfF_2 := blk_frozen B4.out 2) | ((with_reducible refine gate_callee (f := 98) rfl ?_); refine goesS (some 18) Tryz.func98 #[.pointer (some ⟨g3, 0, none⟩)] ?_; (with_reducible refine (factsP.calls k g3 x3 _ w0 _ ?side1 ?side2 A6.out).mono ?_); (case side1 => exact (upI HJ.out)); (case side2 => exact (upB HB.out)); rintro e wH ⟨⟨v2, rfl, hs, hi⟩, hb, hk⟩; obtain ⟨A2_, c2, e2⟩ := Kd.S_slice hs; subst e2; refine ⟨_, rfl, ?_⟩; have n0_ := Aside0.mk (Kd.S_mono (Kd.S_lower (Kd.S_new' hs (Kd.S_lt (Kd.S_set S1.out B4.out (by decide) 1 (.slice A1_ l1.length c1)))) (keep_size (w := w) (g := g) (row := none) (upK HK.out))) (fun _ h_ => h_.2)); have n1_ := Aside0.mk (Kd.S_mono (Kd.S_told (v := .slice A2_ l2.length c2) (Kd.S_oldK (IsS103.apartS (show IsS103 w0 _ g3 x3 from (upI HJ.out)) (Kd.S_set S1.out B4.out (by decide) 1 (.slice A1_ l1.length c1)) (by decide)) hk) (Kd.S_base hs)) (fun _ h_ => h_.1.2)); have n2_ := Aside0.mk (KeepBut.blk hk (g' := g4) (o := .cells #[.int .i64 (wrap64 n), .slice A1_ l1.length c1, .slice none 0 0] 24 (0, 0)) (by refine upO ?_; refine blk_put (cs := #[.int .i64 (wrap64 n), .slice none 0 0, .slice none 0 0]) ?_ 1 _ rfl; exact upO B4.out) (Ne.symm N34.out) (by simp)); have n3_ := Aside0.mk (IsS103.keepI (show IsS103 w0 _ g s1 from (upI HI0.out)) hk N3.out); have n4_ := Aside0.mk (KeepBut.blk hk (g' := g2) (o := .cells #[.int .i64 0, .slice none 0 0, .slice none 0 0] 24 (0, 0)) (by repeat (with_reducible first | exact B2.out | refine blk_drewN ?_ _ | refine blk_drew ?_ | refine blk_far ?_ N23.out _ | refine blk_far ?_ N24.out _)) N23.out (by simp)); have n5_ := Aside0.mk (keepTo (w := w) (g := g) (upK HK.out) hk L3.out); have n6_ := Aside0.mk (hb); have n7_ := Aside0.mk (hi); (try clear S2); (try clear S1); (try clear B4); (try clear HI0); (try clear B2); (try clear HK); (try clear HB); (try clear HJ); have S2 := n0_; have S1 := n1_; have B4 := n2_; have HI0 := n3_; have B2 := n4_; have HK := n5_; have HB := n6_; have HJ := n7_; clear n0_ n1_ n2_ n3_ n4_ n5_ n6_ n7_; clear hi hb hk hs; have hcH_0 : wH.cell? ⟨g4, 0, none⟩ = some (.int .i64 (wrap64 n)) := (blk_cell B4.out 0).trans rfl; have hfH_0 := blk_frozen B4.out 0; have hcH_1 : wH.cell? ⟨g4, 1, none⟩ = some (.slice A1_ l1.length c1) := (blk_cell B4.out 1).trans rfl; have hfH_1 := blk_frozen B4.out 1; have hcH_2 : wH.cell? ⟨g4, 2, none⟩ = some (.slice none 0 0) := (blk_cell B4.out 2).trans rfl; have hfH_2 := blk_frozen B4.out 2; have hcH := cellS103_0 HJ.out.1) | ((with_reducible refine gate_callee (f := 98) rfl ?_); refine goesS (some 16) Tryz.func98 #[.pointer (some ⟨g3, 0, none⟩)] ?_; (with_reducible refine (factsP.calls k g3 x2 _ w0 _ ?side1 ?side2 A5.out).mono ?_); (case side1 => exact (upI HJ.out)); (case side2 => exact (upB HB.out)); rintro e wG ⟨⟨v1, rfl, hs, hi⟩, hb, hk⟩; obtain ⟨A1_, c1, e1⟩ := Kd.S_slice hs; subst e1; refine ⟨_, rfl, ?_⟩; have n0_ := Aside0.mk (Kd.S_lower hs (keep_size (w := w) (g := g) (row := none) (upK HK.out))); have n1_ := Aside0.mk (KeepBut.blk hk (g' := g4) (o := .cells #[.int .i64 (wrap64 n), .slice none 0 0, .slice none 0 0] 24 (0, 0)) (by refine upO ?_; refine blk_put (cs := #[.int .i64 (wrap64 n), .slice none 0 0, .slice none 0 0]) ?_ 2 _ rfl; refine upO ?_; refine blk_put (cs := #[.int .i64 (wrap64 n), .slice none 0 0, .slice none 0 0]) ?_ 1 _ rfl; refine upO ?_; refine blk_put (cs := #[.int .i64 0, .slice none 0 0, .slice none 0 0]) ?_ 0 _ rfl; exact upO B4.out) (Ne.symm N34.out) (by simp)); have n2_ := Aside0.mk (IsS103.keepI (show IsS103 w0 _ g s1 from (upI HI0.out)) hk N3.out); have n3_ := Aside0.mk (KeepBut.blk hk (g' := g2) (o := .cells #[.int .i64 0, .slice none 0 0, .slice none 0 0] 24 (0, 0)) (by repeat (with_reducible first | exact B2.out | refine blk_drewN ?_ _ | refine blk_drew ?_ | refine blk_far ?_ N23.out _ | refine blk_far ?_ N24.out _)) N23.out (by simp)); have n4_ := Aside0.mk (keepTo (w := w) (g := g) (upK HK.out) hk L3.out); have n5_ := Aside0.mk (hb); have n6_ := Aside0.mk (hi); (try clear S1); (try clear B4); (try clear HI0); (try clear B2); (try clear HK); (try clear HB); (try clear HJ); have S1 := n0_; have B4 := n1_; have HI0 := n2_; have B2 := n3_; have HK := n4_; have HB := n5_; have HJ := n6_; clear n0_ n1_ n2_ n3_ n4_ n5_ n6_; clear hi hb hk hs; have hcG_0 : wG.cell? ⟨g4, 0, none⟩ = some (.int .i64 (wrap64 n)) := (blk_cell B4.out 0).trans rfl; have hfG_0 := blk_frozen B4.out 0; have hcG_1 : wG.cell? ⟨g4, 1, none⟩ = some (.slice none 0 0) := (blk_cell B4.out 1).trans rfl; have hfG_1 := blk_frozen B4.out 1; have hcG_2 : wG.cell? ⟨g4, 2, none⟩ = some (.slice none 0 0) := (blk_cell B4.out 2).trans rfl; have hfG_2 := blk_frozen B4.out 2) | ((with_reducible refine gate_callee (f := 98) rfl ?_); refine goesP (some 16) Tryz.func98 #[.pointer (some ⟨g3, 0, none⟩)] ?_; (with_reducible refine (factsP.calls k g3 x2 _ w0 _ ?side1 ?side2 A5.out).mono ?_); (case side1 => exact (upI HJ.out)); (case side2 => exact (upB HB.out)); rintro e wP ⟨⟨rfl, s', hi⟩, hb, hk⟩; refine ⟨_, rfl, ?_⟩; have n0_ := Aside0.mk (IsS103.keepI (show IsS103 w0 _ g s1 from (upI HI0.out)) hk N3.out); have n1_ := Aside0.mk (keepTo (w := w) (g := g) (upK HK.out) hk L3.out); have n2_ := Aside0.mk (hb); (try clear HI0); (try clear HK); (try clear HB); have HI0 := n0_; have HK := n1_; have HB := n2_; clear n0_ n1_ n2_; clear hi hb hk) | ((with_reducible refine gate_callee (f := 98) rfl ?_); refine goesP (some 18) Tryz.func98 #[.pointer (some ⟨g3, 0, none⟩)] ?_; (with_reducible refine (factsP.calls k g3 x3 _ w0 _ ?side1 ?side2 A6.out).mono ?_); (case side1 => exact (upI HJ.out)); (case side2 => exact (upB HB.out)); rintro e wP ⟨⟨rfl, s', hi⟩, hb, hk⟩; refine ⟨_, rfl, ?_⟩; have n0_ := Aside0.mk (IsS103.keepI (show IsS103 w0 _ g s1 from (upI HI0.out)) hk N3.out); have n1_ := Aside0.mk (keepTo (w := w) (g := g) (upK HK.out) hk L3.out); have n2_ := Aside0.mk (hb); (try clear HI0); (try clear HK); (try clear HB); have HI0 := n0_; have HK := n1_; have HB := n2_; clear n0_ n1_ n2_; clear hi hb hk) | ((with_reducible refine gate_callee (f := 24) rfl ?_); (try (refine gate_guard (by rfl) ?_; dsimp only)); refine goesS (some 33) Tryz.func24 #[.slice A1_ l1.length c1, .slice A2_ l2.length c2] ?_; (with_reducible refine (journal_apart.calls k _ _ l1 _ _ l2 _ _ ?side1 ?side2 ?side3 ?side4 A7.out).mono ?_); (case side1 => exact (Kd.S_reads' (Kd.S_set S1.out B4.out (by decide) 2 (.slice A2_ l2.length c2))).2.2); (case side2 => exact (Kd.S_reads' S1.out).2.1); (case side3 => exact (Kd.S_reads' (Kd.S_set S2.out B4.out (by decide) 2 (.slice A2_ l2.length c2))).2.2); (case side4 => exact (Kd.S_reads' S2.out).2.1); rintro e wI ⟨rfl, hb⟩; refine ⟨_, rfl, ?_⟩; have n0_ := Aside0.mk (Kd.S_below (Kd.S_set S1.out B4.out (by decide) 2 (.slice A2_ l2.length c2)) hb); have n1_ := Aside0.mk (Kd.S_below (Kd.S_set S2.out B4.out (by decide) 2 (.slice A2_ l2.length c2)) hb); have n2_ := Aside0.mk (blk_below (g := g4) (o := .cells #[.int .i64 (wrap64 n), .slice A1_ l1.length c1, .slice A2_ l2.length c2] 24 (0, 0)) (by refine upO ?_; refine blk_put (cs := #[.int .i64 (wrap64 n), .slice A1_ l1.length c1, .slice none 0 0]) ?_ 2 _ rfl; exact upO B4.out) hb); have n3_ := Aside0.mk (IsS103.below (show IsS103 w0 _ g s1 from (upI HI0.out)) hb); have n4_ := Aside0.mk (blk_below (g := g2) (o := .cells #[.int .i64 0, .slice none 0 0, .slice none 0 0] 24 (0, 0)) (by repeat (with_reducible first | exact B2.out | refine blk_drewN ?_ _ | refine blk_drew ?_ | refine blk_far ?_ N23.out _ | refine blk_far ?_ N24.out _)) hb); have n5_ := Aside0.mk (KeepBut.trans (w := w) (upK HK.out) (KeepBut.of_below hb g none) (.inl rfl)); have n6_ := Aside0.mk (below_step (w := w0) (upB HB.out) hb); (try clear S1); (try clear S2); (try clear B4); (try clear HI0); (try clear B2); (try clear HK); (try clear HB); have S1 := n0_; have S2 := n1_; have B4 := n2_; have HI0 := n3_; have B2 := n4_; have HK := n5_; have HB := n6_; clear n0_ n1_ n2_ n3_ n4_ n5_ n6_; clear hb; have hcI_0 : wI.cell? ⟨g4, 0, none⟩ = some (.int .i64 (wrap64 n)) := (blk_cell B4.out 0).trans rfl; have hfI_0 := blk_frozen B4.out 0; have hcI_1 : wI.cell? ⟨g4, 1, none⟩ = some (.slice A1_ l1.length c1) := (blk_cell B4.out 1).trans rfl; have hfI_1 := blk_frozen B4.out 1; have hcI_2 : wI.cell? ⟨g4, 2, none⟩ = some (.slice A2_ l2.length c2) := (blk_cell B4.out 2).trans rfl; have hfI_2 := blk_frozen B4.out 2; have hcJ_0 : wI.cell? ⟨g2, 0, none⟩ = some (.int .i64 0) := (blk_cell B2.out 0).trans rfl; have hfJ_0 := blk_frozen B2.out 0; have hcJ_1 : wI.cell? ⟨g2, 1, none⟩ = some (.slice none 0 0) := (blk_cell B2.out 1).trans rfl; have hfJ_1 := blk_frozen B2.out 1; have hcJ_2 : wI.cell? ⟨g2, 2, none⟩ = some (.slice none 0 0) := (blk_cell B2.out 2).trans rfl; have hfJ_2 := blk_frozen B2.out 2)); first | (exact ⟨rfl, ⟨rfl, _, (upI HI0.out)⟩, (upB HB.out), (upK HK.out)⟩) | (exact ⟨rfl, ⟨rfl, s1, (upI HI0.out)⟩, (upB HB.out), (upK HK.out)⟩) | (refine bodyPost_ret (results_cell1 rfl _ _ g2 24 #[.int .i64 (wrap64 n), .slice A1_ l1.length c1, .slice A2_ l2.length c2] (0, 0) _ rfl (by refine upO ?_; refine blk_put (cs := #[.int .i64 (wrap64 n), .slice A1_ l1.length c1, .slice none 0 0]) ?_ 2 _ rfl; refine upO ?_; refine blk_put (cs := #[.int .i64 (wrap64 n), .slice none 0 0, .slice none 0 0]) ?_ 1 _ rfl; refine upO ?_; refine blk_put (cs := #[.int .i64 0, .slice none 0 0, .slice none 0 0]) ?_ 0 _ rfl; exact upO B2.out) Tryz.underlying24 rfl (by kernel_rfl)) rfl ?_; exact ⟨⟨_, _, by first | rfl | simp, (Kd.S_mono (Kd.S_far (p := ⟨g2, 2, none⟩) (Kd.S_far (p := ⟨g2, 1, none⟩) (Kd.S_far (p := ⟨g2, 0, none⟩) (Kd.S_types S1.out B2.out (by decide)) (fun _ hk => hk.2) _) (fun _ hk => hk.2) _) (fun _ hk => hk.2) _) (fun _ hk => hk.1)), (Kd.S_mono (Kd.S_far (p := ⟨g2, 2, none⟩) (Kd.S_far (p := ⟨g2, 1, none⟩) (Kd.S_far (p := ⟨g2, 0, none⟩) (Kd.S_types S2.out B2.out (by decide)) (fun _ hk => hk.2) _) (fun _ hk => hk.2) _) (fun _ hk => hk.2) _) (fun _ hk => hk.1)), (upI HI0.out)⟩, (upB HB.out), (upK HK.out)⟩))
end Go.Proofs.J.Print
end
