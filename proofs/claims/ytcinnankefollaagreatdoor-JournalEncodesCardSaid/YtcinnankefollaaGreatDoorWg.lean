/- On the way to the law 'JournalEncodes': what the functions that it reaches compute, step by step, and the plain law (JPF23 .. JPF86). Each theorem states its own conditions. -/
import Derived.Test.YtcinnankefollaaGreatDoorWf
set_option linter.unusedVariables false
set_option linter.unusedSimpArgs false
section
namespace Go.Proofs.J.Print
open Go.RowKit Go.Proofs.PrintWords Go.Proofs.PrintLast Go.Proofs.PrintMore
def journal_rising.l0 : Nat → List (S90) → List (S90) → Int → Int → Option (Bool)
 | 0, _, _, _, _ => none
 | k + 1, x0, x5, x6, x7 => if x7 < x6 then (if 0 ≤ x7 then (if x7 < (x5.length : Int) then ((journal_may.f k ((rd_T90 x5 x7).f0) ((rd_T90 x5 x7).f1)).bind fun t244 => (if t244 = true then (if x7 > 0 then (if 0 ≤ (wrap64 (x7 - 1)) then (if (wrap64 (x7 - 1)) < (x0.length : Int) then ((value_CompareFacts.f k ((rd_T90 x0 (wrap64 (x7 - 1))).f0) ((rd_T90 x0 (wrap64 (x7 - 1))).f1) ((rd_T90 x5 x7).f0) ((rd_T90 x5 x7).f1)).bind fun t246 => (if t246 ≥ 0 then (some false) else (journal_rising.l0 k x0 x5 x6 (wrap64 (x7 + 1))))) else (none)) else (none)) else (journal_rising.l0 k x0 x5 x6 (wrap64 (x7 + 1)))) else (some false))) else (none)) else (none)) else (some true)
def journal_rising.f (k : Nat) (l0 : List (S90)) : Option (Bool) := journal_rising.l0 k l0 l0 (l0.length : Int) 0
def journal_rising.T4 : Bool × List (List Nat × List Nat) := (true, [([], []), ([0], [0]), ([1], [1]), ([2, 1], [2]), ([3], [3]), ([4, 3], [3, 4]), ([5, 3, 3], [3, 5]), ([6], [6]), ([6], [6]), ([8, 6], [6, 8]), ([7, 9, 6], [6, 7, 9]), ([10, 6], [6, 10]), ([6], [6]), ([11, 12, 6, 6], [6, 11, 12]), ([13, 6], [6, 13]), ([6, 14, 3], [3, 6, 14]), ([3, 15], [3, 15])])
def journal_rising.B4 : List Nat := [0, 1, 3, 7, 15, 31, 63, 127, 127, 383, 1023, 2047, 127, 8191, 16383, 32767, 65535]
theorem journal_rising.tab4 : rtab .any (opsOf Tryz.f23 4) = journal_rising.T4 := by kernel_rfl
theorem journal_rising.bits4 : waitsOk journal_rising.T4.2 journal_rising.B4 = true := by kernel_rfl
set_option maxHeartbeats 8000000 in
set_option maxRecDepth 100000 in
theorem journal_rising.calls (k : Nat) (A0 : Option Addr) (c0 : Nat) (l0 : List (S90)) (r : Bool) (w : World) (hr0 : Kd.C k90 w A0 l0.length l0) (hc0 : l0.length ≤ c0) (h : journal_rising.f k l0 = some r) :
  Calls Tryz.prog 23 #[.slice A0 l0.length c0] w fun e w' => e = .returned (.bool r) ∧ Below w.heap.size w w' := by
 have hu90 := Tryz.underlying90
 have HR0 := Aside0.mk hr0
 have HC0 := Aside0.mk hc0
 clear hr0 hc0
 have HB := Aside0.mk (Below.refl w.heap.size w)
 have H : (journal_rising.l0 k l0 l0 (l0.length : Int) 0) = some r := h
 clear h
 have H' := Aside0.mk H
 clear H
 go_enter Tryz.func23, Tryz.ntmps23
 go_wp2
 go_loopg [7] k (fun kq v7 w' => ∃ (x7_1 : Int), v7 = .int .i64 x7_1 ∧ Aside0 (journal_rising.l0 kq l0 l0 (l0.length : Int) x7_1 = some r) ∧ Aside0 (kq ≤ k) ∧ Aside0 (Below w.heap.size w w'))
 case atStart => exact ⟨(0), eqS, H', ⟨Nat.le_refl _⟩, ⟨upB HB.out⟩⟩
 case round =>
  clear H'
  obtain ⟨x7_1, rfl, HA, HK1, HB⟩ := hrel
  cases gk with
  | zero => exact absurd HA.out (by simp [journal_rising.l0])
  | succ k1 =>
   have H := HA.out
   clear HA
   simp only [journal_rising.l0] at H
   by_cases c2 : x7_1 < (l0.length : Int)
   ·rw [if_pos c2] at H
    have c2b0 := decide_eq_true c2
    clear c2
    by_cases c3 : 0 ≤ x7_1
    ·rw [if_pos c3] at H
     have c3b0 := decide_eq_true c3
     clear c3
     by_cases c4 : x7_1 < (l0.length : Int)
     ·rw [if_pos c4] at H
      have c4b0 := decide_eq_true c4
      clear c4
      replace H := Option.bind_eq_some_iff.mp H
      obtain ⟨t244, A50, H⟩ := H
      replace H : (if t244 = true then (if x7_1 > 0 then (if 0 ≤ (wrap64 (x7_1 - 1)) then (if (wrap64 (x7_1 - 1)) < (l0.length : Int) then ((value_CompareFacts.f k1 ((rd_T90 l0 (wrap64 (x7_1 - 1))).f0) ((rd_T90 l0 (wrap64 (x7_1 - 1))).f1) ((rd_T90 l0 x7_1).f0) ((rd_T90 l0 x7_1).f1)).bind fun t246 => (if t246 ≥ 0 then (some false) else (journal_rising.l0 k1 l0 l0 (l0.length : Int) (wrap64 (x7_1 + 1))))) else (none)) else (none)) else (journal_rising.l0 k1 l0 l0 (l0.length : Int) (wrap64 (x7_1 + 1)))) else (some false)) = some r := H
      have A5 := Aside0.mk A50
      clear A50
      by_cases c6 : t244 = true
      ·subst c6
       have H1 : (if x7_1 > 0 then (if 0 ≤ (wrap64 (x7_1 - 1)) then (if (wrap64 (x7_1 - 1)) < (l0.length : Int) then ((value_CompareFacts.f k1 ((rd_T90 l0 (wrap64 (x7_1 - 1))).f0) ((rd_T90 l0 (wrap64 (x7_1 - 1))).f1) ((rd_T90 l0 x7_1).f0) ((rd_T90 l0 x7_1).f1)).bind fun t246 => (if t246 ≥ 0 then (some false) else (journal_rising.l0 k1 l0 l0 (l0.length : Int) (wrap64 (x7_1 + 1))))) else (none)) else (none)) else (journal_rising.l0 k1 l0 l0 (l0.length : Int) (wrap64 (x7_1 + 1)))) = some r := by rw [if_pos rfl] at H; exact H
       clear H
       have H := H1
       clear H1
       by_cases c7 : x7_1 > 0
       ·rw [if_pos c7] at H
        have c7b0 := decide_eq_true c7
        clear c7
        obtain ⟨ji8, hji8⟩ : ∃ j_ : Int, (wrap64 (x7_1 - 1)) = j_ := ⟨_, rfl⟩
        replace H : (if 0 ≤ (ji8) then (if (ji8) < (l0.length : Int) then ((value_CompareFacts.f k1 ((rd_T90 l0 (ji8)).f0) ((rd_T90 l0 (ji8)).f1) ((rd_T90 l0 x7_1).f0) ((rd_T90 l0 x7_1).f1)).bind fun t246 => (if t246 ≥ 0 then (some false) else (journal_rising.l0 k1 l0 l0 (l0.length : Int) (wrap64 (x7_1 + 1))))) else (none)) else (none)) = some r := by first | (rw [hji8] at H; exact H) | (simp only [hji8] at H ⊢; exact H)
        (try rw [hji8] at A5)
        have hji8w : (IntKind.i64.wrap (x7_1 - 1)) = ji8 := (i64_w _).trans hji8
        by_cases c9 : 0 ≤ (ji8)
        ·rw [if_pos c9] at H
         have c9b0 := decide_eq_true c9
         clear c9
         by_cases c10 : (ji8) < (l0.length : Int)
         ·rw [if_pos c10] at H
          have c10b0 := decide_eq_true c10
          clear c10
          replace H := Option.bind_eq_some_iff.mp H
          obtain ⟨t246, A110, H⟩ := H
          replace H : (if t246 ≥ 0 then (some false) else (journal_rising.l0 k1 l0 l0 (l0.length : Int) (wrap64 (x7_1 + 1)))) = some r := H
          have A11 := Aside0.mk A110
          clear A110
          by_cases c12 : t246 ≥ 0
          ·rw [if_pos c12] at H
           have c12b0 := decide_eq_true c12
           clear c12
           obtain rfl := Option.some.inj H
           have p242 : 0 ≤ (x7_1 : Int) := of_decide_eq_true byA
           have q242 : x7_1 < (l0.length : Int) := of_decide_eq_true byA
           obtain ⟨ad242, A242_1, c242_1, e242, hx242_0, hx242_1, hl242_1, hi242_1⟩ := at_T90 HR0.out x7_1 p242 q242
           cases e242
           replace hx242_0 := cellB HB.out hx242_0
           replace hx242_1 := cellB HB.out hx242_1
           have HR242_1 := Aside0.mk hi242_1
           have HC242_1 := Aside0.mk hl242_1
           clear hi242_1 hl242_1
           replace p242 := eq_true p242
           replace q242 := eq_true q242
           try go_wp2_with (first | ((with_reducible refine gate_dst (N := 4) rfl ?_); refine boxS 4 #[.string (⟨#[]⟩ : ByteArray), .slice none 0 0] 90 ?_; intro gb243 hg w13 hbox hb; have n0_ := Aside0.mk (below_step (upB HB.out) hb); have n1_ := Aside0.mk (hbox); have n2_ := Aside0.mk (geB hg (upB HB.out) : w.heap.size ≤ gb243); have n3_ := Aside0.mk (geB hg (upB HB.out) : w.heap.size ≤ gb243); clear HB; have HB := n0_; have BK243 := n1_; have GW243 := n2_; have GE243 := n3_; clear n0_ n1_ n2_ n3_; clear hb hbox hg; have hcz14_0 : w13.cell? ⟨gb243, 0, none⟩ = some (.string (⟨#[]⟩ : ByteArray)) := (blk_cell BK243.out 0).trans rfl; have hcz14_1 : w13.cell? ⟨gb243, 1, none⟩ = some (.slice none 0 0) := (blk_cell BK243.out 1).trans rfl; have hfz14_0 := blk_frozen BK243.out 0; have hfz14_1 := blk_frozen BK243.out 1))
           have n0_ : Aside0 (((w13.setCell ⟨gb243, 0, none⟩ (.string ((rd_T90 l0 x7_1).f0))).setCell ⟨gb243, 1, none⟩ (.slice A242_1 ((rd_T90 l0 x7_1).f1).length c242_1)).heap[gb243]? = some (.cells #[.string ((rd_T90 l0 x7_1).f0), .slice A242_1 ((rd_T90 l0 x7_1).f1).length c242_1] 90 (0, 0))) := ⟨by refine upO ?_; refine blk_put (cs := #[.string ((rd_T90 l0 x7_1).f0), .slice none 0 0]) ?_ 1 _ rfl; refine upO ?_; refine blk_put (cs := #[.string (⟨#[]⟩ : ByteArray), .slice none 0 0]) ?_ 0 _ rfl; exact upO BK243.out⟩
           have n1_ : Aside0 (Below w.heap.size w ((w13.setCell ⟨gb243, 0, none⟩ (.string ((rd_T90 l0 x7_1).f0))).setCell ⟨gb243, 1, none⟩ (.slice A242_1 ((rd_T90 l0 x7_1).f1).length c242_1))) := ⟨upB HB.out⟩
           (try clear BK243)
           (try clear HB)
           generalize ((w13.setCell ⟨gb243, 0, none⟩ (.string ((rd_T90 l0 x7_1).f0))).setCell ⟨gb243, 1, none⟩ (.slice A242_1 ((rd_T90 l0 x7_1).f1).length c242_1)) = w15 at n0_ n1_ ⊢
           have BK243 := n0_
           have HB := n1_
           clear n0_ n1_
           have n0_ := Aside0.mk (blk_drew BK243.out)
           have n1_ := Aside0.mk (below_drew1 HB.out)
           clear BK243
           clear HB
           have BK243 := n0_
           have HB := n1_
           clear n0_ n1_
           have p245 : 0 ≤ ((ji8) : Int) := of_decide_eq_true byA
           have q245 : (ji8) < (l0.length : Int) := of_decide_eq_true byA
           obtain ⟨ad245, A245_1, c245_1, e245, hx245_0, hx245_1, hl245_1, hi245_1⟩ := at_T90 HR0.out (ji8) p245 q245
           have hw245_1 := hx245_1
           have hw245_0 := hx245_0
           obtain rfl : ad242 = ad245 := (by injection e245)
           replace hx245_0 := cellB HB.out hx245_0
           replace hx245_1 := cellB HB.out hx245_1
           have HR245_1 := Aside0.mk hi245_1
           have HC245_1 := Aside0.mk hl245_1
           clear hi245_1 hl245_1
           replace p245 := eq_true p245
           replace q245 := eq_true q245
           refine start_ (n := 17) (S := fun w' => w'.cell? ⟨gb243, 0, none⟩ = some (.string ((rd_T90 l0 x7_1).f0)) ∧ w'.cell? ⟨gb243, 1, none⟩ = some (.slice A242_1 ((rd_T90 l0 x7_1).f1).length c242_1) ∧ w'.cell? (ad242.add (((ji8)).toNat * 2)) = some (.string ((rd_T90 l0 (ji8)).f0)) ∧ w'.cell? ⟨(ad242.add (((ji8)).toNat * 2)).block, (ad242.add (((ji8)).toNat * 2)).off + 1, none⟩ = some (.slice A245_1 ((rd_T90 l0 (ji8)).f1).length c245_1)) (ds := []) #[false,false,false,false,false,false,false,false,false,false,false,false,false,false,false,false,false] (by kernel_rfl) rfl rfl ⟨(blk_cell BK243.out 0).trans rfl, (blk_cell BK243.out 1).trans rfl, (cellB HB.out hw245_0), (cellB HB.out hw245_1)⟩ (fun hHeld => ?_); refine with_tabW journal_rising.tab4 journal_rising.bits4 (fun HT_ HW_ => ?_)
           generalize w15.drew = w16 at BK243 HB HR245_1 hx245_0 hx245_1 hHeld ⊢
           refine takeS 0 (some 12) HT_ HW_ hHeld ?_
           refine one_ (i := 1) (N := some 13) #[true, true, false,false,false,false,false,false,false,false,false,false,false,false,false,false,false] rfl rfl (one_of HT_.out (by kernel_rfl)) (by decide) (fun K hK => ?_)
           refine goes_ Tryz.func83 (by kernel_rfl) rfl #[.agg #[.string ((rd_T90 l0 x7_1).f0), .slice A242_1 ((rd_T90 l0 x7_1).f1).length c242_1]] (by rfl) rfl rfl (by (try simp only [List.map_toArray, List.map_cons, List.map_nil]); first | done | rfl | (simp only [List.length_drop, List.length_take]; rfl)) ?_
           with_reducible refine (journal_may.calls k1 ((rd_T90 l0 x7_1).f0) _ _ ((rd_T90 l0 x7_1).f1) true _ ?side1 ?side2 A5.out).mono ?_
           (case side1 => exact upC (Kd.C_below HR242_1.out HB.out))
           (case side2 => exact HC242_1.out)
           rintro e w17 ⟨rfl, hb⟩
           refine ⟨_, rfl, ?_⟩
           have n0_ := Aside0.mk (blk_below (g := gb243) (o := .cells #[.string ((rd_T90 l0 x7_1).f0), .slice A242_1 ((rd_T90 l0 x7_1).f1).length c242_1] 90 (0, 0)) (upO BK243.out) hb)
           have n1_ := Aside0.mk (below_step (upB HB.out) hb)
           clear BK243
           clear HB
           have BK243 := n0_
           have HB := n1_
           clear n0_ n1_
           (try clear hb)
           (try clear hb2)
           (try clear hk)
           (try clear hi)
           refine hK.out _ _ ⟨(blk_cell BK243.out 0).trans rfl, (blk_cell BK243.out 1).trans rfl, (cellB HB.out hw245_0), (cellB HB.out hw245_1)⟩ (fun hHeld => ?_)
           clear hK K
           refine normS (some 13) ?_
           refine pureS 2 (some 14) HT_ ?_
           refine pureS 3 (some 15) HT_ ?_
           refine pureS 4 (some 16) HT_ ?_
           refine pureS 5 (some 17) HT_ ?_
           refine pureS 6 (some 18) HT_ ?_
           refine pureS 7 (some 19) HT_ ?_
           refine pureS 8 (some 20) HT_ ?_
           refine pureS 9 (some 21) HT_ ?_
           refine pureS 10 (some 22) HT_ ?_
           refine takeS 11 (some 23) HT_ HW_ hHeld ?_
           refine takeS 12 (some 24) HT_ HW_ hHeld ?_
           refine one_ (i := 13) (N := some 25) #[true, true, true, true, true, true, true, true, true, true, true, true, true, true, false,false,false] rfl rfl (one_of HT_.out (by kernel_rfl)) (by decide) (fun K hK => ?_)
           refine goes_ Tryz.func84 (by kernel_rfl) rfl #[.agg #[.string ((rd_T90 l0 (ji8)).f0), .slice A245_1 ((rd_T90 l0 (ji8)).f1).length c245_1], .agg #[.string ((rd_T90 l0 x7_1).f0), .slice A242_1 ((rd_T90 l0 x7_1).f1).length c242_1]] (by rfl) rfl rfl (by (try simp only [List.map_toArray, List.map_cons, List.map_nil]); first | done | (simp only [hji8]; rfl) | rfl | (simp only [List.length_drop, List.length_take]; rfl)) ?_
           with_reducible refine (value_CompareFacts.calls k1 ((rd_T90 l0 (ji8)).f0) _ _ ((rd_T90 l0 (ji8)).f1) ((rd_T90 l0 x7_1).f0) _ _ ((rd_T90 l0 x7_1).f1) t246 _ ?side1 ?side2 ?side3 ?side4 A11.out).mono ?_
           (case side1 => exact upC (Kd.C_below HR245_1.out HB.out))
           (case side2 => exact HC245_1.out)
           (case side3 => exact upC (Kd.C_below HR242_1.out HB.out))
           (case side4 => exact HC242_1.out)
           rintro e w18 ⟨rfl, hb⟩
           refine ⟨_, rfl, ?_⟩
           have n0_ := Aside0.mk (blk_below (g := gb243) (o := .cells #[.string ((rd_T90 l0 x7_1).f0), .slice A242_1 ((rd_T90 l0 x7_1).f1).length c242_1] 90 (0, 0)) (upO BK243.out) hb)
           have n1_ := Aside0.mk (below_step (upB HB.out) hb)
           clear BK243
           clear HB
           have BK243 := n0_
           have HB := n1_
           clear n0_ n1_
           (try clear hb)
           (try clear hb2)
           (try clear hk)
           (try clear hi)
           refine hK.out _ _ ⟨(blk_cell BK243.out 0).trans rfl, (blk_cell BK243.out 1).trans rfl, (cellB HB.out hw245_0), (cellB HB.out hw245_1)⟩ (fun hHeld => ?_)
           clear hK K
           refine normS (some 25) ?_
           refine pureS 14 (some 26) HT_ ?_
           refine pureS 15 (some 27) HT_ ?_
           refine pureS 16 (some 28) HT_ ?_
           refine done_ (done_of HT_.out (by kernel_rfl)) ?_
           try go_wp2
           go_ret
           exact ⟨by first | rfl | (simp [errW_none, errW_some] <;> rfl) | (simp only [← hji8]; first | rfl | (simp [errW_none, errW_some] <;> rfl)) | (simp [*, errW_none, errW_some] <;> rfl), upB HB.out⟩
          ·rw [if_neg c12] at H
           have c12b0 := decide_eq_false c12
           clear c12
           have H' := Aside0.mk H
           clear H
           have p242 : 0 ≤ (x7_1 : Int) := of_decide_eq_true byA
           have q242 : x7_1 < (l0.length : Int) := of_decide_eq_true byA
           obtain ⟨ad242, A242_1, c242_1, e242, hx242_0, hx242_1, hl242_1, hi242_1⟩ := at_T90 HR0.out x7_1 p242 q242
           cases e242
           replace hx242_0 := cellB HB.out hx242_0
           replace hx242_1 := cellB HB.out hx242_1
           have HR242_1 := Aside0.mk hi242_1
           have HC242_1 := Aside0.mk hl242_1
           clear hi242_1 hl242_1
           replace p242 := eq_true p242
           replace q242 := eq_true q242
           try go_wp2_with (first | ((with_reducible refine gate_dst (N := 4) rfl ?_); refine boxS 4 #[.string (⟨#[]⟩ : ByteArray), .slice none 0 0] 90 ?_; intro gb243 hg w19 hbox hb; have n0_ := Aside0.mk (below_step (upB HB.out) hb); have n1_ := Aside0.mk (hbox); have n2_ := Aside0.mk (geB hg (upB HB.out) : w.heap.size ≤ gb243); have n3_ := Aside0.mk (geB hg (upB HB.out) : w.heap.size ≤ gb243); clear HB; have HB := n0_; have BK243 := n1_; have GW243 := n2_; have GE243 := n3_; clear n0_ n1_ n2_ n3_; clear hb hbox hg; have hcz20_0 : w19.cell? ⟨gb243, 0, none⟩ = some (.string (⟨#[]⟩ : ByteArray)) := (blk_cell BK243.out 0).trans rfl; have hcz20_1 : w19.cell? ⟨gb243, 1, none⟩ = some (.slice none 0 0) := (blk_cell BK243.out 1).trans rfl; have hfz20_0 := blk_frozen BK243.out 0; have hfz20_1 := blk_frozen BK243.out 1))
           have n0_ : Aside0 (((w19.setCell ⟨gb243, 0, none⟩ (.string ((rd_T90 l0 x7_1).f0))).setCell ⟨gb243, 1, none⟩ (.slice A242_1 ((rd_T90 l0 x7_1).f1).length c242_1)).heap[gb243]? = some (.cells #[.string ((rd_T90 l0 x7_1).f0), .slice A242_1 ((rd_T90 l0 x7_1).f1).length c242_1] 90 (0, 0))) := ⟨by refine upO ?_; refine blk_put (cs := #[.string ((rd_T90 l0 x7_1).f0), .slice none 0 0]) ?_ 1 _ rfl; refine upO ?_; refine blk_put (cs := #[.string (⟨#[]⟩ : ByteArray), .slice none 0 0]) ?_ 0 _ rfl; exact upO BK243.out⟩
           have n1_ : Aside0 (Below w.heap.size w ((w19.setCell ⟨gb243, 0, none⟩ (.string ((rd_T90 l0 x7_1).f0))).setCell ⟨gb243, 1, none⟩ (.slice A242_1 ((rd_T90 l0 x7_1).f1).length c242_1))) := ⟨upB HB.out⟩
           (try clear BK243)
           (try clear HB)
           generalize ((w19.setCell ⟨gb243, 0, none⟩ (.string ((rd_T90 l0 x7_1).f0))).setCell ⟨gb243, 1, none⟩ (.slice A242_1 ((rd_T90 l0 x7_1).f1).length c242_1)) = w21 at n0_ n1_ ⊢
           have BK243 := n0_
           have HB := n1_
           clear n0_ n1_
           have n0_ := Aside0.mk (blk_drew BK243.out)
           have n1_ := Aside0.mk (below_drew1 HB.out)
           clear BK243
           clear HB
           have BK243 := n0_
           have HB := n1_
           clear n0_ n1_
           have p245 : 0 ≤ ((ji8) : Int) := of_decide_eq_true byA
           have q245 : (ji8) < (l0.length : Int) := of_decide_eq_true byA
           obtain ⟨ad245, A245_1, c245_1, e245, hx245_0, hx245_1, hl245_1, hi245_1⟩ := at_T90 HR0.out (ji8) p245 q245
           have hw245_1 := hx245_1
           have hw245_0 := hx245_0
           obtain rfl : ad242 = ad245 := (by injection e245)
           replace hx245_0 := cellB HB.out hx245_0
           replace hx245_1 := cellB HB.out hx245_1
           have HR245_1 := Aside0.mk hi245_1
           have HC245_1 := Aside0.mk hl245_1
           clear hi245_1 hl245_1
           replace p245 := eq_true p245
           replace q245 := eq_true q245
           refine start_ (n := 17) (S := fun w' => w'.cell? ⟨gb243, 0, none⟩ = some (.string ((rd_T90 l0 x7_1).f0)) ∧ w'.cell? ⟨gb243, 1, none⟩ = some (.slice A242_1 ((rd_T90 l0 x7_1).f1).length c242_1) ∧ w'.cell? (ad242.add (((ji8)).toNat * 2)) = some (.string ((rd_T90 l0 (ji8)).f0)) ∧ w'.cell? ⟨(ad242.add (((ji8)).toNat * 2)).block, (ad242.add (((ji8)).toNat * 2)).off + 1, none⟩ = some (.slice A245_1 ((rd_T90 l0 (ji8)).f1).length c245_1)) (ds := []) #[false,false,false,false,false,false,false,false,false,false,false,false,false,false,false,false,false] (by kernel_rfl) rfl rfl ⟨(blk_cell BK243.out 0).trans rfl, (blk_cell BK243.out 1).trans rfl, (cellB HB.out hw245_0), (cellB HB.out hw245_1)⟩ (fun hHeld => ?_); refine with_tabW journal_rising.tab4 journal_rising.bits4 (fun HT_ HW_ => ?_)
           generalize w21.drew = w22 at BK243 HB HR245_1 hx245_0 hx245_1 hHeld ⊢
           refine takeS 0 (some 12) HT_ HW_ hHeld ?_
           refine one_ (i := 1) (N := some 13) #[true, true, false,false,false,false,false,false,false,false,false,false,false,false,false,false,false] rfl rfl (one_of HT_.out (by kernel_rfl)) (by decide) (fun K hK => ?_)
           refine goes_ Tryz.func83 (by kernel_rfl) rfl #[.agg #[.string ((rd_T90 l0 x7_1).f0), .slice A242_1 ((rd_T90 l0 x7_1).f1).length c242_1]] (by rfl) rfl rfl (by (try simp only [List.map_toArray, List.map_cons, List.map_nil]); first | done | rfl | (simp only [List.length_drop, List.length_take]; rfl)) ?_
           with_reducible refine (journal_may.calls k1 ((rd_T90 l0 x7_1).f0) _ _ ((rd_T90 l0 x7_1).f1) true _ ?side1 ?side2 A5.out).mono ?_
           (case side1 => exact upC (Kd.C_below HR242_1.out HB.out))
           (case side2 => exact HC242_1.out)
           rintro e w23 ⟨rfl, hb⟩
           refine ⟨_, rfl, ?_⟩
           have n0_ := Aside0.mk (blk_below (g := gb243) (o := .cells #[.string ((rd_T90 l0 x7_1).f0), .slice A242_1 ((rd_T90 l0 x7_1).f1).length c242_1] 90 (0, 0)) (upO BK243.out) hb)
           have n1_ := Aside0.mk (below_step (upB HB.out) hb)
           clear BK243
           clear HB
           have BK243 := n0_
           have HB := n1_
           clear n0_ n1_
           (try clear hb)
           (try clear hb2)
           (try clear hk)
           (try clear hi)
           refine hK.out _ _ ⟨(blk_cell BK243.out 0).trans rfl, (blk_cell BK243.out 1).trans rfl, (cellB HB.out hw245_0), (cellB HB.out hw245_1)⟩ (fun hHeld => ?_)
           clear hK K
           refine normS (some 13) ?_
           refine pureS 2 (some 14) HT_ ?_
           refine pureS 3 (some 15) HT_ ?_
           refine pureS 4 (some 16) HT_ ?_
           refine pureS 5 (some 17) HT_ ?_
           refine pureS 6 (some 18) HT_ ?_
           refine pureS 7 (some 19) HT_ ?_
           refine pureS 8 (some 20) HT_ ?_
           refine pureS 9 (some 21) HT_ ?_
           refine pureS 10 (some 22) HT_ ?_
           refine takeS 11 (some 23) HT_ HW_ hHeld ?_
           refine takeS 12 (some 24) HT_ HW_ hHeld ?_
           refine one_ (i := 13) (N := some 25) #[true, true, true, true, true, true, true, true, true, true, true, true, true, true, false,false,false] rfl rfl (one_of HT_.out (by kernel_rfl)) (by decide) (fun K hK => ?_)
           refine goes_ Tryz.func84 (by kernel_rfl) rfl #[.agg #[.string ((rd_T90 l0 (ji8)).f0), .slice A245_1 ((rd_T90 l0 (ji8)).f1).length c245_1], .agg #[.string ((rd_T90 l0 x7_1).f0), .slice A242_1 ((rd_T90 l0 x7_1).f1).length c242_1]] (by rfl) rfl rfl (by (try simp only [List.map_toArray, List.map_cons, List.map_nil]); first | done | (simp only [hji8]; rfl) | rfl | (simp only [List.length_drop, List.length_take]; rfl)) ?_
           with_reducible refine (value_CompareFacts.calls k1 ((rd_T90 l0 (ji8)).f0) _ _ ((rd_T90 l0 (ji8)).f1) ((rd_T90 l0 x7_1).f0) _ _ ((rd_T90 l0 x7_1).f1) t246 _ ?side1 ?side2 ?side3 ?side4 A11.out).mono ?_
           (case side1 => exact upC (Kd.C_below HR245_1.out HB.out))
           (case side2 => exact HC245_1.out)
           (case side3 => exact upC (Kd.C_below HR242_1.out HB.out))
           (case side4 => exact HC242_1.out)
           rintro e w24 ⟨rfl, hb⟩
           refine ⟨_, rfl, ?_⟩
           have n0_ := Aside0.mk (blk_below (g := gb243) (o := .cells #[.string ((rd_T90 l0 x7_1).f0), .slice A242_1 ((rd_T90 l0 x7_1).f1).length c242_1] 90 (0, 0)) (upO BK243.out) hb)
           have n1_ := Aside0.mk (below_step (upB HB.out) hb)
           clear BK243
           clear HB
           have BK243 := n0_
           have HB := n1_
           clear n0_ n1_
           (try clear hb)
           (try clear hb2)
           (try clear hk)
           (try clear hi)
           refine hK.out _ _ ⟨(blk_cell BK243.out 0).trans rfl, (blk_cell BK243.out 1).trans rfl, (cellB HB.out hw245_0), (cellB HB.out hw245_1)⟩ (fun hHeld => ?_)
           clear hK K
           refine normS (some 25) ?_
           refine pureS 14 (some 26) HT_ ?_
           refine pureS 15 (some 27) HT_ ?_
           refine pureS 16 (some 28) HT_ ?_
           refine done_ (done_of HT_.out (by kernel_rfl)) ?_
           try go_wp2
           go_roundg k1
           case measure => have := HK1.out; omega
           case rel => exact ⟨(wrap64 (x7_1 + 1)), eqS, H', ⟨by have := HK1.out; omega⟩, ⟨upB HB.out⟩⟩
         ·rw [if_neg c10] at H
          exact absurd H (by simp)
        ·rw [if_neg c9] at H
         exact absurd H (by simp)
       ·rw [if_neg c7] at H
        have c7b0 := decide_eq_false c7
        clear c7
        have H' := Aside0.mk H
        clear H
        have p242 : 0 ≤ (x7_1 : Int) := of_decide_eq_true byA
        have q242 : x7_1 < (l0.length : Int) := of_decide_eq_true byA
        obtain ⟨ad242, A242_1, c242_1, e242, hx242_0, hx242_1, hl242_1, hi242_1⟩ := at_T90 HR0.out x7_1 p242 q242
        cases e242
        replace hx242_0 := cellB HB.out hx242_0
        replace hx242_1 := cellB HB.out hx242_1
        have HR242_1 := Aside0.mk hi242_1
        have HC242_1 := Aside0.mk hl242_1
        clear hi242_1 hl242_1
        replace p242 := eq_true p242
        replace q242 := eq_true q242
        try go_wp2_with (first | ((with_reducible refine gate_dst (N := 4) rfl ?_); refine boxS 4 #[.string (⟨#[]⟩ : ByteArray), .slice none 0 0] 90 ?_; intro gb243 hg w25 hbox hb; have n0_ := Aside0.mk (below_step (upB HB.out) hb); have n1_ := Aside0.mk (hbox); have n2_ := Aside0.mk (geB hg (upB HB.out) : w.heap.size ≤ gb243); have n3_ := Aside0.mk (geB hg (upB HB.out) : w.heap.size ≤ gb243); clear HB; have HB := n0_; have BK243 := n1_; have GW243 := n2_; have GE243 := n3_; clear n0_ n1_ n2_ n3_; clear hb hbox hg; have hcz26_0 : w25.cell? ⟨gb243, 0, none⟩ = some (.string (⟨#[]⟩ : ByteArray)) := (blk_cell BK243.out 0).trans rfl; have hcz26_1 : w25.cell? ⟨gb243, 1, none⟩ = some (.slice none 0 0) := (blk_cell BK243.out 1).trans rfl; have hfz26_0 := blk_frozen BK243.out 0; have hfz26_1 := blk_frozen BK243.out 1))
        have n0_ : Aside0 (((w25.setCell ⟨gb243, 0, none⟩ (.string ((rd_T90 l0 x7_1).f0))).setCell ⟨gb243, 1, none⟩ (.slice A242_1 ((rd_T90 l0 x7_1).f1).length c242_1)).heap[gb243]? = some (.cells #[.string ((rd_T90 l0 x7_1).f0), .slice A242_1 ((rd_T90 l0 x7_1).f1).length c242_1] 90 (0, 0))) := ⟨by refine upO ?_; refine blk_put (cs := #[.string ((rd_T90 l0 x7_1).f0), .slice none 0 0]) ?_ 1 _ rfl; refine upO ?_; refine blk_put (cs := #[.string (⟨#[]⟩ : ByteArray), .slice none 0 0]) ?_ 0 _ rfl; exact upO BK243.out⟩
        have n1_ : Aside0 (Below w.heap.size w ((w25.setCell ⟨gb243, 0, none⟩ (.string ((rd_T90 l0 x7_1).f0))).setCell ⟨gb243, 1, none⟩ (.slice A242_1 ((rd_T90 l0 x7_1).f1).length c242_1))) := ⟨upB HB.out⟩
        (try clear BK243)
        (try clear HB)
        generalize ((w25.setCell ⟨gb243, 0, none⟩ (.string ((rd_T90 l0 x7_1).f0))).setCell ⟨gb243, 1, none⟩ (.slice A242_1 ((rd_T90 l0 x7_1).f1).length c242_1)) = w27 at n0_ n1_ ⊢
        have BK243 := n0_
        have HB := n1_
        clear n0_ n1_
        have n0_ := Aside0.mk (blk_drew BK243.out)
        have n1_ := Aside0.mk (below_drew1 HB.out)
        clear BK243
        clear HB
        have BK243 := n0_
        have HB := n1_
        clear n0_ n1_
        refine start_ (n := 17) (S := fun w' => w'.cell? ⟨gb243, 0, none⟩ = some (.string ((rd_T90 l0 x7_1).f0)) ∧ w'.cell? ⟨gb243, 1, none⟩ = some (.slice A242_1 ((rd_T90 l0 x7_1).f1).length c242_1)) (ds := []) #[false,false,false,false,false,false,false,false,false,false,false,false,false,false,false,false,false] (by kernel_rfl) rfl rfl ⟨(blk_cell BK243.out 0).trans rfl, (blk_cell BK243.out 1).trans rfl⟩ (fun hHeld => ?_); refine with_tabW journal_rising.tab4 journal_rising.bits4 (fun HT_ HW_ => ?_)
        generalize w27.drew = w28 at BK243 HB hHeld ⊢
        refine takeS 0 (some 12) HT_ HW_ hHeld ?_
        refine one_ (i := 1) (N := some 13) #[true, true, false,false,false,false,false,false,false,false,false,false,false,false,false,false,false] rfl rfl (one_of HT_.out (by kernel_rfl)) (by decide) (fun K hK => ?_)
        refine goes_ Tryz.func83 (by kernel_rfl) rfl #[.agg #[.string ((rd_T90 l0 x7_1).f0), .slice A242_1 ((rd_T90 l0 x7_1).f1).length c242_1]] (by rfl) rfl rfl (by (try simp only [List.map_toArray, List.map_cons, List.map_nil]); first | done | rfl | (simp only [List.length_drop, List.length_take]; rfl)) ?_
        with_reducible refine (journal_may.calls k1 ((rd_T90 l0 x7_1).f0) _ _ ((rd_T90 l0 x7_1).f1) true _ ?side1 ?side2 A5.out).mono ?_
        (case side1 => exact upC (Kd.C_below HR242_1.out HB.out))
        (case side2 => exact HC242_1.out)
        rintro e w29 ⟨rfl, hb⟩
        refine ⟨_, rfl, ?_⟩
        have n0_ := Aside0.mk (blk_below (g := gb243) (o := .cells #[.string ((rd_T90 l0 x7_1).f0), .slice A242_1 ((rd_T90 l0 x7_1).f1).length c242_1] 90 (0, 0)) (upO BK243.out) hb)
        have n1_ := Aside0.mk (below_step (upB HB.out) hb)
        clear BK243
        clear HB
        have BK243 := n0_
        have HB := n1_
        clear n0_ n1_
        (try clear hb)
        (try clear hb2)
        (try clear hk)
        (try clear hi)
        refine hK.out _ _ ⟨(blk_cell BK243.out 0).trans rfl, (blk_cell BK243.out 1).trans rfl⟩ (fun hHeld => ?_)
        clear hK K
        refine normS (some 13) ?_
        refine pureS 2 (some 14) HT_ ?_
        refine pureS 3 (some 15) HT_ ?_
        refine pureS 4 (some 16) HT_ ?_
        refine pureS 5 (some 17) HT_ ?_
        refine pureS 6 (some 18) HT_ ?_
        refine pure_ (i := 7) (N := some 19) (v := undef) (a' := ?_) #[true, true, true, true, true, true, true, true, false,false,false,false,false,false,false,false,false] rfl rfl (any_of HT_.out (by kernel_rfl)) (fun _ _ _ h => h) (Or.inr ⟨by rfl, rfl⟩) ?_ ?_
        rotate_left
        ·simp only [Act.put, List.setIfInBounds_toArray, List.set_cons_zero, List.set_cons_succ, i64_w, i32_w]
         rfl
        refine pure_ (i := 8) (N := some 20) (v := undef) (a' := ?_) #[true, true, true, true, true, true, true, true, true, false,false,false,false,false,false,false,false] rfl rfl (any_of HT_.out (by kernel_rfl)) (fun _ _ _ h => h) (Or.inr ⟨by rfl, rfl⟩) ?_ ?_
        rotate_left
        ·simp only [Act.put, List.setIfInBounds_toArray, List.set_cons_zero, List.set_cons_succ, i64_w, i32_w]
         rfl
        refine pure_ (i := 9) (N := some 21) (v := undef) (a' := ?_) #[true, true, true, true, true, true, true, true, true, true, false,false,false,false,false,false,false] rfl rfl (any_of HT_.out (by kernel_rfl)) (fun _ _ _ h => h) (Or.inr ⟨by rfl, rfl⟩) ?_ ?_
        rotate_left
        ·simp only [Act.put, List.setIfInBounds_toArray, List.set_cons_zero, List.set_cons_succ, i64_w, i32_w]
         rfl
        refine pure_ (i := 10) (N := some 22) (v := undef) (a' := ?_) #[true, true, true, true, true, true, true, true, true, true, true, false,false,false,false,false,false] rfl rfl (any_of HT_.out (by kernel_rfl)) (fun _ _ _ h => h) (Or.inr ⟨by rfl, rfl⟩) ?_ ?_
        rotate_left
        ·simp only [Act.put, List.setIfInBounds_toArray, List.set_cons_zero, List.set_cons_succ, i64_w, i32_w]
         rfl
        refine pure_ (i := 11) (N := some 23) (v := undef) (a' := ?_) #[true, true, true, true, true, true, true, true, true, true, true, true, false,false,false,false,false] rfl rfl (any_of HT_.out (by kernel_rfl)) (fun _ _ _ h => h) (Or.inr ⟨by rfl, rfl⟩) ?_ ?_
        rotate_left
        ·simp only [Act.put, List.setIfInBounds_toArray, List.set_cons_zero, List.set_cons_succ, i64_w, i32_w]
         rfl
        refine pure_ (i := 12) (N := some 24) (v := undef) (a' := ?_) #[true, true, true, true, true, true, true, true, true, true, true, true, true, false,false,false,false] rfl rfl (any_of HT_.out (by kernel_rfl)) (fun _ _ _ h => h) (Or.inr ⟨by rfl, rfl⟩) ?_ ?_
        rotate_left
        ·simp only [Act.put, List.setIfInBounds_toArray, List.set_cons_zero, List.set_cons_succ, i64_w, i32_w]
         rfl
        refine pure_ (i := 13) (N := some 25) (v := undef) (a' := ?_) #[true, true, true, true, true, true, true, true, true, true, true, true, true, true, false,false,false] rfl rfl (any_of HT_.out (by kernel_rfl)) (fun _ _ _ h => h) (Or.inr ⟨by rfl, rfl⟩) ?_ ?_
        rotate_left
        ·simp only [Act.put, List.setIfInBounds_toArray, List.set_cons_zero, List.set_cons_succ, i64_w, i32_w]
         rfl
        refine pure_ (i := 14) (N := some 26) (v := undef) (a' := ?_) #[true, true, true, true, true, true, true, true, true, true, true, true, true, true, true, false,false] rfl rfl (any_of HT_.out (by kernel_rfl)) (fun _ _ _ h => h) (Or.inr ⟨by rfl, rfl⟩) ?_ ?_
        rotate_left
        ·simp only [Act.put, List.setIfInBounds_toArray, List.set_cons_zero, List.set_cons_succ, i64_w, i32_w]
         rfl
        refine pureS 15 (some 27) HT_ ?_
        refine pureS 16 (some 28) HT_ ?_
        refine done_ (done_of HT_.out (by kernel_rfl)) ?_
        try go_wp2
        go_roundg k1
        case measure => have := HK1.out; omega
        case rel => exact ⟨(wrap64 (x7_1 + 1)), eqS, H', ⟨by have := HK1.out; omega⟩, ⟨upB HB.out⟩⟩
      ·replace c6 := Bool.eq_false_iff.mpr c6
       subst c6
       have H1 : (some false) = some r := by rw [if_neg (show ¬ (false = true) by decide)] at H; exact H
       clear H
       have H := H1
       clear H1
       obtain rfl := Option.some.inj H
       have p242 : 0 ≤ (x7_1 : Int) := of_decide_eq_true byA
       have q242 : x7_1 < (l0.length : Int) := of_decide_eq_true byA
       obtain ⟨ad242, A242_1, c242_1, e242, hx242_0, hx242_1, hl242_1, hi242_1⟩ := at_T90 HR0.out x7_1 p242 q242
       cases e242
       replace hx242_0 := cellB HB.out hx242_0
       replace hx242_1 := cellB HB.out hx242_1
       have HR242_1 := Aside0.mk hi242_1
       have HC242_1 := Aside0.mk hl242_1
       clear hi242_1 hl242_1
       replace p242 := eq_true p242
       replace q242 := eq_true q242
       try go_wp2_with (first | ((with_reducible refine gate_dst (N := 4) rfl ?_); refine boxS 4 #[.string (⟨#[]⟩ : ByteArray), .slice none 0 0] 90 ?_; intro gb243 hg w30 hbox hb; have n0_ := Aside0.mk (below_step (upB HB.out) hb); have n1_ := Aside0.mk (hbox); have n2_ := Aside0.mk (geB hg (upB HB.out) : w.heap.size ≤ gb243); have n3_ := Aside0.mk (geB hg (upB HB.out) : w.heap.size ≤ gb243); clear HB; have HB := n0_; have BK243 := n1_; have GW243 := n2_; have GE243 := n3_; clear n0_ n1_ n2_ n3_; clear hb hbox hg; have hcz31_0 : w30.cell? ⟨gb243, 0, none⟩ = some (.string (⟨#[]⟩ : ByteArray)) := (blk_cell BK243.out 0).trans rfl; have hcz31_1 : w30.cell? ⟨gb243, 1, none⟩ = some (.slice none 0 0) := (blk_cell BK243.out 1).trans rfl; have hfz31_0 := blk_frozen BK243.out 0; have hfz31_1 := blk_frozen BK243.out 1))
       have n0_ : Aside0 (((w30.setCell ⟨gb243, 0, none⟩ (.string ((rd_T90 l0 x7_1).f0))).setCell ⟨gb243, 1, none⟩ (.slice A242_1 ((rd_T90 l0 x7_1).f1).length c242_1)).heap[gb243]? = some (.cells #[.string ((rd_T90 l0 x7_1).f0), .slice A242_1 ((rd_T90 l0 x7_1).f1).length c242_1] 90 (0, 0))) := ⟨by refine upO ?_; refine blk_put (cs := #[.string ((rd_T90 l0 x7_1).f0), .slice none 0 0]) ?_ 1 _ rfl; refine upO ?_; refine blk_put (cs := #[.string (⟨#[]⟩ : ByteArray), .slice none 0 0]) ?_ 0 _ rfl; exact upO BK243.out⟩
       have n1_ : Aside0 (Below w.heap.size w ((w30.setCell ⟨gb243, 0, none⟩ (.string ((rd_T90 l0 x7_1).f0))).setCell ⟨gb243, 1, none⟩ (.slice A242_1 ((rd_T90 l0 x7_1).f1).length c242_1))) := ⟨upB HB.out⟩
       (try clear BK243)
       (try clear HB)
       generalize ((w30.setCell ⟨gb243, 0, none⟩ (.string ((rd_T90 l0 x7_1).f0))).setCell ⟨gb243, 1, none⟩ (.slice A242_1 ((rd_T90 l0 x7_1).f1).length c242_1)) = w32 at n0_ n1_ ⊢
       have BK243 := n0_
       have HB := n1_
       clear n0_ n1_
       have n0_ := Aside0.mk (blk_drew BK243.out)
       have n1_ := Aside0.mk (below_drew1 HB.out)
       clear BK243
       clear HB
       have BK243 := n0_
       have HB := n1_
       clear n0_ n1_
       refine start_ (n := 17) (S := fun w' => w'.cell? ⟨gb243, 0, none⟩ = some (.string ((rd_T90 l0 x7_1).f0)) ∧ w'.cell? ⟨gb243, 1, none⟩ = some (.slice A242_1 ((rd_T90 l0 x7_1).f1).length c242_1)) (ds := []) #[false,false,false,false,false,false,false,false,false,false,false,false,false,false,false,false,false] (by kernel_rfl) rfl rfl ⟨(blk_cell BK243.out 0).trans rfl, (blk_cell BK243.out 1).trans rfl⟩ (fun hHeld => ?_); refine with_tabW journal_rising.tab4 journal_rising.bits4 (fun HT_ HW_ => ?_)
       generalize w32.drew = w33 at BK243 HB hHeld ⊢
       refine takeS 0 (some 12) HT_ HW_ hHeld ?_
       refine one_ (i := 1) (N := some 13) #[true, true, false,false,false,false,false,false,false,false,false,false,false,false,false,false,false] rfl rfl (one_of HT_.out (by kernel_rfl)) (by decide) (fun K hK => ?_)
       refine goes_ Tryz.func83 (by kernel_rfl) rfl #[.agg #[.string ((rd_T90 l0 x7_1).f0), .slice A242_1 ((rd_T90 l0 x7_1).f1).length c242_1]] (by rfl) rfl rfl (by (try simp only [List.map_toArray, List.map_cons, List.map_nil]); first | done | rfl | (simp only [List.length_drop, List.length_take]; rfl)) ?_
       with_reducible refine (journal_may.calls k1 ((rd_T90 l0 x7_1).f0) _ _ ((rd_T90 l0 x7_1).f1) false _ ?side1 ?side2 A5.out).mono ?_
       (case side1 => exact upC (Kd.C_below HR242_1.out HB.out))
       (case side2 => exact HC242_1.out)
       rintro e w34 ⟨rfl, hb⟩
       refine ⟨_, rfl, ?_⟩
       have n0_ := Aside0.mk (blk_below (g := gb243) (o := .cells #[.string ((rd_T90 l0 x7_1).f0), .slice A242_1 ((rd_T90 l0 x7_1).f1).length c242_1] 90 (0, 0)) (upO BK243.out) hb)
       have n1_ := Aside0.mk (below_step (upB HB.out) hb)
       clear BK243
       clear HB
       have BK243 := n0_
       have HB := n1_
       clear n0_ n1_
       (try clear hb)
       (try clear hb2)
       (try clear hk)
       (try clear hi)
       refine hK.out _ _ ⟨(blk_cell BK243.out 0).trans rfl, (blk_cell BK243.out 1).trans rfl⟩ (fun hHeld => ?_)
       clear hK K
       refine normS (some 13) ?_
       refine pureS 2 (some 14) HT_ ?_
       refine pureS 3 (some 15) HT_ ?_
       refine pure_ (i := 4) (N := some 16) (v := undef) (a' := ?_) #[true, true, true, true, true, false,false,false,false,false,false,false,false,false,false,false,false] rfl rfl (any_of HT_.out (by kernel_rfl)) (fun _ _ _ h => h) (Or.inr ⟨by rfl, rfl⟩) ?_ ?_
       rotate_left
       ·simp only [Act.put, List.setIfInBounds_toArray, List.set_cons_zero, List.set_cons_succ, i64_w, i32_w]
        rfl
       refine pure_ (i := 5) (N := some 17) (v := undef) (a' := ?_) #[true, true, true, true, true, true, false,false,false,false,false,false,false,false,false,false,false] rfl rfl (any_of HT_.out (by kernel_rfl)) (fun _ _ _ h => h) (Or.inr ⟨by rfl, rfl⟩) ?_ ?_
       rotate_left
       ·simp only [Act.put, List.setIfInBounds_toArray, List.set_cons_zero, List.set_cons_succ, i64_w, i32_w]
        rfl
       refine pure_ (i := 6) (N := some 18) (v := undef) (a' := ?_) #[true, true, true, true, true, true, true, false,false,false,false,false,false,false,false,false,false] rfl rfl (any_of HT_.out (by kernel_rfl)) (fun _ _ _ h => h) (Or.inr ⟨by rfl, rfl⟩) ?_ ?_
       rotate_left
       ·simp only [Act.put, List.setIfInBounds_toArray, List.set_cons_zero, List.set_cons_succ, i64_w, i32_w]
        rfl
       refine pure_ (i := 7) (N := some 19) (v := undef) (a' := ?_) #[true, true, true, true, true, true, true, true, false,false,false,false,false,false,false,false,false] rfl rfl (any_of HT_.out (by kernel_rfl)) (fun _ _ _ h => h) (Or.inr ⟨by rfl, rfl⟩) ?_ ?_
       rotate_left
       ·simp only [Act.put, List.setIfInBounds_toArray, List.set_cons_zero, List.set_cons_succ, i64_w, i32_w]
        rfl
       refine pure_ (i := 8) (N := some 20) (v := undef) (a' := ?_) #[true, true, true, true, true, true, true, true, true, false,false,false,false,false,false,false,false] rfl rfl (any_of HT_.out (by kernel_rfl)) (fun _ _ _ h => h) (Or.inr ⟨by rfl, rfl⟩) ?_ ?_
       rotate_left
       ·simp only [Act.put, List.setIfInBounds_toArray, List.set_cons_zero, List.set_cons_succ, i64_w, i32_w]
        rfl
       refine pure_ (i := 9) (N := some 21) (v := undef) (a' := ?_) #[true, true, true, true, true, true, true, true, true, true, false,false,false,false,false,false,false] rfl rfl (any_of HT_.out (by kernel_rfl)) (fun _ _ _ h => h) (Or.inr ⟨by rfl, rfl⟩) ?_ ?_
       rotate_left
       ·simp only [Act.put, List.setIfInBounds_toArray, List.set_cons_zero, List.set_cons_succ, i64_w, i32_w]
        rfl
       refine pure_ (i := 10) (N := some 22) (v := undef) (a' := ?_) #[true, true, true, true, true, true, true, true, true, true, true, false,false,false,false,false,false] rfl rfl (any_of HT_.out (by kernel_rfl)) (fun _ _ _ h => h) (Or.inr ⟨by rfl, rfl⟩) ?_ ?_
       rotate_left
       ·simp only [Act.put, List.setIfInBounds_toArray, List.set_cons_zero, List.set_cons_succ, i64_w, i32_w]
        rfl
       refine pure_ (i := 11) (N := some 23) (v := undef) (a' := ?_) #[true, true, true, true, true, true, true, true, true, true, true, true, false,false,false,false,false] rfl rfl (any_of HT_.out (by kernel_rfl)) (fun _ _ _ h => h) (Or.inr ⟨by rfl, rfl⟩) ?_ ?_
       rotate_left
       ·simp only [Act.put, List.setIfInBounds_toArray, List.set_cons_zero, List.set_cons_succ, i64_w, i32_w]
        rfl
       refine pure_ (i := 12) (N := some 24) (v := undef) (a' := ?_) #[true, true, true, true, true, true, true, true, true, true, true, true, true, false,false,false,false] rfl rfl (any_of HT_.out (by kernel_rfl)) (fun _ _ _ h => h) (Or.inr ⟨by rfl, rfl⟩) ?_ ?_
       rotate_left
       ·simp only [Act.put, List.setIfInBounds_toArray, List.set_cons_zero, List.set_cons_succ, i64_w, i32_w]
        rfl
       refine pure_ (i := 13) (N := some 25) (v := undef) (a' := ?_) #[true, true, true, true, true, true, true, true, true, true, true, true, true, true, false,false,false] rfl rfl (any_of HT_.out (by kernel_rfl)) (fun _ _ _ h => h) (Or.inr ⟨by rfl, rfl⟩) ?_ ?_
       rotate_left
       ·simp only [Act.put, List.setIfInBounds_toArray, List.set_cons_zero, List.set_cons_succ, i64_w, i32_w]
        rfl
       refine pure_ (i := 14) (N := some 26) (v := undef) (a' := ?_) #[true, true, true, true, true, true, true, true, true, true, true, true, true, true, true, false,false] rfl rfl (any_of HT_.out (by kernel_rfl)) (fun _ _ _ h => h) (Or.inr ⟨by rfl, rfl⟩) ?_ ?_
       rotate_left
       ·simp only [Act.put, List.setIfInBounds_toArray, List.set_cons_zero, List.set_cons_succ, i64_w, i32_w]
        rfl
       refine pure_ (i := 15) (N := some 27) (v := undef) (a' := ?_) #[true, true, true, true, true, true, true, true, true, true, true, true, true, true, true, true, false] rfl rfl (any_of HT_.out (by kernel_rfl)) (fun _ _ _ h => h) (Or.inr ⟨by rfl, rfl⟩) ?_ ?_
       rotate_left
       ·simp only [Act.put, List.setIfInBounds_toArray, List.set_cons_zero, List.set_cons_succ, i64_w, i32_w]
        rfl
       refine pureS 16 (some 28) HT_ ?_
       refine done_ (done_of HT_.out (by kernel_rfl)) ?_
       try go_wp2
       go_ret
       exact ⟨eqE, upB HB.out⟩
     ·rw [if_neg c4] at H
      exact absurd H (by simp)
    ·rw [if_neg c3] at H
     exact absurd H (by simp)
   ·rw [if_neg c2] at H
    have c2b0 := decide_eq_false c2
    clear c2
    obtain rfl := Option.some.inj H
    go_wp2
    go_ret
    exact ⟨eqE, upB HB.out⟩
end Go.Proofs.J.Print
end
section
namespace Go.Proofs.J.Print
open Go.RowKit Go.Proofs.PrintWords Go.Proofs.PrintLast Go.Proofs.PrintMore
mutual
def journal_apart.l0 : Nat → List (S90) → List (S90) → Int → Int → Option (Bool)
 | 0, _, _, _, _ => none
 | k + 1, x0, x1, x5, x6 => if x5 < (x0.length : Int) then (journal_apart.j1 k x0 x1 x5 x6 (decide (x6 < (x1.length : Int)))) else (journal_apart.j1 k x0 x1 x5 x6 false)
def journal_apart.j1 : Nat → List (S90) → List (S90) → Int → Int → Bool → Option (Bool)
 | 0, _, _, _, _, _ => none
 | k + 1, x0, x1, x5, x6, x16 => if x16 = true then (if 0 ≤ x5 then (if x5 < (x0.length : Int) then (if 0 ≤ x6 then (if x6 < (x1.length : Int) then ((value_CompareFacts.f k ((rd_T90 x0 x5).f0) ((rd_T90 x0 x5).f1) ((rd_T90 x1 x6).f0) ((rd_T90 x1 x6).f1)).bind fun t249 => (if t249 = 0 then (some false) else (if t249 = (-1) then (journal_apart.l0 k x0 x1 (wrap64 (x5 + 1)) x6) else (journal_apart.l0 k x0 x1 x5 (wrap64 (x6 + 1)))))) else (none)) else (none)) else (none)) else (none)) else (some true)
end
def journal_apart.f (k : Nat) (l0 : List (S90)) (l1 : List (S90)) : Option (Bool) := journal_apart.l0 k l0 l1 0 0
def journal_apart.T3 : Bool × List (List Nat × List Nat) := (true, [([], []), ([], []), ([0, 1], [0, 1]), ([2], [2]), ([], []), ([], []), ([4, 5], [4, 5]), ([6], [6]), ([3, 7], [3, 7])])
def journal_apart.B3 : List Nat := [0, 0, 3, 7, 0, 0, 48, 112, 255]
theorem journal_apart.tab3 : rtab .any (opsOf Tryz.f24 3) = journal_apart.T3 := by kernel_rfl
theorem journal_apart.bits3 : waitsOk journal_apart.T3.2 journal_apart.B3 = true := by kernel_rfl
set_option maxHeartbeats 8000000 in
set_option maxRecDepth 100000 in
theorem journal_apart.calls (k : Nat) (A0 : Option Addr) (c0 : Nat) (l0 : List (S90)) (A1 : Option Addr) (c1 : Nat) (l1 : List (S90)) (r : Bool) (w : World) (hr0 : Kd.C k90 w A0 l0.length l0) (hc0 : l0.length ≤ c0) (hr1 : Kd.C k90 w A1 l1.length l1) (hc1 : l1.length ≤ c1) (h : journal_apart.f k l0 l1 = some r) :
  Calls Tryz.prog 24 #[.slice A0 l0.length c0, .slice A1 l1.length c1] w fun e w' => e = .returned (.bool r) ∧ Below w.heap.size w w' := by
 have hu90 := Tryz.underlying90
 have HR0 := Aside0.mk hr0
 have HC0 := Aside0.mk hc0
 clear hr0 hc0
 have HR1 := Aside0.mk hr1
 have HC1 := Aside0.mk hc1
 clear hr1 hc1
 have HB := Aside0.mk (Below.refl w.heap.size w)
 have H : (journal_apart.l0 k l0 l1 0 0) = some r := h
 clear h
 have H' := Aside0.mk H
 clear H
 go_enter Tryz.func24, Tryz.ntmps24
 go_wp2
 go_loopg [5, 6] k (fun kq v5 v6 w' => ∃ (x5_1 : Int) (x6_1 : Int), v5 = .int .i64 x5_1 ∧ v6 = .int .i64 x6_1 ∧ Aside0 (journal_apart.l0 kq l0 l1 x5_1 x6_1 = some r) ∧ Aside0 (kq ≤ k) ∧ Aside0 (Below w.heap.size w w'))
 case atStart => exact ⟨(0), (0), eqS, eqS, H', ⟨Nat.le_refl _⟩, ⟨upB HB.out⟩⟩
 case round =>
  clear H'
  try clear c1
  try clear c2
  try clear p2
  obtain ⟨x5_1, x6_1, rfl, rfl, HA, HK1, HB⟩ := hrel
  cases gk with
  | zero => exact absurd HA.out (by simp [journal_apart.l0])
  | succ k1 =>
   have H := HA.out
   clear HA
   simp only [journal_apart.l0] at H
   have HC3 := Aside0.mk H
   clear H
   go_upto_region 2 with (fail)
   go_cut [16] (fun v16 wc => ∃ (kq : Nat) (x16_2 : Bool), v16 = .bool x16_2 ∧ Aside0 (journal_apart.j1 kq l0 l1 x5_1 x6_1 x16_2 = some r) ∧ Aside0 (kq ≤ k1) ∧ Aside0 (Below w.heap.size w wc))
   case first =>
    have H := HC3.out
    clear HC3
    by_cases c4 : x5_1 < (l0.length : Int)
    ·rw [if_pos c4] at H
     have c4b0 := decide_eq_true c4
     clear c4
     (first | rw [c4b0] | (simp only [i64_w, i32_w]; rw [c4b0]) | skip)
     have H' := Aside0.mk H
     clear H
     go_wp2
     go_meet
     case rel => exact ⟨_, (decide (x6_1 < (l1.length : Int))), eqS, H', ⟨by have := HK1.out; first | omega | exact Nat.le_refl _⟩, ⟨upB HB.out⟩⟩
    ·rw [if_neg c4] at H
     have c4b0 := decide_eq_false c4
     clear c4
     (first | rw [c4b0] | (simp only [i64_w, i32_w]; rw [c4b0]) | skip)
     have H' := Aside0.mk H
     clear H
     go_wp2
     go_meet
     case rel => exact ⟨_, (false), eqS, H', ⟨by have := HK1.out; first | omega | exact Nat.le_refl _⟩, ⟨upB HB.out⟩⟩
   case rest =>
    clear HC3
    try clear c1
    try clear c2
    try clear p2
    try clear c4
    try clear c4b0
    try clear p2
    obtain ⟨kq, x16_2, rfl, HA, HJ2, HB⟩ := hcut
    cases kq with
    | zero => exact absurd HA.out (by simp [journal_apart.j1])
    | succ kj2 =>
     have H := HA.out
     clear HA
     simp only [journal_apart.j1] at H
     by_cases c5 : x16_2 = true
     ·subst c5
      have H1 : (if 0 ≤ x5_1 then (if x5_1 < (l0.length : Int) then (if 0 ≤ x6_1 then (if x6_1 < (l1.length : Int) then ((value_CompareFacts.f kj2 ((rd_T90 l0 x5_1).f0) ((rd_T90 l0 x5_1).f1) ((rd_T90 l1 x6_1).f0) ((rd_T90 l1 x6_1).f1)).bind fun t249 => (if t249 = 0 then (some false) else (if t249 = (-1) then (journal_apart.l0 kj2 l0 l1 (wrap64 (x5_1 + 1)) x6_1) else (journal_apart.l0 kj2 l0 l1 x5_1 (wrap64 (x6_1 + 1)))))) else (none)) else (none)) else (none)) else (none)) = some r := by rw [if_pos rfl] at H; exact H
      clear H
      have H := H1
      clear H1
      by_cases c6 : 0 ≤ x5_1
      ·rw [if_pos c6] at H
       have c6b0 := decide_eq_true c6
       clear c6
       by_cases c7 : x5_1 < (l0.length : Int)
       ·rw [if_pos c7] at H
        have c7b0 := decide_eq_true c7
        clear c7
        by_cases c8 : 0 ≤ x6_1
        ·rw [if_pos c8] at H
         have c8b0 := decide_eq_true c8
         clear c8
         by_cases c9 : x6_1 < (l1.length : Int)
         ·rw [if_pos c9] at H
          have c9b0 := decide_eq_true c9
          clear c9
          replace H := Option.bind_eq_some_iff.mp H
          obtain ⟨t249, A100, H⟩ := H
          replace H : (if t249 = 0 then (some false) else (if t249 = (-1) then (journal_apart.l0 kj2 l0 l1 (wrap64 (x5_1 + 1)) x6_1) else (journal_apart.l0 kj2 l0 l1 x5_1 (wrap64 (x6_1 + 1))))) = some r := H
          have A10 := Aside0.mk A100
          clear A100
          by_cases c11 : t249 = 0
          ·rw [if_pos c11] at H
           have c11b0 : (t249 == 0) = true := beq_iff_eq.mpr c11
           have c11b1 : (t249 != 0) = false := bne_eq_false_iff_eq.mpr c11
           clear c11
           obtain rfl := Option.some.inj H
           try go_wp2
           have n0_ := Aside0.mk (below_drew1 HB.out)
           clear HB
           have HB := n0_
           clear n0_
           have p247 : 0 ≤ (x5_1 : Int) := of_decide_eq_true byA
           have q247 : x5_1 < (l0.length : Int) := of_decide_eq_true byA
           obtain ⟨ad247, A247_1, c247_1, e247, hx247_0, hx247_1, hl247_1, hi247_1⟩ := at_T90 HR0.out x5_1 p247 q247
           have hw247_1 := hx247_1
           have hw247_0 := hx247_0
           cases e247
           replace hx247_0 := cellB HB.out hx247_0
           replace hx247_1 := cellB HB.out hx247_1
           have HR247_1 := Aside0.mk hi247_1
           have HC247_1 := Aside0.mk hl247_1
           clear hi247_1 hl247_1
           replace p247 := eq_true p247
           replace q247 := eq_true q247
           have p248 : 0 ≤ (x6_1 : Int) := of_decide_eq_true byA
           have q248 : x6_1 < (l1.length : Int) := of_decide_eq_true byA
           obtain ⟨ad248, A248_1, c248_1, e248, hx248_0, hx248_1, hl248_1, hi248_1⟩ := at_T90 HR1.out x6_1 p248 q248
           have hw248_1 := hx248_1
           have hw248_0 := hx248_0
           cases e248
           replace hx248_0 := cellB HB.out hx248_0
           replace hx248_1 := cellB HB.out hx248_1
           have HR248_1 := Aside0.mk hi248_1
           have HC248_1 := Aside0.mk hl248_1
           clear hi248_1 hl248_1
           replace p248 := eq_true p248
           replace q248 := eq_true q248
           refine start_ (n := 9) (S := fun w' => w'.cell? (ad247.add ((x5_1).toNat * 2)) = some (.string ((rd_T90 l0 x5_1).f0)) ∧ w'.cell? ⟨(ad247.add ((x5_1).toNat * 2)).block, (ad247.add ((x5_1).toNat * 2)).off + 1, none⟩ = some (.slice A247_1 ((rd_T90 l0 x5_1).f1).length c247_1) ∧ w'.cell? (ad248.add ((x6_1).toNat * 2)) = some (.string ((rd_T90 l1 x6_1).f0)) ∧ w'.cell? ⟨(ad248.add ((x6_1).toNat * 2)).block, (ad248.add ((x6_1).toNat * 2)).off + 1, none⟩ = some (.slice A248_1 ((rd_T90 l1 x6_1).f1).length c248_1)) (ds := []) #[false,false,false,false,false,false,false,false,false] (by kernel_rfl) rfl rfl ⟨(cellB HB.out hw247_0), (cellB HB.out hw247_1), (cellB HB.out hw248_0), (cellB HB.out hw248_1)⟩ (fun hHeld => ?_); refine with_tabW journal_apart.tab3 journal_apart.bits3 (fun HT_ HW_ => ?_)
           generalize wc.drew = w12 at HB HR247_1 HR248_1 hx247_0 hx247_1 hx248_0 hx248_1 hHeld ⊢
           refine pureS 0 (some 17) HT_ ?_
           refine pureS 1 (some 18) HT_ ?_
           refine pureS 2 (some 19) HT_ ?_
           refine pureS 4 (some 21) HT_ ?_
           refine pureS 5 (some 22) HT_ ?_
           refine pureS 6 (some 23) HT_ ?_
           refine takeS 3 (some 20) HT_ HW_ hHeld ?_
           refine takeS 7 (some 24) HT_ HW_ hHeld ?_
           refine one_ (i := 8) (N := some 25) #[true, true, true, true, true, true, true, true, true] rfl rfl (one_of HT_.out (by kernel_rfl)) (by decide) (fun K hK => ?_)
           refine goes_ Tryz.func84 (by kernel_rfl) rfl #[.agg #[.string ((rd_T90 l0 x5_1).f0), .slice A247_1 ((rd_T90 l0 x5_1).f1).length c247_1], .agg #[.string ((rd_T90 l1 x6_1).f0), .slice A248_1 ((rd_T90 l1 x6_1).f1).length c248_1]] (by rfl) rfl rfl (by (try simp only [List.map_toArray, List.map_cons, List.map_nil]); first | done | rfl | (simp only [List.length_drop, List.length_take]; rfl)) ?_
           with_reducible refine (value_CompareFacts.calls kj2 ((rd_T90 l0 x5_1).f0) _ _ ((rd_T90 l0 x5_1).f1) ((rd_T90 l1 x6_1).f0) _ _ ((rd_T90 l1 x6_1).f1) t249 _ ?side1 ?side2 ?side3 ?side4 A10.out).mono ?_
           (case side1 => exact upC (Kd.C_below HR247_1.out HB.out))
           (case side2 => exact HC247_1.out)
           (case side3 => exact upC (Kd.C_below HR248_1.out HB.out))
           (case side4 => exact HC248_1.out)
           rintro e w13 ⟨rfl, hb⟩
           refine ⟨_, rfl, ?_⟩
           have n0_ := Aside0.mk (below_step (upB HB.out) hb)
           clear HB
           have HB := n0_
           clear n0_
           (try clear hb)
           (try clear hb2)
           (try clear hk)
           (try clear hi)
           refine hK.out _ _ ⟨(cellB HB.out hw247_0), (cellB HB.out hw247_1), (cellB HB.out hw248_0), (cellB HB.out hw248_1)⟩ (fun hHeld => ?_)
           clear hK K
           refine normS (some 25) ?_
           refine done_ (done_of HT_.out (by kernel_rfl)) ?_
           try go_wp2
           go_ret
           exact ⟨eqE, upB HB.out⟩
          ·rw [if_neg c11] at H
           have c11b0 : (t249 == 0) = false := beq_eq_false_iff_ne.mpr c11
           have c11b1 : (t249 != 0) = true := bne_iff_ne.mpr c11
           by_cases c14 : t249 = (-1)
           ·rw [if_pos c14] at H
            have c14b0 : (t249 == (-1)) = true := beq_iff_eq.mpr c14
            have c14b1 : (t249 != (-1)) = false := bne_eq_false_iff_eq.mpr c14
            clear c14
            have H' := Aside0.mk H
            clear H
            try go_wp2
            have n0_ := Aside0.mk (below_drew1 HB.out)
            clear HB
            have HB := n0_
            clear n0_
            have p247 : 0 ≤ (x5_1 : Int) := of_decide_eq_true byA
            have q247 : x5_1 < (l0.length : Int) := of_decide_eq_true byA
            obtain ⟨ad247, A247_1, c247_1, e247, hx247_0, hx247_1, hl247_1, hi247_1⟩ := at_T90 HR0.out x5_1 p247 q247
            have hw247_1 := hx247_1
            have hw247_0 := hx247_0
            cases e247
            replace hx247_0 := cellB HB.out hx247_0
            replace hx247_1 := cellB HB.out hx247_1
            have HR247_1 := Aside0.mk hi247_1
            have HC247_1 := Aside0.mk hl247_1
            clear hi247_1 hl247_1
            replace p247 := eq_true p247
            replace q247 := eq_true q247
            have p248 : 0 ≤ (x6_1 : Int) := of_decide_eq_true byA
            have q248 : x6_1 < (l1.length : Int) := of_decide_eq_true byA
            obtain ⟨ad248, A248_1, c248_1, e248, hx248_0, hx248_1, hl248_1, hi248_1⟩ := at_T90 HR1.out x6_1 p248 q248
            have hw248_1 := hx248_1
            have hw248_0 := hx248_0
            cases e248
            replace hx248_0 := cellB HB.out hx248_0
            replace hx248_1 := cellB HB.out hx248_1
            have HR248_1 := Aside0.mk hi248_1
            have HC248_1 := Aside0.mk hl248_1
            clear hi248_1 hl248_1
            replace p248 := eq_true p248
            replace q248 := eq_true q248
            refine start_ (n := 9) (S := fun w' => w'.cell? (ad247.add ((x5_1).toNat * 2)) = some (.string ((rd_T90 l0 x5_1).f0)) ∧ w'.cell? ⟨(ad247.add ((x5_1).toNat * 2)).block, (ad247.add ((x5_1).toNat * 2)).off + 1, none⟩ = some (.slice A247_1 ((rd_T90 l0 x5_1).f1).length c247_1) ∧ w'.cell? (ad248.add ((x6_1).toNat * 2)) = some (.string ((rd_T90 l1 x6_1).f0)) ∧ w'.cell? ⟨(ad248.add ((x6_1).toNat * 2)).block, (ad248.add ((x6_1).toNat * 2)).off + 1, none⟩ = some (.slice A248_1 ((rd_T90 l1 x6_1).f1).length c248_1)) (ds := []) #[false,false,false,false,false,false,false,false,false] (by kernel_rfl) rfl rfl ⟨(cellB HB.out hw247_0), (cellB HB.out hw247_1), (cellB HB.out hw248_0), (cellB HB.out hw248_1)⟩ (fun hHeld => ?_); refine with_tabW journal_apart.tab3 journal_apart.bits3 (fun HT_ HW_ => ?_)
            generalize wc.drew = w15 at HB HR247_1 HR248_1 hx247_0 hx247_1 hx248_0 hx248_1 hHeld ⊢
            refine pureS 0 (some 17) HT_ ?_
            refine pureS 1 (some 18) HT_ ?_
            refine pureS 2 (some 19) HT_ ?_
            refine pureS 4 (some 21) HT_ ?_
            refine pureS 5 (some 22) HT_ ?_
            refine pureS 6 (some 23) HT_ ?_
            refine takeS 3 (some 20) HT_ HW_ hHeld ?_
            refine takeS 7 (some 24) HT_ HW_ hHeld ?_
            refine one_ (i := 8) (N := some 25) #[true, true, true, true, true, true, true, true, true] rfl rfl (one_of HT_.out (by kernel_rfl)) (by decide) (fun K hK => ?_)
            refine goes_ Tryz.func84 (by kernel_rfl) rfl #[.agg #[.string ((rd_T90 l0 x5_1).f0), .slice A247_1 ((rd_T90 l0 x5_1).f1).length c247_1], .agg #[.string ((rd_T90 l1 x6_1).f0), .slice A248_1 ((rd_T90 l1 x6_1).f1).length c248_1]] (by rfl) rfl rfl (by (try simp only [List.map_toArray, List.map_cons, List.map_nil]); first | done | rfl | (simp only [List.length_drop, List.length_take]; rfl)) ?_
            with_reducible refine (value_CompareFacts.calls kj2 ((rd_T90 l0 x5_1).f0) _ _ ((rd_T90 l0 x5_1).f1) ((rd_T90 l1 x6_1).f0) _ _ ((rd_T90 l1 x6_1).f1) t249 _ ?side1 ?side2 ?side3 ?side4 A10.out).mono ?_
            (case side1 => exact upC (Kd.C_below HR247_1.out HB.out))
            (case side2 => exact HC247_1.out)
            (case side3 => exact upC (Kd.C_below HR248_1.out HB.out))
            (case side4 => exact HC248_1.out)
            rintro e w16 ⟨rfl, hb⟩
            refine ⟨_, rfl, ?_⟩
            have n0_ := Aside0.mk (below_step (upB HB.out) hb)
            clear HB
            have HB := n0_
            clear n0_
            (try clear hb)
            (try clear hb2)
            (try clear hk)
            (try clear hi)
            refine hK.out _ _ ⟨(cellB HB.out hw247_0), (cellB HB.out hw247_1), (cellB HB.out hw248_0), (cellB HB.out hw248_1)⟩ (fun hHeld => ?_)
            clear hK K
            refine normS (some 25) ?_
            refine done_ (done_of HT_.out (by kernel_rfl)) ?_
            try go_wp2
            go_roundg kj2
            case measure => have := HK1.out; have := HJ2.out; omega
            case rel => exact ⟨(wrap64 (x5_1 + 1)), (x6_1), eqS, eqS, H', ⟨by have := HK1.out; have := HJ2.out; omega⟩, ⟨upB HB.out⟩⟩
           ·rw [if_neg c14] at H
            have c14b0 : (t249 == (-1)) = false := beq_eq_false_iff_ne.mpr c14
            have c14b1 : (t249 != (-1)) = true := bne_iff_ne.mpr c14
            have H' := Aside0.mk H
            clear H
            try go_wp2
            have n0_ := Aside0.mk (below_drew1 HB.out)
            clear HB
            have HB := n0_
            clear n0_
            have p247 : 0 ≤ (x5_1 : Int) := of_decide_eq_true byA
            have q247 : x5_1 < (l0.length : Int) := of_decide_eq_true byA
            obtain ⟨ad247, A247_1, c247_1, e247, hx247_0, hx247_1, hl247_1, hi247_1⟩ := at_T90 HR0.out x5_1 p247 q247
            have hw247_1 := hx247_1
            have hw247_0 := hx247_0
            cases e247
            replace hx247_0 := cellB HB.out hx247_0
            replace hx247_1 := cellB HB.out hx247_1
            have HR247_1 := Aside0.mk hi247_1
            have HC247_1 := Aside0.mk hl247_1
            clear hi247_1 hl247_1
            replace p247 := eq_true p247
            replace q247 := eq_true q247
            have p248 : 0 ≤ (x6_1 : Int) := of_decide_eq_true byA
            have q248 : x6_1 < (l1.length : Int) := of_decide_eq_true byA
            obtain ⟨ad248, A248_1, c248_1, e248, hx248_0, hx248_1, hl248_1, hi248_1⟩ := at_T90 HR1.out x6_1 p248 q248
            have hw248_1 := hx248_1
            have hw248_0 := hx248_0
            cases e248
            replace hx248_0 := cellB HB.out hx248_0
            replace hx248_1 := cellB HB.out hx248_1
            have HR248_1 := Aside0.mk hi248_1
            have HC248_1 := Aside0.mk hl248_1
            clear hi248_1 hl248_1
            replace p248 := eq_true p248
            replace q248 := eq_true q248
            refine start_ (n := 9) (S := fun w' => w'.cell? (ad247.add ((x5_1).toNat * 2)) = some (.string ((rd_T90 l0 x5_1).f0)) ∧ w'.cell? ⟨(ad247.add ((x5_1).toNat * 2)).block, (ad247.add ((x5_1).toNat * 2)).off + 1, none⟩ = some (.slice A247_1 ((rd_T90 l0 x5_1).f1).length c247_1) ∧ w'.cell? (ad248.add ((x6_1).toNat * 2)) = some (.string ((rd_T90 l1 x6_1).f0)) ∧ w'.cell? ⟨(ad248.add ((x6_1).toNat * 2)).block, (ad248.add ((x6_1).toNat * 2)).off + 1, none⟩ = some (.slice A248_1 ((rd_T90 l1 x6_1).f1).length c248_1)) (ds := []) #[false,false,false,false,false,false,false,false,false] (by kernel_rfl) rfl rfl ⟨(cellB HB.out hw247_0), (cellB HB.out hw247_1), (cellB HB.out hw248_0), (cellB HB.out hw248_1)⟩ (fun hHeld => ?_); refine with_tabW journal_apart.tab3 journal_apart.bits3 (fun HT_ HW_ => ?_)
            generalize wc.drew = w17 at HB HR247_1 HR248_1 hx247_0 hx247_1 hx248_0 hx248_1 hHeld ⊢
            refine pureS 0 (some 17) HT_ ?_
            refine pureS 1 (some 18) HT_ ?_
            refine pureS 2 (some 19) HT_ ?_
            refine pureS 4 (some 21) HT_ ?_
            refine pureS 5 (some 22) HT_ ?_
            refine pureS 6 (some 23) HT_ ?_
            refine takeS 3 (some 20) HT_ HW_ hHeld ?_
            refine takeS 7 (some 24) HT_ HW_ hHeld ?_
            refine one_ (i := 8) (N := some 25) #[true, true, true, true, true, true, true, true, true] rfl rfl (one_of HT_.out (by kernel_rfl)) (by decide) (fun K hK => ?_)
            refine goes_ Tryz.func84 (by kernel_rfl) rfl #[.agg #[.string ((rd_T90 l0 x5_1).f0), .slice A247_1 ((rd_T90 l0 x5_1).f1).length c247_1], .agg #[.string ((rd_T90 l1 x6_1).f0), .slice A248_1 ((rd_T90 l1 x6_1).f1).length c248_1]] (by rfl) rfl rfl (by (try simp only [List.map_toArray, List.map_cons, List.map_nil]); first | done | rfl | (simp only [List.length_drop, List.length_take]; rfl)) ?_
            with_reducible refine (value_CompareFacts.calls kj2 ((rd_T90 l0 x5_1).f0) _ _ ((rd_T90 l0 x5_1).f1) ((rd_T90 l1 x6_1).f0) _ _ ((rd_T90 l1 x6_1).f1) t249 _ ?side1 ?side2 ?side3 ?side4 A10.out).mono ?_
            (case side1 => exact upC (Kd.C_below HR247_1.out HB.out))
            (case side2 => exact HC247_1.out)
            (case side3 => exact upC (Kd.C_below HR248_1.out HB.out))
            (case side4 => exact HC248_1.out)
            rintro e w18 ⟨rfl, hb⟩
            refine ⟨_, rfl, ?_⟩
            have n0_ := Aside0.mk (below_step (upB HB.out) hb)
            clear HB
            have HB := n0_
            clear n0_
            (try clear hb)
            (try clear hb2)
            (try clear hk)
            (try clear hi)
            refine hK.out _ _ ⟨(cellB HB.out hw247_0), (cellB HB.out hw247_1), (cellB HB.out hw248_0), (cellB HB.out hw248_1)⟩ (fun hHeld => ?_)
            clear hK K
            refine normS (some 25) ?_
            refine done_ (done_of HT_.out (by kernel_rfl)) ?_
            try go_wp2
            go_roundg kj2
            case measure => have := HK1.out; have := HJ2.out; omega
            case rel => exact ⟨(x5_1), (wrap64 (x6_1 + 1)), eqS, eqS, H', ⟨by have := HK1.out; have := HJ2.out; omega⟩, ⟨upB HB.out⟩⟩
         ·rw [if_neg c9] at H
          exact absurd H (by simp)
        ·rw [if_neg c8] at H
         exact absurd H (by simp)
       ·rw [if_neg c7] at H
        exact absurd H (by simp)
      ·rw [if_neg c6] at H
       exact absurd H (by simp)
     ·replace c5 := Bool.eq_false_iff.mpr c5
      subst c5
      have H1 : (some true) = some r := by rw [if_neg (show ¬ (false = true) by decide)] at H; exact H
      clear H
      have H := H1
      clear H1
      obtain rfl := Option.some.inj H
      go_wp2
      go_ret
      exact ⟨eqE, upB HB.out⟩
end Go.Proofs.J.Print
end
section
namespace Go.Proofs.J.Print
open Go.RowKit Go.Proofs.PrintWords Go.Proofs.PrintLast Go.Proofs.PrintMore
def journal_put_uint64.l0 : Nat → List Int → Int → Int → Int → Option (List Int)
 | 0, _, _, _, _ => none
 | k + 1, x0, x1, x7, x8 => if x8 < x7 then (if x0.length < 140737488355328 then (journal_put_uint64.l0 k (x0 ++ [(x1) % 256]) (x1 / 256) x7 (wrap64 (x8 + 1))) else (none)) else (some x0)
def journal_put_uint64.f (k : Nat) (l0 : List Int) (a1 : Int) (a2 : Int) : Option (List Int) := journal_put_uint64.l0 k l0 a1 a2 0
set_option maxHeartbeats 8000000 in
set_option maxRecDepth 100000 in
theorem journal_put_uint64.calls (k : Nat) (P0_ : Nat → Prop) (u9000_ : Value) (l0 : List Int) (a1 : Int) (a2 : Int) (r : List Int) (w0 w : World) (hB : Below w0.heap.size w0 w) (ho0 : Kd.R (Kd.int .u8) 5 w w0.heap.size P0_ u9000_ l0) (h : journal_put_uint64.f k l0 a1 a2 = some r) :
  Calls Tryz.prog 25 #[u9000_, .int .u64 a1, .int .i64 a2] w fun e w' => ∃ v0_ : Value, e = .returned (v0_) ∧ Kd.R (Kd.int .u8) 5 w' w0.heap.size (fun k_ => (P0_ k_ ∨ w.heap.size ≤ k_)) v0_ r ∧ Below w0.heap.size w0 w' ∧ Kept w w' (fun k_ => P0_ k_) := by
 have HO0 := Aside0.mk (show Kd.R (Kd.int .u8) 5 w w0.heap.size (fun k_ => (P0_ k_ ∨ w.heap.size ≤ k_)) u9000_ l0 from Kd.R_mono ho0 (fun k_ hk => (.inl hk)))
 have HK := Aside0.mk (Kept.refl w (fun k_ => P0_ k_))
 have HW0 := Aside0.mk hB.size
 have HB := Aside0.mk hB
 clear hB
 have H : (journal_put_uint64.l0 k l0 a1 a2 0) = some r := h
 clear h
 have H' := Aside0.mk H
 clear H
 go_enter Tryz.func25, Tryz.ntmps25
 go_wp2
 go_loopg [0, 1, 8] k (fun kq v0 v1 v8 w' => ∃ (x0_1 : List Int) (x1_1 : Int) (x8_1 : Int), v1 = .int .u64 x1_1 ∧ v8 = .int .i64 x8_1 ∧ Aside0 (journal_put_uint64.l0 kq x0_1 x1_1 a2 x8_1 = some r) ∧ Aside0 (kq ≤ k) ∧ Aside0 (Kd.R (Kd.int .u8) 5 w' w0.heap.size (fun k_ => (P0_ k_ ∨ w.heap.size ≤ k_)) v0 x0_1) ∧ Aside0 (Kept w w' (fun k_ => P0_ k_)) ∧ Aside0 (Below w0.heap.size w0 w'))
 case atStart => exact ⟨(l0), (a1), (0), eqS, eqS, H', ⟨Nat.le_refl _⟩, ⟨upR HO0.out⟩, ⟨by repeat (first | (with_reducible first | exact HK.out | apply Kept.alloc | apply Kept.drewN | apply Kept.drew) | exact HK.out)⟩, ⟨upB HB.out⟩⟩
 case round =>
  clear H'
  try clear c2
  try clear p2
  obtain ⟨x0_1, x1_1, x8_1, rfl, rfl, HA, HK1, HO_0, HK, HB⟩ := hrel
  cases gk with
  | zero => exact absurd HA.out (by simp [journal_put_uint64.l0])
  | succ k1 =>
   have H := HA.out
   clear HA
   simp only [journal_put_uint64.l0] at H
   by_cases c4 : x8_1 < a2
   ·rw [if_pos c4] at H
    have c4b0 := decide_eq_true c4
    clear c4
    by_cases c5 : x0_1.length < 140737488355328
    ·rw [if_pos c5] at H
     have LMc5 := Aside0.mk c5
     clear c5
     obtain ⟨y250, hy250⟩ : ∃ y_ : List Int, y_ = (x0_1 ++ [(x1_1) % 256]) := ⟨_, rfl⟩
     replace H : (journal_put_uint64.l0 k1 y250 (x1_1 / 256) a2 (wrap64 (x8_1 + 1))) = some r := by first | (rw [hy250]; with_reducible exact H) | (have H2_ := (Option.bind_some _ _).symm.trans H; rw [hy250]; with_reducible exact H2_) | (have H2_ := (Option.bind_some _ _).symm.trans H; with_reducible exact H2_) | with_reducible exact H | (rw [hy250]; exact H) | exact H
     have Ny250 := Aside0.mk hy250
     clear hy250
     have H' := Aside0.mk H
     clear H
     go_wp2_with (first | ((with_reducible refine gate_builtin (b := .append) (xs := #[.tmp 10, .tmp 13]) rfl ?_); at_builtin; refine Kd.R_append (Kd.int .u8) (w0 := w0) w0.heap.size rfl (.tmp 10) (.tmp 13) 78 5 (.int .u8 0) 1 rfl Tryz.underlying78 info5 rfl (by decide) (by omega) u0 x0_1 ((x1_1) % 256) [.int .u8 ((x1_1) % 256)] (fun k_ => (P0_ k_ ∨ w.heap.size ≤ k_)) (fun _ => False) rfl rfl ?aP (fun _ hk => hk.elim) ?aF ?aO ?aB ?aS ?aL ?_; (case aP => exact rfl); (case aB => exact (upB HB.out)); (case aF => exact (fun k_ hk => (.inr (Nat.le_trans (by first | exact HK.out.1 | exact (show Kept w _ (fun k_ => P0_ k_) from by repeat (first | (with_reducible first | exact HK.out | apply Kept.alloc | apply Kept.drewN | apply Kept.drew) | exact HK.out)).1) hk)))); (case aO => exact (upR HO_0.out)); (case aS => exact (below_size (upB HB.out))); (case aL => have := LMc5.out; omega); intro v251 w6 ho hb hg hat; rw [← Ny250.out] at ho; have n0_ := Aside0.mk (hb); have n1_ := Aside0.mk (Kept.of_grown (S := (fun k_ => P0_ k_)) hg (by repeat (first | (with_reducible first | exact HK.out | apply Kept.alloc | apply Kept.drewN | apply Kept.drew) | exact HK.out)) (fun k_ e_ => (HO_0.out.1 k_ e_))); have n2_ := Aside0.mk (ho); clear HB; clear HK; clear HO_0; have HB := n0_; have HK := n1_; have HO252 := n2_; clear n0_ n1_ n2_; clear ho hb hg hat))
     go_roundg k1
     case measure => have := HK1.out; omega
     case rel => exact ⟨(y250), (x1_1 / 256), (wrap64 (x8_1 + 1)), eqS, eqS, H', ⟨by have := HK1.out; omega⟩, ⟨upR HO252.out⟩, ⟨by repeat (first | (with_reducible first | exact HK.out | apply Kept.alloc | apply Kept.drewN | apply Kept.drew) | exact HK.out)⟩, ⟨upB HB.out⟩⟩
    ·rw [if_neg c5] at H
     exact absurd H (by simp)
   ·rw [if_neg c4] at H
    have c4b0 := decide_eq_false c4
    clear c4
    obtain rfl := Option.some.inj H
    go_wp2
    go_ret
    exact ⟨_, eqE, upR HO_0.out, upB HB.out, by repeat (first | (with_reducible first | exact HK.out | apply Kept.alloc | apply Kept.drewN | apply Kept.drew) | exact HK.out)⟩
end Go.Proofs.J.Print
end
section
namespace Go.Proofs.J.Print
open Go.RowKit Go.Proofs.PrintWords Go.Proofs.PrintLast Go.Proofs.PrintMore
def journal_put_uint32.l0 : Nat → List Int → Int → Int → Int → Option (List Int)
 | 0, _, _, _, _ => none
 | k + 1, x0, x1, x7, x8 => if x8 < x7 then (if x0.length < 140737488355328 then (journal_put_uint32.l0 k (x0 ++ [(x1) % 256]) (((IntKind.u64.wrap (x1)) / 256) % 4294967296) x7 (wrap64 (x8 + 1))) else (none)) else (some x0)
def journal_put_uint32.f (k : Nat) (l0 : List Int) (a1 : Int) (a2 : Int) : Option (List Int) := journal_put_uint32.l0 k l0 a1 a2 0
set_option maxHeartbeats 8000000 in
set_option maxRecDepth 100000 in
theorem journal_put_uint32.calls (k : Nat) (P0_ : Nat → Prop) (u9000_ : Value) (l0 : List Int) (a1 : Int) (a2 : Int) (r : List Int) (w0 w : World) (hB : Below w0.heap.size w0 w) (ho0 : Kd.R (Kd.int .u8) 5 w w0.heap.size P0_ u9000_ l0) (h : journal_put_uint32.f k l0 a1 a2 = some r) :
  Calls Tryz.prog 85 #[u9000_, .int .u32 a1, .int .i64 a2] w fun e w' => ∃ v0_ : Value, e = .returned (v0_) ∧ Kd.R (Kd.int .u8) 5 w' w0.heap.size (fun k_ => (P0_ k_ ∨ w.heap.size ≤ k_)) v0_ r ∧ Below w0.heap.size w0 w' ∧ Kept w w' (fun k_ => P0_ k_) := by
 have HO0 := Aside0.mk (show Kd.R (Kd.int .u8) 5 w w0.heap.size (fun k_ => (P0_ k_ ∨ w.heap.size ≤ k_)) u9000_ l0 from Kd.R_mono ho0 (fun k_ hk => (.inl hk)))
 have HK := Aside0.mk (Kept.refl w (fun k_ => P0_ k_))
 have HW0 := Aside0.mk hB.size
 have HB := Aside0.mk hB
 clear hB
 have H : (journal_put_uint32.l0 k l0 a1 a2 0) = some r := h
 clear h
 have H' := Aside0.mk H
 clear H
 go_enter Tryz.func85, Tryz.ntmps85
 go_wp2
 go_loopg [0, 1, 8] k (fun kq v0 v1 v8 w' => ∃ (x0_1 : List Int) (x1_1 : Int) (x8_1 : Int), v1 = .int .u32 x1_1 ∧ v8 = .int .i64 x8_1 ∧ Aside0 (journal_put_uint32.l0 kq x0_1 x1_1 a2 x8_1 = some r) ∧ Aside0 (kq ≤ k) ∧ Aside0 (Kd.R (Kd.int .u8) 5 w' w0.heap.size (fun k_ => (P0_ k_ ∨ w.heap.size ≤ k_)) v0 x0_1) ∧ Aside0 (Kept w w' (fun k_ => P0_ k_)) ∧ Aside0 (Below w0.heap.size w0 w'))
 case atStart => exact ⟨(l0), (a1), (0), eqS, eqS, H', ⟨Nat.le_refl _⟩, ⟨upR HO0.out⟩, ⟨by repeat (first | (with_reducible first | exact HK.out | apply Kept.alloc | apply Kept.drewN | apply Kept.drew) | exact HK.out)⟩, ⟨upB HB.out⟩⟩
 case round =>
  clear H'
  try clear p2
  obtain ⟨x0_1, x1_1, x8_1, rfl, rfl, HA, HK1, HO_0, HK, HB⟩ := hrel
  cases gk with
  | zero => exact absurd HA.out (by simp [journal_put_uint32.l0])
  | succ k1 =>
   have H := HA.out
   clear HA
   simp only [journal_put_uint32.l0] at H
   by_cases c4 : x8_1 < a2
   ·rw [if_pos c4] at H
    have c4b0 := decide_eq_true c4
    clear c4
    by_cases c5 : x0_1.length < 140737488355328
    ·rw [if_pos c5] at H
     have LMc5 := Aside0.mk c5
     clear c5
     obtain ⟨y253, hy253⟩ : ∃ y_ : List Int, y_ = (x0_1 ++ [(x1_1) % 256]) := ⟨_, rfl⟩
     replace H : (journal_put_uint32.l0 k1 y253 (((IntKind.u64.wrap (x1_1)) / 256) % 4294967296) a2 (wrap64 (x8_1 + 1))) = some r := by first | (rw [hy253]; with_reducible exact H) | (have H2_ := (Option.bind_some _ _).symm.trans H; rw [hy253]; with_reducible exact H2_) | (have H2_ := (Option.bind_some _ _).symm.trans H; with_reducible exact H2_) | with_reducible exact H | (rw [hy253]; exact H) | exact H
     have Ny253 := Aside0.mk hy253
     clear hy253
     have H' := Aside0.mk H
     clear H
     go_wp2_with (first | ((with_reducible refine gate_builtin (b := .append) (xs := #[.tmp 10, .tmp 13]) rfl ?_); at_builtin; refine Kd.R_append (Kd.int .u8) (w0 := w0) w0.heap.size rfl (.tmp 10) (.tmp 13) 78 5 (.int .u8 0) 1 rfl Tryz.underlying78 info5 rfl (by decide) (by omega) u0 x0_1 ((x1_1) % 256) [.int .u8 ((x1_1) % 256)] (fun k_ => (P0_ k_ ∨ w.heap.size ≤ k_)) (fun _ => False) rfl rfl ?aP (fun _ hk => hk.elim) ?aF ?aO ?aB ?aS ?aL ?_; (case aP => exact rfl); (case aB => exact (upB HB.out)); (case aF => exact (fun k_ hk => (.inr (Nat.le_trans (by first | exact HK.out.1 | exact (show Kept w _ (fun k_ => P0_ k_) from by repeat (first | (with_reducible first | exact HK.out | apply Kept.alloc | apply Kept.drewN | apply Kept.drew) | exact HK.out)).1) hk)))); (case aO => exact (upR HO_0.out)); (case aS => exact (below_size (upB HB.out))); (case aL => have := LMc5.out; omega); intro v254 w6 ho hb hg hat; rw [← Ny253.out] at ho; have n0_ := Aside0.mk (hb); have n1_ := Aside0.mk (Kept.of_grown (S := (fun k_ => P0_ k_)) hg (by repeat (first | (with_reducible first | exact HK.out | apply Kept.alloc | apply Kept.drewN | apply Kept.drew) | exact HK.out)) (fun k_ e_ => (HO_0.out.1 k_ e_))); have n2_ := Aside0.mk (ho); clear HB; clear HK; clear HO_0; have HB := n0_; have HK := n1_; have HO255 := n2_; clear n0_ n1_ n2_; clear ho hb hg hat))
     go_roundg k1
     case measure => have := HK1.out; omega
     case rel => exact ⟨(y253), (((IntKind.u64.wrap (x1_1)) / 256) % 4294967296), (wrap64 (x8_1 + 1)), eqS, eqS, H', ⟨by have := HK1.out; omega⟩, ⟨upR HO255.out⟩, ⟨by repeat (first | (with_reducible first | exact HK.out | apply Kept.alloc | apply Kept.drewN | apply Kept.drew) | exact HK.out)⟩, ⟨upB HB.out⟩⟩
    ·rw [if_neg c5] at H
     exact absurd H (by simp)
   ·rw [if_neg c4] at H
    have c4b0 := decide_eq_false c4
    clear c4
    obtain rfl := Option.some.inj H
    go_wp2
    go_ret
    exact ⟨_, eqE, upR HO_0.out, upB HB.out, by repeat (first | (with_reducible first | exact HK.out | apply Kept.alloc | apply Kept.drewN | apply Kept.drew) | exact HK.out)⟩
end Go.Proofs.J.Print
end
section
namespace Go.Proofs.J.Print
open Go.RowKit Go.Proofs.PrintWords Go.Proofs.PrintLast Go.Proofs.PrintMore
def journal_put_uint8.l0 : Nat → List Int → Int → Int → Int → Option (List Int)
 | 0, _, _, _, _ => none
 | k + 1, x0, x1, x7, x8 => if x8 < x7 then (if x0.length < 140737488355328 then (journal_put_uint8.l0 k (x0 ++ [x1]) (((IntKind.u64.wrap (x1)) / 256) % 256) x7 (wrap64 (x8 + 1))) else (none)) else (some x0)
def journal_put_uint8.f (k : Nat) (l0 : List Int) (a1 : Int) (a2 : Int) : Option (List Int) := journal_put_uint8.l0 k l0 a1 a2 0
set_option maxHeartbeats 8000000 in
set_option maxRecDepth 100000 in
theorem journal_put_uint8.calls (k : Nat) (P0_ : Nat → Prop) (u9000_ : Value) (l0 : List Int) (a1 : Int) (a2 : Int) (r : List Int) (w0 w : World) (hB : Below w0.heap.size w0 w) (ho0 : Kd.R (Kd.int .u8) 5 w w0.heap.size P0_ u9000_ l0) (h : journal_put_uint8.f k l0 a1 a2 = some r) :
  Calls Tryz.prog 86 #[u9000_, .int .u8 a1, .int .i64 a2] w fun e w' => ∃ v0_ : Value, e = .returned (v0_) ∧ Kd.R (Kd.int .u8) 5 w' w0.heap.size (fun k_ => (P0_ k_ ∨ w.heap.size ≤ k_)) v0_ r ∧ Below w0.heap.size w0 w' ∧ Kept w w' (fun k_ => P0_ k_) := by
 have HO0 := Aside0.mk (show Kd.R (Kd.int .u8) 5 w w0.heap.size (fun k_ => (P0_ k_ ∨ w.heap.size ≤ k_)) u9000_ l0 from Kd.R_mono ho0 (fun k_ hk => (.inl hk)))
 have HK := Aside0.mk (Kept.refl w (fun k_ => P0_ k_))
 have HW0 := Aside0.mk hB.size
 have HB := Aside0.mk hB
 clear hB
 have H : (journal_put_uint8.l0 k l0 a1 a2 0) = some r := h
 clear h
 have H' := Aside0.mk H
 clear H
 go_enter Tryz.func86, Tryz.ntmps86
 go_wp2
 go_loopg [0, 1, 8] k (fun kq v0 v1 v8 w' => ∃ (x0_1 : List Int) (x1_1 : Int) (x8_1 : Int), v1 = .int .u8 x1_1 ∧ v8 = .int .i64 x8_1 ∧ Aside0 (journal_put_uint8.l0 kq x0_1 x1_1 a2 x8_1 = some r) ∧ Aside0 (kq ≤ k) ∧ Aside0 (Kd.R (Kd.int .u8) 5 w' w0.heap.size (fun k_ => (P0_ k_ ∨ w.heap.size ≤ k_)) v0 x0_1) ∧ Aside0 (Kept w w' (fun k_ => P0_ k_)) ∧ Aside0 (Below w0.heap.size w0 w'))
 case atStart => exact ⟨(l0), (a1), (0), eqS, eqS, H', ⟨Nat.le_refl _⟩, ⟨upR HO0.out⟩, ⟨by repeat (first | (with_reducible first | exact HK.out | apply Kept.alloc | apply Kept.drewN | apply Kept.drew) | exact HK.out)⟩, ⟨upB HB.out⟩⟩
 case round =>
  clear H'
  try clear p2
  obtain ⟨x0_1, x1_1, x8_1, rfl, rfl, HA, HK1, HO_0, HK, HB⟩ := hrel
  cases gk with
  | zero => exact absurd HA.out (by simp [journal_put_uint8.l0])
  | succ k1 =>
   have H := HA.out
   clear HA
   simp only [journal_put_uint8.l0] at H
   by_cases c4 : x8_1 < a2
   ·rw [if_pos c4] at H
    have c4b0 := decide_eq_true c4
    clear c4
    by_cases c5 : x0_1.length < 140737488355328
    ·rw [if_pos c5] at H
     have LMc5 := Aside0.mk c5
     clear c5
     obtain ⟨y256, hy256⟩ : ∃ y_ : List Int, y_ = (x0_1 ++ [x1_1]) := ⟨_, rfl⟩
     replace H : (journal_put_uint8.l0 k1 y256 (((IntKind.u64.wrap (x1_1)) / 256) % 256) a2 (wrap64 (x8_1 + 1))) = some r := by first | (rw [hy256]; with_reducible exact H) | (have H2_ := (Option.bind_some _ _).symm.trans H; rw [hy256]; with_reducible exact H2_) | (have H2_ := (Option.bind_some _ _).symm.trans H; with_reducible exact H2_) | with_reducible exact H | (rw [hy256]; exact H) | exact H
     have Ny256 := Aside0.mk hy256
     clear hy256
     have H' := Aside0.mk H
     clear H
     go_wp2_with (first | ((with_reducible refine gate_builtin (b := .append) (xs := #[.tmp 10, .tmp 12]) rfl ?_); at_builtin; refine Kd.R_append (Kd.int .u8) (w0 := w0) w0.heap.size rfl (.tmp 10) (.tmp 12) 78 5 (.int .u8 0) 1 rfl Tryz.underlying78 info5 rfl (by decide) (by omega) u0 x0_1 x1_1 [.int .u8 x1_1] (fun k_ => (P0_ k_ ∨ w.heap.size ≤ k_)) (fun _ => False) rfl rfl ?aP (fun _ hk => hk.elim) ?aF ?aO ?aB ?aS ?aL ?_; (case aP => exact rfl); (case aB => exact (upB HB.out)); (case aF => exact (fun k_ hk => (.inr (Nat.le_trans (by first | exact HK.out.1 | exact (show Kept w _ (fun k_ => P0_ k_) from by repeat (first | (with_reducible first | exact HK.out | apply Kept.alloc | apply Kept.drewN | apply Kept.drew) | exact HK.out)).1) hk)))); (case aO => exact (upR HO_0.out)); (case aS => exact (below_size (upB HB.out))); (case aL => have := LMc5.out; omega); intro v257 w6 ho hb hg hat; rw [← Ny256.out] at ho; have n0_ := Aside0.mk (hb); have n1_ := Aside0.mk (Kept.of_grown (S := (fun k_ => P0_ k_)) hg (by repeat (first | (with_reducible first | exact HK.out | apply Kept.alloc | apply Kept.drewN | apply Kept.drew) | exact HK.out)) (fun k_ e_ => (HO_0.out.1 k_ e_))); have n2_ := Aside0.mk (ho); clear HB; clear HK; clear HO_0; have HB := n0_; have HK := n1_; have HO258 := n2_; clear n0_ n1_ n2_; clear ho hb hg hat))
     go_roundg k1
     case measure => have := HK1.out; omega
     case rel => exact ⟨(y256), (((IntKind.u64.wrap (x1_1)) / 256) % 256), (wrap64 (x8_1 + 1)), eqS, eqS, H', ⟨by have := HK1.out; omega⟩, ⟨upR HO258.out⟩, ⟨by repeat (first | (with_reducible first | exact HK.out | apply Kept.alloc | apply Kept.drewN | apply Kept.drew) | exact HK.out)⟩, ⟨upB HB.out⟩⟩
    ·rw [if_neg c5] at H
     exact absurd H (by simp)
   ·rw [if_neg c4] at H
    have c4b0 := decide_eq_false c4
    clear c4
    obtain rfl := Option.some.inj H
    go_wp2
    go_ret
    exact ⟨_, eqE, upR HO_0.out, upB HB.out, by repeat (first | (with_reducible first | exact HK.out | apply Kept.alloc | apply Kept.drewN | apply Kept.drew) | exact HK.out)⟩
end Go.Proofs.J.Print
end
