/- On the way to the law 'JournalDecodes': what the functions that it reaches compute, step by step, and the plain law (JPF23 .. JPF97). Each theorem states its own conditions. -/
import Derived.Test.YtcinnankefollaaGreatDoorWg
set_option linter.unusedVariables false
set_option linter.unusedSimpArgs false
section
namespace Go.Proofs.J.Print
open Go.RowKit Go.Proofs.PrintWords Go.Proofs.PrintLast Go.Proofs.PrintMore
def journal_rising.l0 : Nat → List (S90) → List (S90) → Int → Int → Option (Bool)
 | 0, _, _, _, _ => none
 | k + 1, x0, x5, x6, x7 => if x7 < x6 then (if 0 ≤ x7 then (if x7 < (x5.length : Int) then ((journal_may.f k ((rd_T90 x5 x7).f0) ((rd_T90 x5 x7).f1)).bind fun t244 => (if t244 = true then (if x7 > 0 then (if 0 ≤ (wrap64 (x7 - 1)) then (if (wrap64 (x7 - 1)) < (x0.length : Int) then ((value_CompareFacts.f k ((rd_T90 x0 (wrap64 (x7 - 1))).f0) ((rd_T90 x0 (wrap64 (x7 - 1))).f1) ((rd_T90 x5 x7).f0) ((rd_T90 x5 x7).f1)).bind fun t246 => (if t246 ≥ 0 then (some false) else (journal_rising.l0 k x0 x5 x6 (wrap64 (x7 + 1))))) else (none)) else (none)) else (journal_rising.l0 k x0 x5 x6 (wrap64 (x7 + 1)))) else (some false))) else (none)) else (none)) else (some true)
def journal_rising.f (k : Nat) (l0 : List (S90)) : Option (Bool) := journal_rising.l0 k l0 l0 (l0.length : Int) 0
def journal_rising.T4 : Bool × List (List Nat × List Nat) := (true, [([], []), ([0], [0]), ([1], [1]), ([2, 1], [2]), ([3], [3]), ([4, 3], [3, 4]), ([5, 3, 3], [3, 5]), ([6], [6]), ([6], [6]), ([8, 6], [6, 8]), ([7, 9, 6], [6, 7, 9]), ([10, 6], [6, 10]), ([6], [6]), ([11, 12, 6, 6], [6, 11, 12]), ([13, 6], [6, 13]), ([6, 14, 3], [3, 6, 14]), ([3, 15], [3, 15])])
def journal_rising.B4 : List Nat := [0, 1, 3, 7, 15, 31, 63, 127, 127, 383, 1023, 2047, 127, 8191, 16383, 32767, 65535]
theorem journal_rising.tab4 : rtab .any (opsOf Tryz.f23 4) = journal_rising.T4 := by kernel_rfl
theorem journal_rising.bits4 : waitsOk journal_rising.T4.2 journal_rising.B4 = true := by kernel_rfl
set_option maxHeartbeats 8000000 in
set_option maxRecDepth 100000 in
theorem journal_rising.calls (k : Nat) (A0 : Option Addr) (c0 : Nat) (l0 : List (S90)) (r : Bool) (w : World) (hr0 : Kd.C k90 w A0 l0.length l0) (hc0 : l0.length ≤ c0) (h : journal_rising.f k l0 = some r) :
  Calls Tryz.prog 23 #[.slice A0 l0.length c0] w fun e w' => e = .returned (.bool r) ∧ Below w.heap.size w w' := by
 have hu90 := Tryz.underlying90
 have HR0 := Aside0.mk hr0
 have HC0 := Aside0.mk hc0
 clear hr0 hc0
 have HB := Aside0.mk (Below.refl w.heap.size w)
 have H : (journal_rising.l0 k l0 l0 (l0.length : Int) 0) = some r := h
 clear h
 have H' := Aside0.mk H
 clear H
 go_enter Tryz.func23, Tryz.ntmps23
 go_wp2
 go_loopg [7] k (fun kq v7 w' => ∃ (x7_1 : Int), v7 = .int .i64 x7_1 ∧ Aside0 (journal_rising.l0 kq l0 l0 (l0.length : Int) x7_1 = some r) ∧ Aside0 (kq ≤ k) ∧ Aside0 (Below w.heap.size w w'))
 case atStart => exact ⟨(0), eqS, H', ⟨Nat.le_refl _⟩, ⟨upB HB.out⟩⟩
 case round =>
  clear H'
  obtain ⟨x7_1, rfl, HA, HK1, HB⟩ := hrel
  cases gk with
  | zero => exact absurd HA.out (by simp [journal_rising.l0])
  | succ k1 =>
   have H := HA.out
   clear HA
   simp only [journal_rising.l0] at H
   by_cases c2 : x7_1 < (l0.length : Int)
   ·rw [if_pos c2] at H
    have c2b0 := decide_eq_true c2
    clear c2
    by_cases c3 : 0 ≤ x7_1
    ·rw [if_pos c3] at H
     have c3b0 := decide_eq_true c3
     clear c3
     by_cases c4 : x7_1 < (l0.length : Int)
     ·rw [if_pos c4] at H
      have c4b0 := decide_eq_true c4
      clear c4
      replace H := Option.bind_eq_some_iff.mp H
      obtain ⟨t244, A50, H⟩ := H
      replace H : (if t244 = true then (if x7_1 > 0 then (if 0 ≤ (wrap64 (x7_1 - 1)) then (if (wrap64 (x7_1 - 1)) < (l0.length : Int) then ((value_CompareFacts.f k1 ((rd_T90 l0 (wrap64 (x7_1 - 1))).f0) ((rd_T90 l0 (wrap64 (x7_1 - 1))).f1) ((rd_T90 l0 x7_1).f0) ((rd_T90 l0 x7_1).f1)).bind fun t246 => (if t246 ≥ 0 then (some false) else (journal_rising.l0 k1 l0 l0 (l0.length : Int) (wrap64 (x7_1 + 1))))) else (none)) else (none)) else (journal_rising.l0 k1 l0 l0 (l0.length : Int) (wrap64 (x7_1 + 1)))) else (some false)) = some r := H
      have A5 := Aside0.mk A50
      clear A50
      by_cases c6 : t244 = true
      ·subst c6
       have H1 : (if x7_1 > 0 then (if 0 ≤ (wrap64 (x7_1 - 1)) then (if (wrap64 (x7_1 - 1)) < (l0.length : Int) then ((value_CompareFacts.f k1 ((rd_T90 l0 (wrap64 (x7_1 - 1))).f0) ((rd_T90 l0 (wrap64 (x7_1 - 1))).f1) ((rd_T90 l0 x7_1).f0) ((rd_T90 l0 x7_1).f1)).bind fun t246 => (if t246 ≥ 0 then (some false) else (journal_rising.l0 k1 l0 l0 (l0.length : Int) (wrap64 (x7_1 + 1))))) else (none)) else (none)) else (journal_rising.l0 k1 l0 l0 (l0.length : Int) (wrap64 (x7_1 + 1)))) = some r := by rw [if_pos rfl] at H; exact H
       clear H
       have H := H1
       clear H1
       by_cases c7 : x7_1 > 0
       ·rw [if_pos c7] at H
        have c7b0 := decide_eq_true c7
        clear c7
        obtain ⟨ji8, hji8⟩ : ∃ j_ : Int, (wrap64 (x7_1 - 1)) = j_ := ⟨_, rfl⟩
        replace H : (if 0 ≤ (ji8) then (if (ji8) < (l0.length : Int) then ((value_CompareFacts.f k1 ((rd_T90 l0 (ji8)).f0) ((rd_T90 l0 (ji8)).f1) ((rd_T90 l0 x7_1).f0) ((rd_T90 l0 x7_1).f1)).bind fun t246 => (if t246 ≥ 0 then (some false) else (journal_rising.l0 k1 l0 l0 (l0.length : Int) (wrap64 (x7_1 + 1))))) else (none)) else (none)) = some r := by first | (rw [hji8] at H; exact H) | (simp only [hji8] at H ⊢; exact H)
        (try rw [hji8] at A5)
        have hji8w : (IntKind.i64.wrap (x7_1 - 1)) = ji8 := (i64_w _).trans hji8
        by_cases c9 : 0 ≤ (ji8)
        ·rw [if_pos c9] at H
         have c9b0 := decide_eq_true c9
         clear c9
         by_cases c10 : (ji8) < (l0.length : Int)
         ·rw [if_pos c10] at H
          have c10b0 := decide_eq_true c10
          clear c10
          replace H := Option.bind_eq_some_iff.mp H
          obtain ⟨t246, A110, H⟩ := H
          replace H : (if t246 ≥ 0 then (some false) else (journal_rising.l0 k1 l0 l0 (l0.length : Int) (wrap64 (x7_1 + 1)))) = some r := H
          have A11 := Aside0.mk A110
          clear A110
          by_cases c12 : t246 ≥ 0
          ·rw [if_pos c12] at H
           have c12b0 := decide_eq_true c12
           clear c12
           obtain rfl := Option.some.inj H
           have p242 : 0 ≤ (x7_1 : Int) := of_decide_eq_true byA
           have q242 : x7_1 < (l0.length : Int) := of_decide_eq_true byA
           obtain ⟨ad242, A242_1, c242_1, e242, hx242_0, hx242_1, hl242_1, hi242_1⟩ := at_T90 HR0.out x7_1 p242 q242
           cases e242
           replace hx242_0 := cellB HB.out hx242_0
           replace hx242_1 := cellB HB.out hx242_1
           have HR242_1 := Aside0.mk hi242_1
           have HC242_1 := Aside0.mk hl242_1
           clear hi242_1 hl242_1
           replace p242 := eq_true p242
           replace q242 := eq_true q242
           try go_wp2_with (first | ((with_reducible refine gate_dst (N := 4) rfl ?_); refine boxS 4 #[.string (⟨#[]⟩ : ByteArray), .slice none 0 0] 90 ?_; intro gb243 hg w13 hbox hb; have n0_ := Aside0.mk (below_step (upB HB.out) hb); have n1_ := Aside0.mk (hbox); have n2_ := Aside0.mk (geB hg (upB HB.out) : w.heap.size ≤ gb243); have n3_ := Aside0.mk (geB hg (upB HB.out) : w.heap.size ≤ gb243); clear HB; have HB := n0_; have BK243 := n1_; have GW243 := n2_; have GE243 := n3_; clear n0_ n1_ n2_ n3_; clear hb hbox hg; have hcz14_0 : w13.cell? ⟨gb243, 0, none⟩ = some (.string (⟨#[]⟩ : ByteArray)) := (blk_cell BK243.out 0).trans rfl; have hcz14_1 : w13.cell? ⟨gb243, 1, none⟩ = some (.slice none 0 0) := (blk_cell BK243.out 1).trans rfl; have hfz14_0 := blk_frozen BK243.out 0; have hfz14_1 := blk_frozen BK243.out 1))
           have n0_ : Aside0 (((w13.setCell ⟨gb243, 0, none⟩ (.string ((rd_T90 l0 x7_1).f0))).setCell ⟨gb243, 1, none⟩ (.slice A242_1 ((rd_T90 l0 x7_1).f1).length c242_1)).heap[gb243]? = some (.cells #[.string ((rd_T90 l0 x7_1).f0), .slice A242_1 ((rd_T90 l0 x7_1).f1).length c242_1] 90 (0, 0))) := ⟨by refine upO ?_; refine blk_put (cs := #[.string ((rd_T90 l0 x7_1).f0), .slice none 0 0]) ?_ 1 _ rfl; refine upO ?_; refine blk_put (cs := #[.string (⟨#[]⟩ : ByteArray), .slice none 0 0]) ?_ 0 _ rfl; exact upO BK243.out⟩
           have n1_ : Aside0 (Below w.heap.size w ((w13.setCell ⟨gb243, 0, none⟩ (.string ((rd_T90 l0 x7_1).f0))).setCell ⟨gb243, 1, none⟩ (.slice A242_1 ((rd_T90 l0 x7_1).f1).length c242_1))) := ⟨upB HB.out⟩
           (try clear BK243)
           (try clear HB)
           generalize ((w13.setCell ⟨gb243, 0, none⟩ (.string ((rd_T90 l0 x7_1).f0))).setCell ⟨gb243, 1, none⟩ (.slice A242_1 ((rd_T90 l0 x7_1).f1).length c242_1)) = w15 at n0_ n1_ ⊢
           have BK243 := n0_
           have HB := n1_
           clear n0_ n1_
           have n0_ := Aside0.mk (blk_drew BK243.out)
           have n1_ := Aside0.mk (below_drew1 HB.out)
           clear BK243
           clear HB
           have BK243 := n0_
           have HB := n1_
           clear n0_ n1_
           have p245 : 0 ≤ ((ji8) : Int) := of_decide_eq_true byA
           have q245 : (ji8) < (l0.length : Int) := of_decide_eq_true byA
           obtain ⟨ad245, A245_1, c245_1, e245, hx245_0, hx245_1, hl245_1, hi245_1⟩ := at_T90 HR0.out (ji8) p245 q245
           have hw245_1 := hx245_1
           have hw245_0 := hx245_0
           obtain rfl : ad242 = ad245 := (by injection e245)
           replace hx245_0 := cellB HB.out hx245_0
           replace hx245_1 := cellB HB.out hx245_1
           have HR245_1 := Aside0.mk hi245_1
           have HC245_1 := Aside0.mk hl245_1
           clear hi245_1 hl245_1
           replace p245 := eq_true p245
           replace q245 := eq_true q245
           refine start_ (n := 17) (S := fun w' => w'.cell? ⟨gb243, 0, none⟩ = some (.string ((rd_T90 l0 x7_1).f0)) ∧ w'.cell? ⟨gb243, 1, none⟩ = some (.slice A242_1 ((rd_T90 l0 x7_1).f1).length c242_1) ∧ w'.cell? (ad242.add (((ji8)).toNat * 2)) = some (.string ((rd_T90 l0 (ji8)).f0)) ∧ w'.cell? ⟨(ad242.add (((ji8)).toNat * 2)).block, (ad242.add (((ji8)).toNat * 2)).off + 1, none⟩ = some (.slice A245_1 ((rd_T90 l0 (ji8)).f1).length c245_1)) (ds := []) #[false,false,false,false,false,false,false,false,false,false,false,false,false,false,false,false,false] (by kernel_rfl) rfl rfl ⟨(blk_cell BK243.out 0).trans rfl, (blk_cell BK243.out 1).trans rfl, (cellB HB.out hw245_0), (cellB HB.out hw245_1)⟩ (fun hHeld => ?_); refine with_tabW journal_rising.tab4 journal_rising.bits4 (fun HT_ HW_ => ?_)
           generalize w15.drew = w16 at BK243 HB HR245_1 hx245_0 hx245_1 hHeld ⊢
           refine takeS 0 (some 12) HT_ HW_ hHeld ?_
           refine one_ (i := 1) (N := some 13) #[true, true, false,false,false,false,false,false,false,false,false,false,false,false,false,false,false] rfl rfl (one_of HT_.out (by kernel_rfl)) (by decide) (fun K hK => ?_)
           refine goes_ Tryz.func83 (by kernel_rfl) rfl #[.agg #[.string ((rd_T90 l0 x7_1).f0), .slice A242_1 ((rd_T90 l0 x7_1).f1).length c242_1]] (by rfl) rfl rfl (by (try simp only [List.map_toArray, List.map_cons, List.map_nil]); first | done | rfl | (simp only [List.length_drop, List.length_take]; rfl)) ?_
           with_reducible refine (journal_may.calls k1 ((rd_T90 l0 x7_1).f0) _ _ ((rd_T90 l0 x7_1).f1) true _ ?side1 ?side2 A5.out).mono ?_
           (case side1 => exact upC (Kd.C_below HR242_1.out HB.out))
           (case side2 => exact HC242_1.out)
           rintro e w17 ⟨rfl, hb⟩
           refine ⟨_, rfl, ?_⟩
           have n0_ := Aside0.mk (blk_below (g := gb243) (o := .cells #[.string ((rd_T90 l0 x7_1).f0), .slice A242_1 ((rd_T90 l0 x7_1).f1).length c242_1] 90 (0, 0)) (upO BK243.out) hb)
           have n1_ := Aside0.mk (below_step (upB HB.out) hb)
           clear BK243
           clear HB
           have BK243 := n0_
           have HB := n1_
           clear n0_ n1_
           (try clear hb)
           (try clear hb2)
           (try clear hk)
           (try clear hi)
           refine hK.out _ _ ⟨(blk_cell BK243.out 0).trans rfl, (blk_cell BK243.out 1).trans rfl, (cellB HB.out hw245_0), (cellB HB.out hw245_1)⟩ (fun hHeld => ?_)
           clear hK K
           refine normS (some 13) ?_
           refine pureS 2 (some 14) HT_ ?_
           refine pureS 3 (some 15) HT_ ?_
           refine pureS 4 (some 16) HT_ ?_
           refine pureS 5 (some 17) HT_ ?_
           refine pureS 6 (some 18) HT_ ?_
           refine pureS 7 (some 19) HT_ ?_
           refine pureS 8 (some 20) HT_ ?_
           refine pureS 9 (some 21) HT_ ?_
           refine pureS 10 (some 22) HT_ ?_
           refine takeS 11 (some 23) HT_ HW_ hHeld ?_
           refine takeS 12 (some 24) HT_ HW_ hHeld ?_
           refine one_ (i := 13) (N := some 25) #[true, true, true, true, true, true, true, true, true, true, true, true, true, true, false,false,false] rfl rfl (one_of HT_.out (by kernel_rfl)) (by decide) (fun K hK => ?_)
           refine goes_ Tryz.func84 (by kernel_rfl) rfl #[.agg #[.string ((rd_T90 l0 (ji8)).f0), .slice A245_1 ((rd_T90 l0 (ji8)).f1).length c245_1], .agg #[.string ((rd_T90 l0 x7_1).f0), .slice A242_1 ((rd_T90 l0 x7_1).f1).length c242_1]] (by rfl) rfl rfl (by (try simp only [List.map_toArray, List.map_cons, List.map_nil]); first | done | (simp only [hji8]; rfl) | rfl | (simp only [List.length_drop, List.length_take]; rfl)) ?_
           with_reducible refine (value_CompareFacts.calls k1 ((rd_T90 l0 (ji8)).f0) _ _ ((rd_T90 l0 (ji8)).f1) ((rd_T90 l0 x7_1).f0) _ _ ((rd_T90 l0 x7_1).f1) t246 _ ?side1 ?side2 ?side3 ?side4 A11.out).mono ?_
           (case side1 => exact upC (Kd.C_below HR245_1.out HB.out))
           (case side2 => exact HC245_1.out)
           (case side3 => exact upC (Kd.C_below HR242_1.out HB.out))
           (case side4 => exact HC242_1.out)
           rintro e w18 ⟨rfl, hb⟩
           refine ⟨_, rfl, ?_⟩
           have n0_ := Aside0.mk (blk_below (g := gb243) (o := .cells #[.string ((rd_T90 l0 x7_1).f0), .slice A242_1 ((rd_T90 l0 x7_1).f1).length c242_1] 90 (0, 0)) (upO BK243.out) hb)
           have n1_ := Aside0.mk (below_step (upB HB.out) hb)
           clear BK243
           clear HB
           have BK243 := n0_
           have HB := n1_
           clear n0_ n1_
           (try clear hb)
           (try clear hb2)
           (try clear hk)
           (try clear hi)
           refine hK.out _ _ ⟨(blk_cell BK243.out 0).trans rfl, (blk_cell BK243.out 1).trans rfl, (cellB HB.out hw245_0), (cellB HB.out hw245_1)⟩ (fun hHeld => ?_)
           clear hK K
           refine normS (some 25) ?_
           refine pureS 14 (some 26) HT_ ?_
           refine pureS 15 (some 27) HT_ ?_
           refine pureS 16 (some 28) HT_ ?_
           refine done_ (done_of HT_.out (by kernel_rfl)) ?_
           try go_wp2
           go_ret
           exact ⟨by first | rfl | (simp [errW_none, errW_some] <;> rfl) | (simp only [← hji8]; first | rfl | (simp [errW_none, errW_some] <;> rfl)) | (simp [*, errW_none, errW_some] <;> rfl), upB HB.out⟩
          ·rw [if_neg c12] at H
           have c12b0 := decide_eq_false c12
           clear c12
           have H' := Aside0.mk H
           clear H
           have p242 : 0 ≤ (x7_1 : Int) := of_decide_eq_true byA
           have q242 : x7_1 < (l0.length : Int) := of_decide_eq_true byA
           obtain ⟨ad242, A242_1, c242_1, e242, hx242_0, hx242_1, hl242_1, hi242_1⟩ := at_T90 HR0.out x7_1 p242 q242
           cases e242
           replace hx242_0 := cellB HB.out hx242_0
           replace hx242_1 := cellB HB.out hx242_1
           have HR242_1 := Aside0.mk hi242_1
           have HC242_1 := Aside0.mk hl242_1
           clear hi242_1 hl242_1
           replace p242 := eq_true p242
           replace q242 := eq_true q242
           try go_wp2_with (first | ((with_reducible refine gate_dst (N := 4) rfl ?_); refine boxS 4 #[.string (⟨#[]⟩ : ByteArray), .slice none 0 0] 90 ?_; intro gb243 hg w19 hbox hb; have n0_ := Aside0.mk (below_step (upB HB.out) hb); have n1_ := Aside0.mk (hbox); have n2_ := Aside0.mk (geB hg (upB HB.out) : w.heap.size ≤ gb243); have n3_ := Aside0.mk (geB hg (upB HB.out) : w.heap.size ≤ gb243); clear HB; have HB := n0_; have BK243 := n1_; have GW243 := n2_; have GE243 := n3_; clear n0_ n1_ n2_ n3_; clear hb hbox hg; have hcz20_0 : w19.cell? ⟨gb243, 0, none⟩ = some (.string (⟨#[]⟩ : ByteArray)) := (blk_cell BK243.out 0).trans rfl; have hcz20_1 : w19.cell? ⟨gb243, 1, none⟩ = some (.slice none 0 0) := (blk_cell BK243.out 1).trans rfl; have hfz20_0 := blk_frozen BK243.out 0; have hfz20_1 := blk_frozen BK243.out 1))
           have n0_ : Aside0 (((w19.setCell ⟨gb243, 0, none⟩ (.string ((rd_T90 l0 x7_1).f0))).setCell ⟨gb243, 1, none⟩ (.slice A242_1 ((rd_T90 l0 x7_1).f1).length c242_1)).heap[gb243]? = some (.cells #[.string ((rd_T90 l0 x7_1).f0), .slice A242_1 ((rd_T90 l0 x7_1).f1).length c242_1] 90 (0, 0))) := ⟨by refine upO ?_; refine blk_put (cs := #[.string ((rd_T90 l0 x7_1).f0), .slice none 0 0]) ?_ 1 _ rfl; refine upO ?_; refine blk_put (cs := #[.string (⟨#[]⟩ : ByteArray), .slice none 0 0]) ?_ 0 _ rfl; exact upO BK243.out⟩
           have n1_ : Aside0 (Below w.heap.size w ((w19.setCell ⟨gb243, 0, none⟩ (.string ((rd_T90 l0 x7_1).f0))).setCell ⟨gb243, 1, none⟩ (.slice A242_1 ((rd_T90 l0 x7_1).f1).length c242_1))) := ⟨upB HB.out⟩
           (try clear BK243)
           (try clear HB)
           generalize ((w19.setCell ⟨gb243, 0, none⟩ (.string ((rd_T90 l0 x7_1).f0))).setCell ⟨gb243, 1, none⟩ (.slice A242_1 ((rd_T90 l0 x7_1).f1).length c242_1)) = w21 at n0_ n1_ ⊢
           have BK243 := n0_
           have HB := n1_
           clear n0_ n1_
           have n0_ := Aside0.mk (blk_drew BK243.out)
           have n1_ := Aside0.mk (below_drew1 HB.out)
           clear BK243
           clear HB
           have BK243 := n0_
           have HB := n1_
           clear n0_ n1_
           have p245 : 0 ≤ ((ji8) : Int) := of_decide_eq_true byA
           have q245 : (ji8) < (l0.length : Int) := of_decide_eq_true byA
           obtain ⟨ad245, A245_1, c245_1, e245, hx245_0, hx245_1, hl245_1, hi245_1⟩ := at_T90 HR0.out (ji8) p245 q245
           have hw245_1 := hx245_1
           have hw245_0 := hx245_0
           obtain rfl : ad242 = ad245 := (by injection e245)
           replace hx245_0 := cellB HB.out hx245_0
           replace hx245_1 := cellB HB.out hx245_1
           have HR245_1 := Aside0.mk hi245_1
           have HC245_1 := Aside0.mk hl245_1
           clear hi245_1 hl245_1
           replace p245 := eq_true p245
           replace q245 := eq_true q245
           refine start_ (n := 17) (S := fun w' => w'.cell? ⟨gb243, 0, none⟩ = some (.string ((rd_T90 l0 x7_1).f0)) ∧ w'.cell? ⟨gb243, 1, none⟩ = some (.slice A242_1 ((rd_T90 l0 x7_1).f1).length c242_1) ∧ w'.cell? (ad242.add (((ji8)).toNat * 2)) = some (.string ((rd_T90 l0 (ji8)).f0)) ∧ w'.cell? ⟨(ad242.add (((ji8)).toNat * 2)).block, (ad242.add (((ji8)).toNat * 2)).off + 1, none⟩ = some (.slice A245_1 ((rd_T90 l0 (ji8)).f1).length c245_1)) (ds := []) #[false,false,false,false,false,false,false,false,false,false,false,false,false,false,false,false,false] (by kernel_rfl) rfl rfl ⟨(blk_cell BK243.out 0).trans rfl, (blk_cell BK243.out 1).trans rfl, (cellB HB.out hw245_0), (cellB HB.out hw245_1)⟩ (fun hHeld => ?_); refine with_tabW journal_rising.tab4 journal_rising.bits4 (fun HT_ HW_ => ?_)
           generalize w21.drew = w22 at BK243 HB HR245_1 hx245_0 hx245_1 hHeld ⊢
           refine takeS 0 (some 12) HT_ HW_ hHeld ?_
           refine one_ (i := 1) (N := some 13) #[true, true, false,false,false,false,false,false,false,false,false,false,false,false,false,false,false] rfl rfl (one_of HT_.out (by kernel_rfl)) (by decide) (fun K hK => ?_)
           refine goes_ Tryz.func83 (by kernel_rfl) rfl #[.agg #[.string ((rd_T90 l0 x7_1).f0), .slice A242_1 ((rd_T90 l0 x7_1).f1).length c242_1]] (by rfl) rfl rfl (by (try simp only [List.map_toArray, List.map_cons, List.map_nil]); first | done | rfl | (simp only [List.length_drop, List.length_take]; rfl)) ?_
           with_reducible refine (journal_may.calls k1 ((rd_T90 l0 x7_1).f0) _ _ ((rd_T90 l0 x7_1).f1) true _ ?side1 ?side2 A5.out).mono ?_
           (case side1 => exact upC (Kd.C_below HR242_1.out HB.out))
           (case side2 => exact HC242_1.out)
           rintro e w23 ⟨rfl, hb⟩
           refine ⟨_, rfl, ?_⟩
           have n0_ := Aside0.mk (blk_below (g := gb243) (o := .cells #[.string ((rd_T90 l0 x7_1).f0), .slice A242_1 ((rd_T90 l0 x7_1).f1).length c242_1] 90 (0, 0)) (upO BK243.out) hb)
           have n1_ := Aside0.mk (below_step (upB HB.out) hb)
           clear BK243
           clear HB
           have BK243 := n0_
           have HB := n1_
           clear n0_ n1_
           (try clear hb)
           (try clear hb2)
           (try clear hk)
           (try clear hi)
           refine hK.out _ _ ⟨(blk_cell BK243.out 0).trans rfl, (blk_cell BK243.out 1).trans rfl, (cellB HB.out hw245_0), (cellB HB.out hw245_1)⟩ (fun hHeld => ?_)
           clear hK K
           refine normS (some 13) ?_
           refine pureS 2 (some 14) HT_ ?_
           refine pureS 3 (some 15) HT_ ?_
           refine pureS 4 (some 16) HT_ ?_
           refine pureS 5 (some 17) HT_ ?_
           refine pureS 6 (some 18) HT_ ?_
           refine pureS 7 (some 19) HT_ ?_
           refine pureS 8 (some 20) HT_ ?_
           refine pureS 9 (some 21) HT_ ?_
           refine pureS 10 (some 22) HT_ ?_
           refine takeS 11 (some 23) HT_ HW_ hHeld ?_
           refine takeS 12 (some 24) HT_ HW_ hHeld ?_
           refine one_ (i := 13) (N := some 25) #[true, true, true, true, true, true, true, true, true, true, true, true, true, true, false,false,false] rfl rfl (one_of HT_.out (by kernel_rfl)) (by decide) (fun K hK => ?_)
           refine goes_ Tryz.func84 (by kernel_rfl) rfl #[.agg #[.string ((rd_T90 l0 (ji8)).f0), .slice A245_1 ((rd_T90 l0 (ji8)).f1).length c245_1], .agg #[.string ((rd_T90 l0 x7_1).f0), .slice A242_1 ((rd_T90 l0 x7_1).f1).length c242_1]] (by rfl) rfl rfl (by (try simp only [List.map_toArray, List.map_cons, List.map_nil]); first | done | (simp only [hji8]; rfl) | rfl | (simp only [List.length_drop, List.length_take]; rfl)) ?_
           with_reducible refine (value_CompareFacts.calls k1 ((rd_T90 l0 (ji8)).f0) _ _ ((rd_T90 l0 (ji8)).f1) ((rd_T90 l0 x7_1).f0) _ _ ((rd_T90 l0 x7_1).f1) t246 _ ?side1 ?side2 ?side3 ?side4 A11.out).mono ?_
           (case side1 => exact upC (Kd.C_below HR245_1.out HB.out))
           (case side2 => exact HC245_1.out)
           (case side3 => exact upC (Kd.C_below HR242_1.out HB.out))
           (case side4 => exact HC242_1.out)
           rintro e w24 ⟨rfl, hb⟩
           refine ⟨_, rfl, ?_⟩
           have n0_ := Aside0.mk (blk_below (g := gb243) (o := .cells #[.string ((rd_T90 l0 x7_1).f0), .slice A242_1 ((rd_T90 l0 x7_1).f1).length c242_1] 90 (0, 0)) (upO BK243.out) hb)
           have n1_ := Aside0.mk (below_step (upB HB.out) hb)
           clear BK243
           clear HB
           have BK243 := n0_
           have HB := n1_
           clear n0_ n1_
           (try clear hb)
           (try clear hb2)
           (try clear hk)
           (try clear hi)
           refine hK.out _ _ ⟨(blk_cell BK243.out 0).trans rfl, (blk_cell BK243.out 1).trans rfl, (cellB HB.out hw245_0), (cellB HB.out hw245_1)⟩ (fun hHeld => ?_)
           clear hK K
           refine normS (some 25) ?_
           refine pureS 14 (some 26) HT_ ?_
           refine pureS 15 (some 27) HT_ ?_
           refine pureS 16 (some 28) HT_ ?_
           refine done_ (done_of HT_.out (by kernel_rfl)) ?_
           try go_wp2
           go_roundg k1
           case measure => have := HK1.out; omega
           case rel => exact ⟨(wrap64 (x7_1 + 1)), eqS, H', ⟨by have := HK1.out; omega⟩, ⟨upB HB.out⟩⟩
         ·rw [if_neg c10] at H
          exact absurd H (by simp)
        ·rw [if_neg c9] at H
         exact absurd H (by simp)
       ·rw [if_neg c7] at H
        have c7b0 := decide_eq_false c7
        clear c7
        have H' := Aside0.mk H
        clear H
        have p242 : 0 ≤ (x7_1 : Int) := of_decide_eq_true byA
        have q242 : x7_1 < (l0.length : Int) := of_decide_eq_true byA
        obtain ⟨ad242, A242_1, c242_1, e242, hx242_0, hx242_1, hl242_1, hi242_1⟩ := at_T90 HR0.out x7_1 p242 q242
        cases e242
        replace hx242_0 := cellB HB.out hx242_0
        replace hx242_1 := cellB HB.out hx242_1
        have HR242_1 := Aside0.mk hi242_1
        have HC242_1 := Aside0.mk hl242_1
        clear hi242_1 hl242_1
        replace p242 := eq_true p242
        replace q242 := eq_true q242
        try go_wp2_with (first | ((with_reducible refine gate_dst (N := 4) rfl ?_); refine boxS 4 #[.string (⟨#[]⟩ : ByteArray), .slice none 0 0] 90 ?_; intro gb243 hg w25 hbox hb; have n0_ := Aside0.mk (below_step (upB HB.out) hb); have n1_ := Aside0.mk (hbox); have n2_ := Aside0.mk (geB hg (upB HB.out) : w.heap.size ≤ gb243); have n3_ := Aside0.mk (geB hg (upB HB.out) : w.heap.size ≤ gb243); clear HB; have HB := n0_; have BK243 := n1_; have GW243 := n2_; have GE243 := n3_; clear n0_ n1_ n2_ n3_; clear hb hbox hg; have hcz26_0 : w25.cell? ⟨gb243, 0, none⟩ = some (.string (⟨#[]⟩ : ByteArray)) := (blk_cell BK243.out 0).trans rfl; have hcz26_1 : w25.cell? ⟨gb243, 1, none⟩ = some (.slice none 0 0) := (blk_cell BK243.out 1).trans rfl; have hfz26_0 := blk_frozen BK243.out 0; have hfz26_1 := blk_frozen BK243.out 1))
        have n0_ : Aside0 (((w25.setCell ⟨gb243, 0, none⟩ (.string ((rd_T90 l0 x7_1).f0))).setCell ⟨gb243, 1, none⟩ (.slice A242_1 ((rd_T90 l0 x7_1).f1).length c242_1)).heap[gb243]? = some (.cells #[.string ((rd_T90 l0 x7_1).f0), .slice A242_1 ((rd_T90 l0 x7_1).f1).length c242_1] 90 (0, 0))) := ⟨by refine upO ?_; refine blk_put (cs := #[.string ((rd_T90 l0 x7_1).f0), .slice none 0 0]) ?_ 1 _ rfl; refine upO ?_; refine blk_put (cs := #[.string (⟨#[]⟩ : ByteArray), .slice none 0 0]) ?_ 0 _ rfl; exact upO BK243.out⟩
        have n1_ : Aside0 (Below w.heap.size w ((w25.setCell ⟨gb243, 0, none⟩ (.string ((rd_T90 l0 x7_1).f0))).setCell ⟨gb243, 1, none⟩ (.slice A242_1 ((rd_T90 l0 x7_1).f1).length c242_1))) := ⟨upB HB.out⟩
        (try clear BK243)
        (try clear HB)
        generalize ((w25.setCell ⟨gb243, 0, none⟩ (.string ((rd_T90 l0 x7_1).f0))).setCell ⟨gb243, 1, none⟩ (.slice A242_1 ((rd_T90 l0 x7_1).f1).length c242_1)) = w27 at n0_ n1_ ⊢
        have BK243 := n0_
        have HB := n1_
        clear n0_ n1_
        have n0_ := Aside0.mk (blk_drew BK243.out)
        have n1_ := Aside0.mk (below_drew1 HB.out)
        clear BK243
        clear HB
        have BK243 := n0_
        have HB := n1_
        clear n0_ n1_
        refine start_ (n := 17) (S := fun w' => w'.cell? ⟨gb243, 0, none⟩ = some (.string ((rd_T90 l0 x7_1).f0)) ∧ w'.cell? ⟨gb243, 1, none⟩ = some (.slice A242_1 ((rd_T90 l0 x7_1).f1).length c242_1)) (ds := []) #[false,false,false,false,false,false,false,false,false,false,false,false,false,false,false,false,false] (by kernel_rfl) rfl rfl ⟨(blk_cell BK243.out 0).trans rfl, (blk_cell BK243.out 1).trans rfl⟩ (fun hHeld => ?_); refine with_tabW journal_rising.tab4 journal_rising.bits4 (fun HT_ HW_ => ?_)
        generalize w27.drew = w28 at BK243 HB hHeld ⊢
        refine takeS 0 (some 12) HT_ HW_ hHeld ?_
        refine one_ (i := 1) (N := some 13) #[true, true, false,false,false,false,false,false,false,false,false,false,false,false,false,false,false] rfl rfl (one_of HT_.out (by kernel_rfl)) (by decide) (fun K hK => ?_)
        refine goes_ Tryz.func83 (by kernel_rfl) rfl #[.agg #[.string ((rd_T90 l0 x7_1).f0), .slice A242_1 ((rd_T90 l0 x7_1).f1).length c242_1]] (by rfl) rfl rfl (by (try simp only [List.map_toArray, List.map_cons, List.map_nil]); first | done | rfl | (simp only [List.length_drop, List.length_take]; rfl)) ?_
        with_reducible refine (journal_may.calls k1 ((rd_T90 l0 x7_1).f0) _ _ ((rd_T90 l0 x7_1).f1) true _ ?side1 ?side2 A5.out).mono ?_
        (case side1 => exact upC (Kd.C_below HR242_1.out HB.out))
        (case side2 => exact HC242_1.out)
        rintro e w29 ⟨rfl, hb⟩
        refine ⟨_, rfl, ?_⟩
        have n0_ := Aside0.mk (blk_below (g := gb243) (o := .cells #[.string ((rd_T90 l0 x7_1).f0), .slice A242_1 ((rd_T90 l0 x7_1).f1).length c242_1] 90 (0, 0)) (upO BK243.out) hb)
        have n1_ := Aside0.mk (below_step (upB HB.out) hb)
        clear BK243
        clear HB
        have BK243 := n0_
        have HB := n1_
        clear n0_ n1_
        (try clear hb)
        (try clear hb2)
        (try clear hk)
        (try clear hi)
        refine hK.out _ _ ⟨(blk_cell BK243.out 0).trans rfl, (blk_cell BK243.out 1).trans rfl⟩ (fun hHeld => ?_)
        clear hK K
        refine normS (some 13) ?_
        refine pureS 2 (some 14) HT_ ?_
        refine pureS 3 (some 15) HT_ ?_
        refine pureS 4 (some 16) HT_ ?_
        refine pureS 5 (some 17) HT_ ?_
        refine pureS 6 (some 18) HT_ ?_
        refine pure_ (i := 7) (N := some 19) (v := undef) (a' := ?_) #[true, true, true, true, true, true, true, true, false,false,false,false,false,false,false,false,false] rfl rfl (any_of HT_.out (by kernel_rfl)) (fun _ _ _ h => h) (Or.inr ⟨by rfl, rfl⟩) ?_ ?_
        rotate_left
        ·simp only [Act.put, List.setIfInBounds_toArray, List.set_cons_zero, List.set_cons_succ, i64_w, i32_w]
         rfl
        refine pure_ (i := 8) (N := some 20) (v := undef) (a' := ?_) #[true, true, true, true, true, true, true, true, true, false,false,false,false,false,false,false,false] rfl rfl (any_of HT_.out (by kernel_rfl)) (fun _ _ _ h => h) (Or.inr ⟨by rfl, rfl⟩) ?_ ?_
        rotate_left
        ·simp only [Act.put, List.setIfInBounds_toArray, List.set_cons_zero, List.set_cons_succ, i64_w, i32_w]
         rfl
        refine pure_ (i := 9) (N := some 21) (v := undef) (a' := ?_) #[true, true, true, true, true, true, true, true, true, true, false,false,false,false,false,false,false] rfl rfl (any_of HT_.out (by kernel_rfl)) (fun _ _ _ h => h) (Or.inr ⟨by rfl, rfl⟩) ?_ ?_
        rotate_left
        ·simp only [Act.put, List.setIfInBounds_toArray, List.set_cons_zero, List.set_cons_succ, i64_w, i32_w]
         rfl
        refine pure_ (i := 10) (N := some 22) (v := undef) (a' := ?_) #[true, true, true, true, true, true, true, true, true, true, true, false,false,false,false,false,false] rfl rfl (any_of HT_.out (by kernel_rfl)) (fun _ _ _ h => h) (Or.inr ⟨by rfl, rfl⟩) ?_ ?_
        rotate_left
        ·simp only [Act.put, List.setIfInBounds_toArray, List.set_cons_zero, List.set_cons_succ, i64_w, i32_w]
         rfl
        refine pure_ (i := 11) (N := some 23) (v := undef) (a' := ?_) #[true, true, true, true, true, true, true, true, true, true, true, true, false,false,false,false,false] rfl rfl (any_of HT_.out (by kernel_rfl)) (fun _ _ _ h => h) (Or.inr ⟨by rfl, rfl⟩) ?_ ?_
        rotate_left
        ·simp only [Act.put, List.setIfInBounds_toArray, List.set_cons_zero, List.set_cons_succ, i64_w, i32_w]
         rfl
        refine pure_ (i := 12) (N := some 24) (v := undef) (a' := ?_) #[true, true, true, true, true, true, true, true, true, true, true, true, true, false,false,false,false] rfl rfl (any_of HT_.out (by kernel_rfl)) (fun _ _ _ h => h) (Or.inr ⟨by rfl, rfl⟩) ?_ ?_
        rotate_left
        ·simp only [Act.put, List.setIfInBounds_toArray, List.set_cons_zero, List.set_cons_succ, i64_w, i32_w]
         rfl
        refine pure_ (i := 13) (N := some 25) (v := undef) (a' := ?_) #[true, true, true, true, true, true, true, true, true, true, true, true, true, true, false,false,false] rfl rfl (any_of HT_.out (by kernel_rfl)) (fun _ _ _ h => h) (Or.inr ⟨by rfl, rfl⟩) ?_ ?_
        rotate_left
        ·simp only [Act.put, List.setIfInBounds_toArray, List.set_cons_zero, List.set_cons_succ, i64_w, i32_w]
         rfl
        refine pure_ (i := 14) (N := some 26) (v := undef) (a' := ?_) #[true, true, true, true, true, true, true, true, true, true, true, true, true, true, true, false,false] rfl rfl (any_of HT_.out (by kernel_rfl)) (fun _ _ _ h => h) (Or.inr ⟨by rfl, rfl⟩) ?_ ?_
        rotate_left
        ·simp only [Act.put, List.setIfInBounds_toArray, List.set_cons_zero, List.set_cons_succ, i64_w, i32_w]
         rfl
        refine pureS 15 (some 27) HT_ ?_
        refine pureS 16 (some 28) HT_ ?_
        refine done_ (done_of HT_.out (by kernel_rfl)) ?_
        try go_wp2
        go_roundg k1
        case measure => have := HK1.out; omega
        case rel => exact ⟨(wrap64 (x7_1 + 1)), eqS, H', ⟨by have := HK1.out; omega⟩, ⟨upB HB.out⟩⟩
      ·replace c6 := Bool.eq_false_iff.mpr c6
       subst c6
       have H1 : (some false) = some r := by rw [if_neg (show ¬ (false = true) by decide)] at H; exact H
       clear H
       have H := H1
       clear H1
       obtain rfl := Option.some.inj H
       have p242 : 0 ≤ (x7_1 : Int) := of_decide_eq_true byA
       have q242 : x7_1 < (l0.length : Int) := of_decide_eq_true byA
       obtain ⟨ad242, A242_1, c242_1, e242, hx242_0, hx242_1, hl242_1, hi242_1⟩ := at_T90 HR0.out x7_1 p242 q242
       cases e242
       replace hx242_0 := cellB HB.out hx242_0
       replace hx242_1 := cellB HB.out hx242_1
       have HR242_1 := Aside0.mk hi242_1
       have HC242_1 := Aside0.mk hl242_1
       clear hi242_1 hl242_1
       replace p242 := eq_true p242
       replace q242 := eq_true q242
       try go_wp2_with (first | ((with_reducible refine gate_dst (N := 4) rfl ?_); refine boxS 4 #[.string (⟨#[]⟩ : ByteArray), .slice none 0 0] 90 ?_; intro gb243 hg w30 hbox hb; have n0_ := Aside0.mk (below_step (upB HB.out) hb); have n1_ := Aside0.mk (hbox); have n2_ := Aside0.mk (geB hg (upB HB.out) : w.heap.size ≤ gb243); have n3_ := Aside0.mk (geB hg (upB HB.out) : w.heap.size ≤ gb243); clear HB; have HB := n0_; have BK243 := n1_; have GW243 := n2_; have GE243 := n3_; clear n0_ n1_ n2_ n3_; clear hb hbox hg; have hcz31_0 : w30.cell? ⟨gb243, 0, none⟩ = some (.string (⟨#[]⟩ : ByteArray)) := (blk_cell BK243.out 0).trans rfl; have hcz31_1 : w30.cell? ⟨gb243, 1, none⟩ = some (.slice none 0 0) := (blk_cell BK243.out 1).trans rfl; have hfz31_0 := blk_frozen BK243.out 0; have hfz31_1 := blk_frozen BK243.out 1))
       have n0_ : Aside0 (((w30.setCell ⟨gb243, 0, none⟩ (.string ((rd_T90 l0 x7_1).f0))).setCell ⟨gb243, 1, none⟩ (.slice A242_1 ((rd_T90 l0 x7_1).f1).length c242_1)).heap[gb243]? = some (.cells #[.string ((rd_T90 l0 x7_1).f0), .slice A242_1 ((rd_T90 l0 x7_1).f1).length c242_1] 90 (0, 0))) := ⟨by refine upO ?_; refine blk_put (cs := #[.string ((rd_T90 l0 x7_1).f0), .slice none 0 0]) ?_ 1 _ rfl; refine upO ?_; refine blk_put (cs := #[.string (⟨#[]⟩ : ByteArray), .slice none 0 0]) ?_ 0 _ rfl; exact upO BK243.out⟩
       have n1_ : Aside0 (Below w.heap.size w ((w30.setCell ⟨gb243, 0, none⟩ (.string ((rd_T90 l0 x7_1).f0))).setCell ⟨gb243, 1, none⟩ (.slice A242_1 ((rd_T90 l0 x7_1).f1).length c242_1))) := ⟨upB HB.out⟩
       (try clear BK243)
       (try clear HB)
       generalize ((w30.setCell ⟨gb243, 0, none⟩ (.string ((rd_T90 l0 x7_1).f0))).setCell ⟨gb243, 1, none⟩ (.slice A242_1 ((rd_T90 l0 x7_1).f1).length c242_1)) = w32 at n0_ n1_ ⊢
       have BK243 := n0_
       have HB := n1_
       clear n0_ n1_
       have n0_ := Aside0.mk (blk_drew BK243.out)
       have n1_ := Aside0.mk (below_drew1 HB.out)
       clear BK243
       clear HB
       have BK243 := n0_
       have HB := n1_
       clear n0_ n1_
       refine start_ (n := 17) (S := fun w' => w'.cell? ⟨gb243, 0, none⟩ = some (.string ((rd_T90 l0 x7_1).f0)) ∧ w'.cell? ⟨gb243, 1, none⟩ = some (.slice A242_1 ((rd_T90 l0 x7_1).f1).length c242_1)) (ds := []) #[false,false,false,false,false,false,false,false,false,false,false,false,false,false,false,false,false] (by kernel_rfl) rfl rfl ⟨(blk_cell BK243.out 0).trans rfl, (blk_cell BK243.out 1).trans rfl⟩ (fun hHeld => ?_); refine with_tabW journal_rising.tab4 journal_rising.bits4 (fun HT_ HW_ => ?_)
       generalize w32.drew = w33 at BK243 HB hHeld ⊢
       refine takeS 0 (some 12) HT_ HW_ hHeld ?_
       refine one_ (i := 1) (N := some 13) #[true, true, false,false,false,false,false,false,false,false,false,false,false,false,false,false,false] rfl rfl (one_of HT_.out (by kernel_rfl)) (by decide) (fun K hK => ?_)
       refine goes_ Tryz.func83 (by kernel_rfl) rfl #[.agg #[.string ((rd_T90 l0 x7_1).f0), .slice A242_1 ((rd_T90 l0 x7_1).f1).length c242_1]] (by rfl) rfl rfl (by (try simp only [List.map_toArray, List.map_cons, List.map_nil]); first | done | rfl | (simp only [List.length_drop, List.length_take]; rfl)) ?_
       with_reducible refine (journal_may.calls k1 ((rd_T90 l0 x7_1).f0) _ _ ((rd_T90 l0 x7_1).f1) false _ ?side1 ?side2 A5.out).mono ?_
       (case side1 => exact upC (Kd.C_below HR242_1.out HB.out))
       (case side2 => exact HC242_1.out)
       rintro e w34 ⟨rfl, hb⟩
       refine ⟨_, rfl, ?_⟩
       have n0_ := Aside0.mk (blk_below (g := gb243) (o := .cells #[.string ((rd_T90 l0 x7_1).f0), .slice A242_1 ((rd_T90 l0 x7_1).f1).length c242_1] 90 (0, 0)) (upO BK243.out) hb)
       have n1_ := Aside0.mk (below_step (upB HB.out) hb)
       clear BK243
       clear HB
       have BK243 := n0_
       have HB := n1_
       clear n0_ n1_
       (try clear hb)
       (try clear hb2)
       (try clear hk)
       (try clear hi)
       refine hK.out _ _ ⟨(blk_cell BK243.out 0).trans rfl, (blk_cell BK243.out 1).trans rfl⟩ (fun hHeld => ?_)
       clear hK K
       refine normS (some 13) ?_
       refine pureS 2 (some 14) HT_ ?_
       refine pureS 3 (some 15) HT_ ?_
       refine pure_ (i := 4) (N := some 16) (v := undef) (a' := ?_) #[true, true, true, true, true, false,false,false,false,false,false,false,false,false,false,false,false] rfl rfl (any_of HT_.out (by kernel_rfl)) (fun _ _ _ h => h) (Or.inr ⟨by rfl, rfl⟩) ?_ ?_
       rotate_left
       ·simp only [Act.put, List.setIfInBounds_toArray, List.set_cons_zero, List.set_cons_succ, i64_w, i32_w]
        rfl
       refine pure_ (i := 5) (N := some 17) (v := undef) (a' := ?_) #[true, true, true, true, true, true, false,false,false,false,false,false,false,false,false,false,false] rfl rfl (any_of HT_.out (by kernel_rfl)) (fun _ _ _ h => h) (Or.inr ⟨by rfl, rfl⟩) ?_ ?_
       rotate_left
       ·simp only [Act.put, List.setIfInBounds_toArray, List.set_cons_zero, List.set_cons_succ, i64_w, i32_w]
        rfl
       refine pure_ (i := 6) (N := some 18) (v := undef) (a' := ?_) #[true, true, true, true, true, true, true, false,false,false,false,false,false,false,false,false,false] rfl rfl (any_of HT_.out (by kernel_rfl)) (fun _ _ _ h => h) (Or.inr ⟨by rfl, rfl⟩) ?_ ?_
       rotate_left
       ·simp only [Act.put, List.setIfInBounds_toArray, List.set_cons_zero, List.set_cons_succ, i64_w, i32_w]
        rfl
       refine pure_ (i := 7) (N := some 19) (v := undef) (a' := ?_) #[true, true, true, true, true, true, true, true, false,false,false,false,false,false,false,false,false] rfl rfl (any_of HT_.out (by kernel_rfl)) (fun _ _ _ h => h) (Or.inr ⟨by rfl, rfl⟩) ?_ ?_
       rotate_left
       ·simp only [Act.put, List.setIfInBounds_toArray, List.set_cons_zero, List.set_cons_succ, i64_w, i32_w]
        rfl
       refine pure_ (i := 8) (N := some 20) (v := undef) (a' := ?_) #[true, true, true, true, true, true, true, true, true, false,false,false,false,false,false,false,false] rfl rfl (any_of HT_.out (by kernel_rfl)) (fun _ _ _ h => h) (Or.inr ⟨by rfl, rfl⟩) ?_ ?_
       rotate_left
       ·simp only [Act.put, List.setIfInBounds_toArray, List.set_cons_zero, List.set_cons_succ, i64_w, i32_w]
        rfl
       refine pure_ (i := 9) (N := some 21) (v := undef) (a' := ?_) #[true, true, true, true, true, true, true, true, true, true, false,false,false,false,false,false,false] rfl rfl (any_of HT_.out (by kernel_rfl)) (fun _ _ _ h => h) (Or.inr ⟨by rfl, rfl⟩) ?_ ?_
       rotate_left
       ·simp only [Act.put, List.setIfInBounds_toArray, List.set_cons_zero, List.set_cons_succ, i64_w, i32_w]
        rfl
       refine pure_ (i := 10) (N := some 22) (v := undef) (a' := ?_) #[true, true, true, true, true, true, true, true, true, true, true, false,false,false,false,false,false] rfl rfl (any_of HT_.out (by kernel_rfl)) (fun _ _ _ h => h) (Or.inr ⟨by rfl, rfl⟩) ?_ ?_
       rotate_left
       ·simp only [Act.put, List.setIfInBounds_toArray, List.set_cons_zero, List.set_cons_succ, i64_w, i32_w]
        rfl
       refine pure_ (i := 11) (N := some 23) (v := undef) (a' := ?_) #[true, true, true, true, true, true, true, true, true, true, true, true, false,false,false,false,false] rfl rfl (any_of HT_.out (by kernel_rfl)) (fun _ _ _ h => h) (Or.inr ⟨by rfl, rfl⟩) ?_ ?_
       rotate_left
       ·simp only [Act.put, List.setIfInBounds_toArray, List.set_cons_zero, List.set_cons_succ, i64_w, i32_w]
        rfl
       refine pure_ (i := 12) (N := some 24) (v := undef) (a' := ?_) #[true, true, true, true, true, true, true, true, true, true, true, true, true, false,false,false,false] rfl rfl (any_of HT_.out (by kernel_rfl)) (fun _ _ _ h => h) (Or.inr ⟨by rfl, rfl⟩) ?_ ?_
       rotate_left
       ·simp only [Act.put, List.setIfInBounds_toArray, List.set_cons_zero, List.set_cons_succ, i64_w, i32_w]
        rfl
       refine pure_ (i := 13) (N := some 25) (v := undef) (a' := ?_) #[true, true, true, true, true, true, true, true, true, true, true, true, true, true, false,false,false] rfl rfl (any_of HT_.out (by kernel_rfl)) (fun _ _ _ h => h) (Or.inr ⟨by rfl, rfl⟩) ?_ ?_
       rotate_left
       ·simp only [Act.put, List.setIfInBounds_toArray, List.set_cons_zero, List.set_cons_succ, i64_w, i32_w]
        rfl
       refine pure_ (i := 14) (N := some 26) (v := undef) (a' := ?_) #[true, true, true, true, true, true, true, true, true, true, true, true, true, true, true, false,false] rfl rfl (any_of HT_.out (by kernel_rfl)) (fun _ _ _ h => h) (Or.inr ⟨by rfl, rfl⟩) ?_ ?_
       rotate_left
       ·simp only [Act.put, List.setIfInBounds_toArray, List.set_cons_zero, List.set_cons_succ, i64_w, i32_w]
        rfl
       refine pure_ (i := 15) (N := some 27) (v := undef) (a' := ?_) #[true, true, true, true, true, true, true, true, true, true, true, true, true, true, true, true, false] rfl rfl (any_of HT_.out (by kernel_rfl)) (fun _ _ _ h => h) (Or.inr ⟨by rfl, rfl⟩) ?_ ?_
       rotate_left
       ·simp only [Act.put, List.setIfInBounds_toArray, List.set_cons_zero, List.set_cons_succ, i64_w, i32_w]
        rfl
       refine pureS 16 (some 28) HT_ ?_
       refine done_ (done_of HT_.out (by kernel_rfl)) ?_
       try go_wp2
       go_ret
       exact ⟨eqE, upB HB.out⟩
     ·rw [if_neg c4] at H
      exact absurd H (by simp)
    ·rw [if_neg c3] at H
     exact absurd H (by simp)
   ·rw [if_neg c2] at H
    have c2b0 := decide_eq_false c2
    clear c2
    obtain rfl := Option.some.inj H
    go_wp2
    go_ret
    exact ⟨eqE, upB HB.out⟩
end Go.Proofs.J.Print
end
section
namespace Go.Proofs.J.Print
open Go.RowKit Go.Proofs.PrintWords Go.Proofs.PrintLast Go.Proofs.PrintMore
def journal_get_uint64.l0 : Nat → ByteArray → Int → Int → Int → Option (Int)
 | 0, _, _, _, _ => none
 | k + 1, x0, x5, x7, x8 => if x8 < x7 then (if 0 ≤ x8 then (if x8 < (x0.size : Int) then (if 0 ≤ (wrap64 (8 * x8)) then (journal_get_uint64.l0 k x0 (Go.bits .or .u64 x5 (shl .u64 (IntKind.u64.wrap (bt x0 x8)) (wrap64 (8 * x8)))) x7 (wrap64 (x8 + 1))) else (none)) else (none)) else (none)) else (some x5)
def journal_get_uint64.f (k : Nat) (a0 : ByteArray) (a1 : Int) : Option (Int) := journal_get_uint64.l0 k a0 0 a1 0
set_option maxHeartbeats 8000000 in
set_option maxRecDepth 100000 in
theorem journal_get_uint64.calls (k : Nat) (a0 : ByteArray) (a1 : Int) (r : Int) (w : World) (h : journal_get_uint64.f k a0 a1 = some r) :
  Calls Tryz.prog 97 #[.string a0, .int .i64 a1] w fun e w' => e = .returned (.int .u64 r) ∧ Drawn0 w w' := by
 have H : (journal_get_uint64.l0 k a0 0 a1 0) = some r := h
 clear h
 have H' := Aside0.mk H
 clear H
 go_enter Tryz.func97, Tryz.ntmps97
 go_wp2
 go_loopg [5, 8] k (fun kq v5 v8 w' => ∃ (x5_1 : Int) (x8_1 : Int), v5 = .int .u64 x5_1 ∧ v8 = .int .i64 x8_1 ∧ Aside0 (journal_get_uint64.l0 kq a0 x5_1 a1 x8_1 = some r) ∧ Aside0 (kq ≤ k) ∧ Drawn0 w w')
 case atStart => exact ⟨(0), (0), eqS, eqS, H', ⟨Nat.le_refl _⟩, by repeat (first | exact Drawn0.refl _ | apply Drawn0.step)⟩
 case round =>
  clear H'
  try clear p2
  obtain ⟨x5_1, x8_1, rfl, rfl, HA, HK1, ⟨m1, rfl⟩⟩ := hrel
  cases gk with
  | zero => exact absurd HA.out (by simp [journal_get_uint64.l0])
  | succ k1 =>
   have H := HA.out
   clear HA
   simp only [journal_get_uint64.l0] at H
   by_cases c3 : x8_1 < a1
   ·rw [if_pos c3] at H
    have c3b0 := decide_eq_true c3
    clear c3
    by_cases c4 : 0 ≤ x8_1
    ·rw [if_pos c4] at H
     have c4b0 := decide_eq_true c4
     clear c4
     by_cases c5 : x8_1 < (a0.size : Int)
     ·rw [if_pos c5] at H
      have c5b0 := decide_eq_true c5
      clear c5
      obtain ⟨ji7, hji7⟩ : ∃ j_ : Int, (wrap64 (8 * x8_1)) = j_ := ⟨_, rfl⟩
      replace H : (if 0 ≤ (ji7) then (journal_get_uint64.l0 k1 a0 (Go.bits .or .u64 x5_1 (shl .u64 (IntKind.u64.wrap (bt a0 x8_1)) (ji7))) a1 (wrap64 (x8_1 + 1))) else (none)) = some r := by first | (rw [hji7] at H; exact H) | (simp only [hji7] at H ⊢; exact H)
      have hji7w : (IntKind.i64.wrap (8 * x8_1)) = ji7 := (i64_w _).trans hji7
      by_cases c8 : 0 ≤ (ji7)
      ·rw [if_pos c8] at H
       have c8b0 := eq_true c8
       have c8b1 := decide_eq_true c8
       clear c8
       obtain ⟨ji9, hji9⟩ : ∃ j_ : Int, (shl .u64 (IntKind.u64.wrap (bt a0 x8_1)) (ji7)) = j_ := ⟨_, rfl⟩
       replace H : (journal_get_uint64.l0 k1 a0 (Go.bits .or .u64 x5_1 (ji9)) a1 (wrap64 (x8_1 + 1))) = some r := by first | (rw [hji9] at H; exact H) | (simp only [hji9] at H ⊢; exact H)
       have hji9_ : (IntKind.u64.wrap ((IntKind.u64.wrap (bt a0 x8_1)) * 2 ^ min (ji7).toNat 64)) = ji9 := hji9
       have hji9z : (ji7) ≤ 64 → (IntKind.u64.wrap ((IntKind.u64.wrap (bt a0 x8_1)) * 2 ^ (ji7).toNat)) = ji9 := shl_small hji9
       have H' := Aside0.mk H
       clear H
       have p6 : 0 ≤ (x8_1 : Int) := of_decide_eq_true byA
       have q6 : x8_1 < (a0.size : Int) := of_decide_eq_true byA
       have hx6 := bt_at a0 x8_1
       replace p6 := eq_true p6
       replace q6 := eq_true q6
       go_wp2
       go_roundg k1
       case measure => have := HK1.out; omega
       case rel => exact ⟨(Go.bits .or .u64 x5_1 (ji9)), (wrap64 (x8_1 + 1)), (by first | rfl | (simp; done) | (simp only [← hji9] <;> (first | rfl | simp)) | (simp [*]; done)), eqS, H', ⟨by have := HK1.out; omega⟩, by repeat (first | exact Drawn0.refl _ | apply Drawn0.step)⟩
      ·rw [if_neg c8] at H
       exact absurd H (by simp)
     ·rw [if_neg c5] at H
      exact absurd H (by simp)
    ·rw [if_neg c4] at H
     exact absurd H (by simp)
   ·rw [if_neg c3] at H
    have c3b0 := decide_eq_false c3
    clear c3
    obtain rfl := Option.some.inj H
    go_wp2
    go_ret
    exact ⟨eqS, by repeat (first | exact Drawn0.refl _ | apply Drawn0.step)⟩
end Go.Proofs.J.Print
end
