/- On the way to the law 'JournalEncodes': what the functions that it reaches compute, step by step, and the plain law (JPF26 .. JPF9). Each theorem states its own conditions. -/
import Derived.Test.YtcinnankefollaaGreatDoorWg
set_option linter.unusedVariables false
set_option linter.unusedSimpArgs false
section
namespace Go.Proofs.J.Print
open Go.RowKit Go.Proofs.PrintWords Go.Proofs.PrintLast Go.Proofs.PrintMore
mutual
def journal_putFacts.l0 : Nat → List Int → List (S90) → Int → Int → Option (List Int)
 | 0, _, _, _, _ => none
 | k + 1, x0, x14, x15, x16 => if x16 < x15 then (if 0 ≤ x16 then (if x16 < (x14.length : Int) then ((journal_put_uint8.f k x0 (((((rd_T90 x14 x16).f0).size : Int)) % 256) 1).bind fun t264 => (if t264.length + ((rd_T90 x14 x16).f0).size < 140737488355328 then ((journal_put_uint8.f k (t264 ++ bytesOf ((rd_T90 x14 x16).f0)) (((((rd_T90 x14 x16).f1).length : Int)) % 256) 1).bind fun t270 => (journal_putFacts.l1 k t270 x14 x15 x16 ((rd_T90 x14 x16).f1) (((rd_T90 x14 x16).f1).length : Int) 0)) else (none))) else (none)) else (none)) else (some x0)
def journal_putFacts.l1 : Nat → List Int → List (S90) → Int → Int → List (S85) → Int → Int → Option (List Int)
 | 0, _, _, _, _, _, _, _ => none
 | k + 1, x0, x14, x15, x16, x36, x37, x38 => if x38 < x37 then (if 0 ≤ x38 then (if x38 < (x36.length : Int) then (if ((rd_T85 x36 x38).f0) = 1 then (if x0.length < 140737488355328 then ((journal_put_uint64.f k (x0 ++ [78]) (IntKind.u64.wrap ((rd_T85 x36 x38).f1)) 8).bind fun t278 => (journal_putFacts.l1 k t278 x14 x15 x16 x36 x37 (wrap64 (x38 + 1)))) else (none)) else (if x0.length < 140737488355328 then ((journal_put_uint8.f k (x0 ++ [84]) (((((rd_T85 x36 x38).f2).size : Int)) % 256) 1).bind fun t284 => (if t284.length + ((rd_T85 x36 x38).f2).size < 140737488355328 then (journal_putFacts.l1 k (t284 ++ bytesOf ((rd_T85 x36 x38).f2)) x14 x15 x16 x36 x37 (wrap64 (x38 + 1))) else (none))) else (none))) else (none)) else (none)) else (journal_putFacts.l0 k x0 x14 x15 (wrap64 (x16 + 1)))
end
def journal_putFacts.f (k : Nat) (l0 : List Int) (l1 : List (S90)) : Option (List Int) := (journal_put_uint32.f k l0 (((l1.length : Int)) % 4294967296) 4).bind fun t259 => (journal_putFacts.l0 k t259 l1 (l1.length : Int) 0)
def journal_putFacts.T5 : Bool × List (List Nat × List Nat) := (true, [([], []), ([], []), ([1], [1]), ([2], [2]), ([3], [3]), ([0, 4], [0, 4]), ([], []), ([6], [6]), ([5, 7, 5], [5, 7]), ([8, 8, 0, 1, 2, 3, 4, 5, 6, 7, 8], [0, 8])])
def journal_putFacts.B5 : List Nat := [0, 0, 2, 6, 14, 31, 0, 64, 255, 511]
theorem journal_putFacts.tab5 : rtab .any (opsOf Tryz.f26 5) = journal_putFacts.T5 := by kernel_rfl
theorem journal_putFacts.bits5 : waitsOk journal_putFacts.T5.2 journal_putFacts.B5 = true := by kernel_rfl
def journal_putFacts.T11 : Bool × List (List Nat × List Nat) := (true, [([], []), ([], []), ([0, 1], [0, 1]), ([], []), ([3], [3]), ([4], [4]), ([2, 5, 2], [2, 5]), ([6, 6, 0, 1, 2, 3, 4, 5, 6], [0, 6])])
def journal_putFacts.B11 : List Nat := [0, 0, 3, 0, 8, 24, 63, 127]
theorem journal_putFacts.tab11 : rtab .any (opsOf Tryz.f26 11) = journal_putFacts.T11 := by kernel_rfl
theorem journal_putFacts.bits11 : waitsOk journal_putFacts.T11.2 journal_putFacts.B11 = true := by kernel_rfl
def journal_putFacts.T12 : Bool × List (List Nat × List Nat) := (true, [([], []), ([], []), ([0, 1], [0, 1]), ([], []), ([3], [3]), ([4], [4]), ([5], [5]), ([2, 6, 2], [2, 6]), ([], []), ([8], [8]), ([7, 9, 7], [7, 9]), ([10, 10, 0, 1, 2, 3, 4, 5, 6, 7, 8, 9, 10], [0, 10])])
def journal_putFacts.B12 : List Nat := [0, 0, 3, 0, 8, 24, 56, 127, 0, 256, 1023, 2047]
theorem journal_putFacts.tab12 : rtab .any (opsOf Tryz.f26 12) = journal_putFacts.T12 := by kernel_rfl
theorem journal_putFacts.bits12 : waitsOk journal_putFacts.T12.2 journal_putFacts.B12 = true := by kernel_rfl
set_option maxHeartbeats 8000000 in
set_option maxRecDepth 100000 in
theorem journal_putFacts.calls (k : Nat) (P0_ : Nat → Prop) (u9000_ : Value) (l0 : List Int) (A1 : Option Addr) (c1 : Nat) (l1 : List (S90)) (r : List Int) (w0 w : World) (hB : Below w0.heap.size w0 w) (ho0 : Kd.R (Kd.int .u8) 5 w w0.heap.size P0_ u9000_ l0) (hr1 : Kd.C k90 w0 A1 l1.length l1) (hc1 : l1.length ≤ c1) (h : journal_putFacts.f k l0 l1 = some r) :
  Calls Tryz.prog 26 #[u9000_, .slice A1 l1.length c1] w fun e w' => ∃ v0_ : Value, e = .returned (v0_) ∧ Kd.R (Kd.int .u8) 5 w' w0.heap.size (fun k_ => (P0_ k_ ∨ w.heap.size ≤ k_)) v0_ r ∧ Below w0.heap.size w0 w' ∧ Kept w w' (fun k_ => P0_ k_) := by
 have hu90 := Tryz.underlying90
 have hu85 := Tryz.underlying85
 have HO0 := Aside0.mk (show Kd.R (Kd.int .u8) 5 w w0.heap.size (fun k_ => (P0_ k_ ∨ w.heap.size ≤ k_)) u9000_ l0 from Kd.R_mono ho0 (fun k_ hk => (.inl hk)))
 have HR1 := Aside0.mk hr1
 have HC1 := Aside0.mk hc1
 clear hr1 hc1
 have HK := Aside0.mk (Kept.refl w (fun k_ => P0_ k_))
 have HW0 := Aside0.mk hB.size
 have HB := Aside0.mk hB
 clear hB
 have H : ((journal_put_uint32.f k l0 (((l1.length : Int)) % 4294967296) 4).bind fun t259 => (journal_putFacts.l0 k t259 l1 (l1.length : Int) 0)) = some r := h
 clear h
 replace H := Option.bind_eq_some_iff.mp H
 obtain ⟨t259, A30, H⟩ := H
 replace H : (journal_putFacts.l0 k t259 l1 (l1.length : Int) 0) = some r := H
 have A3 := Aside0.mk A30
 clear A30
 have H' := Aside0.mk H
 clear H
 obtain ⟨Ao4, co4, eo4⟩ := Kd.R_slice HO0.out
 subst eo4
 go_enter Tryz.func26, Tryz.ntmps26
 go_wp2_with (first | ((with_reducible refine gate_callee (f := 85) rfl ?_); refine goesS (some 13) Tryz.func85 #[.slice Ao4 l0.length co4, .int .u32 (((l1.length : Int)) % 4294967296), .int .i64 4] ?_; (with_reducible refine (journal_put_uint32.calls k (fun k_ => some k_ = (.slice Ao4 l0.length co4 : Value).ownBlock) (.slice Ao4 l0.length co4) l0 (((l1.length : Int)) % 4294967296) 4 t259 w0 _ ?side1 ?side2 A3.out).mono ?_); (case side1 => exact upB HB.out); (case side2 => exact Kd.R_tight rfl HO0.out); rintro e w5 ⟨v260, rfl, ho0, hb, hkp⟩; refine ⟨_, rfl, ?_⟩; have n0_ := Aside0.mk (Kd.R_mono (ok' := fun k_ => (P0_ k_ ∨ w.heap.size ≤ k_)) ho0 (fun k_ hk_ => Or.elim hk_ (fun hs_ => (HO0.out.1 k_ (hs_).symm)) (fun hn_ => (.inr (Nat.le_trans (by first | exact HK.out.1 | exact (show Kept w _ (fun k_ => P0_ k_) from by repeat (first | (with_reducible first | exact HK.out | apply Kept.alloc | apply Kept.drewN | apply Kept.drew) | exact HK.out)).1) hn_))))); have n1_ := Aside0.mk (Kept.then_ (S := (fun k_ => P0_ k_)) (by repeat (first | (with_reducible first | exact HK.out | apply Kept.alloc | apply Kept.drewN | apply Kept.drew) | exact HK.out)) hkp (fun k_ hs_ => (fun e_ => (HO0.out.1 k_ e_.symm)) hs_)); have n2_ := Aside0.mk (hb); clear HK; clear HB; clear HO0; have HO261 := n0_; have HK := n1_; have HB := n2_; clear n0_ n1_ n2_; (try clear hb); (try clear hkp); (try clear ho0)))
 go_loopg [0, 16] k (fun kq v0 v16 w' => ∃ (x0_1 : List Int) (x16_1 : Int), v16 = .int .i64 x16_1 ∧ Aside0 (journal_putFacts.l0 kq x0_1 l1 (l1.length : Int) x16_1 = some r) ∧ Aside0 (kq ≤ k) ∧ Aside0 (Kd.R (Kd.int .u8) 5 w' w0.heap.size (fun k_ => (P0_ k_ ∨ w.heap.size ≤ k_)) v0 x0_1) ∧ Aside0 (Kept w w' (fun k_ => P0_ k_)) ∧ Aside0 (Below w0.heap.size w0 w'))
 case atStart => exact ⟨(t259), (0), eqS, H', ⟨Nat.le_refl _⟩, ⟨upR HO261.out⟩, ⟨by repeat (first | (with_reducible first | exact HK.out | apply Kept.alloc | apply Kept.drewN | apply Kept.drew) | exact HK.out)⟩, ⟨upB HB.out⟩⟩
 case round =>
  clear H'
  try clear c1
  try clear c2
  try clear p2
  obtain ⟨x0_1, x16_1, rfl, HA, HK1, HO_0, HK, HB⟩ := hrel
  cases gk with
  | zero => exact absurd HA.out (by simp [journal_putFacts.l0])
  | succ k1 =>
   have H := HA.out
   clear HA
   simp only [journal_putFacts.l0] at H
   by_cases c6 : x16_1 < (l1.length : Int)
   ·rw [if_pos c6] at H
    have c6b0 := decide_eq_true c6
    clear c6
    by_cases c7 : 0 ≤ x16_1
    ·rw [if_pos c7] at H
     have c7b0 := decide_eq_true c7
     clear c7
     by_cases c8 : x16_1 < (l1.length : Int)
     ·rw [if_pos c8] at H
      have c8b0 := decide_eq_true c8
      clear c8
      replace H := Option.bind_eq_some_iff.mp H
      obtain ⟨t264, A90, H⟩ := H
      replace H : (if t264.length + ((rd_T90 l1 x16_1).f0).size < 140737488355328 then ((journal_put_uint8.f k1 (t264 ++ bytesOf ((rd_T90 l1 x16_1).f0)) (((((rd_T90 l1 x16_1).f1).length : Int)) % 256) 1).bind fun t270 => (journal_putFacts.l1 k1 t270 l1 (l1.length : Int) x16_1 ((rd_T90 l1 x16_1).f1) (((rd_T90 l1 x16_1).f1).length : Int) 0)) else (none)) = some r := H
      have A9 := Aside0.mk A90
      clear A90
      by_cases c10 : t264.length + ((rd_T90 l1 x16_1).f0).size < 140737488355328
      ·rw [if_pos c10] at H
       have LMc10 := Aside0.mk c10
       clear c10
       obtain ⟨y267, hy267⟩ : ∃ y_ : List Int, y_ = (t264 ++ bytesOf ((rd_T90 l1 x16_1).f0)) := ⟨_, rfl⟩
       replace H : ((journal_put_uint8.f k1 y267 (((((rd_T90 l1 x16_1).f1).length : Int)) % 256) 1).bind fun t270 => (journal_putFacts.l1 k1 t270 l1 (l1.length : Int) x16_1 ((rd_T90 l1 x16_1).f1) (((rd_T90 l1 x16_1).f1).length : Int) 0)) = some r := by first | (rw [hy267]; with_reducible exact H) | (have H2_ := (Option.bind_some _ _).symm.trans H; rw [hy267]; with_reducible exact H2_) | (have H2_ := (Option.bind_some _ _).symm.trans H; with_reducible exact H2_) | with_reducible exact H | (rw [hy267]; exact H) | exact H
       have Ny267 := Aside0.mk hy267
       clear hy267
       replace H := Option.bind_eq_some_iff.mp H
       obtain ⟨t270, A110, H⟩ := H
       replace H : (journal_putFacts.l1 k1 t270 l1 (l1.length : Int) x16_1 ((rd_T90 l1 x16_1).f1) (((rd_T90 l1 x16_1).f1).length : Int) 0) = some r := H
       have A11 := Aside0.mk A110
       clear A110
       have H' := Aside0.mk H
       clear H
       have p262 : 0 ≤ (x16_1 : Int) := of_decide_eq_true byA
       have q262 : x16_1 < (l1.length : Int) := of_decide_eq_true byA
       obtain ⟨ad262, A262_1, c262_1, e262, hx262_0, hx262_1, hl262_1, hi262_1⟩ := at_T90 HR1.out x16_1 p262 q262
       replace hx262_0 := (HB.out.cell (World.block_lt_of_cell? w0 _ hx262_0)).trans hx262_0
       replace hx262_1 := (HB.out.cell (World.block_lt_of_cell? w0 _ hx262_1)).trans hx262_1
       cases e262
       have HR262_1 := Aside0.mk hi262_1
       have HC262_1 := Aside0.mk hl262_1
       clear hi262_1 hl262_1
       replace p262 := eq_true p262
       replace q262 := eq_true q262
       try go_wp2_with (first | ((with_reducible refine gate_dst (N := 6) rfl ?_); refine boxS 6 #[.string (⟨#[]⟩ : ByteArray), .slice none 0 0] 90 ?_; intro gb263 hg w12 hbox hb; have n0_ := Aside0.mk (Kd.R_below (upR HO_0.out) hb); have n1_ := HR262_1; have n2_ := Aside0.mk (Kept.below (S := (fun k_ => P0_ k_)) (by repeat (first | (with_reducible first | exact HK.out | apply Kept.alloc | apply Kept.drewN | apply Kept.drew) | exact HK.out)) hb); have n3_ := Aside0.mk (below_step (upB HB.out) hb); have n4_ := Aside0.mk (hbox); have n5_ := Aside0.mk ((by rw [hg]; exact (by first | exact HK.out.1 | exact (show Kept w _ (fun k_ => P0_ k_) from by repeat (first | (with_reducible first | exact HK.out | apply Kept.alloc | apply Kept.drewN | apply Kept.drew) | exact HK.out)).1) : w.heap.size ≤ gb263)); have n6_ := Aside0.mk ((by rw [hg]; exact (below_size (upB HB.out)) : w0.heap.size ≤ gb263)); clear HO_0; clear HR262_1; clear HK; clear HB; have HO_0 := n0_; have HR262_1 := n1_; have HK := n2_; have HB := n3_; have BK263 := n4_; have GW263 := n5_; have GE263 := n6_; clear n0_ n1_ n2_ n3_ n4_ n5_ n6_; clear hb hbox hg; have hcz13_0 : w12.cell? ⟨gb263, 0, none⟩ = some (.string (⟨#[]⟩ : ByteArray)) := (blk_cell BK263.out 0).trans rfl; have hcz13_1 : w12.cell? ⟨gb263, 1, none⟩ = some (.slice none 0 0) := (blk_cell BK263.out 1).trans rfl; have hfz13_0 := blk_frozen BK263.out 0; have hfz13_1 := blk_frozen BK263.out 1))
       have n0_ : Aside0 (Kd.R (Kd.int .u8) 5 ((w12.setCell ⟨gb263, 0, none⟩ (.string ((rd_T90 l1 x16_1).f0))).setCell ⟨gb263, 1, none⟩ (.slice A262_1 ((rd_T90 l1 x16_1).f1).length c262_1)) w0.heap.size (fun k_ => (P0_ k_ ∨ w.heap.size ≤ k_)) u0 x0_1) := ⟨by (with_reducible repeat (first | apply Kd.R_alloc | apply Kd.R_drewN | apply Kd.R_drew)); exact Kd.R_mono (Kd.R_far (p := ⟨gb263, 1, none⟩) (Kd.R_far (p := ⟨gb263, 0, none⟩) (Kd.R_types HO_0.out BK263.out (by decide)) (fun _ hk => hk.2) (.string ((rd_T90 l1 x16_1).f0))) (fun _ hk => hk.2) (.slice A262_1 ((rd_T90 l1 x16_1).f1).length c262_1)) (fun _ hk => hk.1)⟩
       have n1_ : Aside0 (((w12.setCell ⟨gb263, 0, none⟩ (.string ((rd_T90 l1 x16_1).f0))).setCell ⟨gb263, 1, none⟩ (.slice A262_1 ((rd_T90 l1 x16_1).f1).length c262_1)).heap[gb263]? = some (.cells #[.string ((rd_T90 l1 x16_1).f0), .slice A262_1 ((rd_T90 l1 x16_1).f1).length c262_1] 90 (0, 0))) := ⟨by refine upO ?_; refine blk_put (cs := #[.string ((rd_T90 l1 x16_1).f0), .slice none 0 0]) ?_ 1 _ rfl; refine upO ?_; refine blk_put (cs := #[.string (⟨#[]⟩ : ByteArray), .slice none 0 0]) ?_ 0 _ rfl; exact upO BK263.out⟩
       have n2_ : Aside0 (Kept w ((w12.setCell ⟨gb263, 0, none⟩ (.string ((rd_T90 l1 x16_1).f0))).setCell ⟨gb263, 1, none⟩ (.slice A262_1 ((rd_T90 l1 x16_1).f1).length c262_1)) (fun k_ => P0_ k_)) := ⟨by repeat (first | (with_reducible first | exact HK.out | apply Kept.alloc | apply Kept.drewN | apply Kept.drew | refine Kept.setCell ?_ (.inr GW263.out) _) | exact HK.out)⟩
       have n3_ : Aside0 (Below w0.heap.size w0 ((w12.setCell ⟨gb263, 0, none⟩ (.string ((rd_T90 l1 x16_1).f0))).setCell ⟨gb263, 1, none⟩ (.slice A262_1 ((rd_T90 l1 x16_1).f1).length c262_1))) := ⟨upB HB.out⟩
       (try clear HO_0)
       (try clear BK263)
       (try clear HK)
       (try clear HB)
       generalize ((w12.setCell ⟨gb263, 0, none⟩ (.string ((rd_T90 l1 x16_1).f0))).setCell ⟨gb263, 1, none⟩ (.slice A262_1 ((rd_T90 l1 x16_1).f1).length c262_1)) = w14 at n0_ n1_ n2_ n3_ ⊢
       have HO_0 := n0_
       have BK263 := n1_
       have HK := n2_
       have HB := n3_
       clear n0_ n1_ n2_ n3_
       have n0_ := Aside0.mk (Kd.R_drew HO_0.out)
       have n1_ := Aside0.mk (blk_drew BK263.out)
       have n2_ := Aside0.mk (Kept.drew HK.out)
       have n3_ := Aside0.mk (below_drew1 HB.out)
       clear HO_0
       clear BK263
       clear HK
       clear HB
       have HO_0 := n0_
       have BK263 := n1_
       have HK := n2_
       have HB := n3_
       clear n0_ n1_ n2_ n3_
       obtain ⟨Ao16, co16, eo16⟩ := Kd.R_slice HO_0.out
       (first | subst eo16 | (injection eo16 with f1_ f2_ f3_; have f4_ := f1_.symm; have f5_ := f3_.symm; clear f1_ f2_ f3_; subst f4_; subst f5_))
       refine start_ (n := 10) (S := fun w' => w'.cell? ⟨gb263, 0, none⟩ = some (.string ((rd_T90 l1 x16_1).f0)) ∧ w'.cell? ⟨gb263, 1, none⟩ = some (.slice A262_1 ((rd_T90 l1 x16_1).f1).length c262_1)) (ds := []) #[false,false,false,false,false,false,false,false,false,false] (by kernel_rfl) rfl rfl ⟨(blk_cell BK263.out 0).trans rfl, (blk_cell BK263.out 1).trans rfl⟩ (fun hHeld => ?_); refine with_tabW journal_putFacts.tab5 journal_putFacts.bits5 (fun HT_ HW_ => ?_)
       generalize w14.drew = w15 at HO_0 BK263 HK HB hHeld ⊢
       refine pureS 0 (some 20) HT_ ?_
       refine pureS 1 (some 21) HT_ ?_
       refine pureS 6 (some 26) HT_ ?_
       refine takeS 2 (some 22) HT_ HW_ hHeld ?_
       refine pureS 3 (some 23) HT_ ?_
       refine pureS 4 (some 24) HT_ ?_
       refine takeS 7 (some 27) HT_ HW_ hHeld ?_
       refine one_ (i := 5) (N := some 25) #[true, true, true, true, true, true, true, true, false,false] rfl rfl (one_of HT_.out (by kernel_rfl)) (by decide) (fun K hK => ?_)
       refine goes_ Tryz.func86 (by kernel_rfl) rfl #[.slice Ao16 x0_1.length co16, .int .u8 (((((rd_T90 l1 x16_1).f0).size : Int)) % 256), .int .i64 1] (by rfl) rfl rfl (by (try simp only [List.map_toArray, List.map_cons, List.map_nil]); first | done | rfl | (simp only [List.length_drop, List.length_take]; rfl)) ?_
       with_reducible refine (journal_put_uint8.calls k1 (fun k_ => some k_ = (.slice Ao16 x0_1.length co16 : Value).ownBlock) (.slice Ao16 x0_1.length co16) x0_1 (((((rd_T90 l1 x16_1).f0).size : Int)) % 256) 1 t264 w0 _ ?side1 ?side2 A9.out).mono ?_
       (case side1 => exact upB HB.out)
       (case side2 => exact Kd.R_tight rfl HO_0.out)
       rintro e w17 ⟨v265, rfl, ho0, hb, hkp⟩
       refine ⟨_, rfl, ?_⟩
       have n0_ := Aside0.mk (blk_kept (upO BK263.out) hkp (fun hs_ => (fun e_ => (Kd.R_ne HO_0.out BK263.out (by decide)) e_) hs_))
       have n1_ := Aside0.mk (Kd.R_mono (ok' := fun k_ => (P0_ k_ ∨ w.heap.size ≤ k_)) ho0 (fun k_ hk_ => Or.elim hk_ (fun hs_ => (HO_0.out.1 k_ (hs_).symm)) (fun hn_ => (.inr (Nat.le_trans (by first | exact HK.out.1 | exact (show Kept w _ (fun k_ => P0_ k_) from by repeat (first | (with_reducible first | exact HK.out | apply Kept.alloc | apply Kept.drewN | apply Kept.drew | refine Kept.setCell ?_ (.inr GW263.out) _) | exact HK.out)).1) hn_)))))
       have n2_ := Aside0.mk (Kept.then_ (S := (fun k_ => P0_ k_)) (by repeat (first | (with_reducible first | exact HK.out | apply Kept.alloc | apply Kept.drewN | apply Kept.drew | refine Kept.setCell ?_ (.inr GW263.out) _) | exact HK.out)) hkp (fun k_ hs_ => (fun e_ => (HO_0.out.1 k_ e_.symm)) hs_))
       have n3_ := Aside0.mk (hb)
       clear BK263
       clear HK
       clear HB
       clear HO_0
       have BK263 := n0_
       have HO266 := n1_
       have HK := n2_
       have HB := n3_
       clear n0_ n1_ n2_ n3_
       (try clear hb)
       (try clear hkp)
       (try clear ho0)
       refine hK.out _ _ ⟨(blk_cell BK263.out 0).trans rfl, (blk_cell BK263.out 1).trans rfl⟩ (fun hHeld => ?_)
       clear hK K
       refine normS (some 25) ?_
       refine one_ (i := 8) (N := some 28) #[true, true, true, true, true, true, true, true, true, false] rfl rfl (one_of HT_.out (by kernel_rfl)) (by decide) (fun K hK => ?_)
       refine Go.Proofs.J.print_append_str_step (w0 := w0) w0.heap.size (by rfl) (.tmp 25) _ 78 9 5 rfl Tryz.underlying78 Tryz.underlying9 info5 v265 t264 ((rd_T90 l1 x16_1).f0) rfl rfl ?aO ?aB ?aS ?aL ?_
       (case aB => exact (upB HB.out))
       (case aO => exact (Kd.own_of_R (upR HO266.out)))
       (case aS => exact (below_size (upB HB.out)))
       (case aL => have := LMc10.out; omega)
       intro v268 w18 ho0 hb hg hat
       have ho := Kd.R_of_own (h1 := fun _ => rfl) (ok := fun k_ => P0_ k_ ∨ w.heap.size ≤ k_) ho0 (fun k_ e_ => hat.elim (fun h_ => HO266.out.1 k_ (h_.symm.trans e_)) (fun ⟨b_, h_, z_⟩ => .inr (by have y_ := h_.symm.trans e_; injection y_ with y_; rw [← y_]; exact Nat.le_trans (by first | exact HK.out.1 | exact (show Kept w _ (fun k_ => P0_ k_) from by repeat (first | (with_reducible first | exact HK.out | apply Kept.alloc | apply Kept.drewN | apply Kept.drew | refine Kept.setCell ?_ (.inr GW263.out) _) | exact HK.out)).1) z_)))
       clear ho0
       rw [← Ny267.out] at ho
       change Kd.R (Kd.int .u8) 5 w18 w0.heap.size (fun k_ => (P0_ k_ ∨ w.heap.size ≤ k_)) v268 y267 at ho
       have n0_ := Aside0.mk (blk_grown (g := gb263) (o := .cells #[.string ((rd_T90 l1 x16_1).f0), .slice A262_1 ((rd_T90 l1 x16_1).f1).length c262_1] 90 (0, 0)) (upO BK263.out) hg (Kd.R_ne HO266.out BK263.out (by decide)))
       have n1_ := Aside0.mk (hb)
       have n2_ := Aside0.mk (Kept.of_grown (S := (fun k_ => P0_ k_)) hg (by repeat (first | (with_reducible first | exact HK.out | apply Kept.alloc | apply Kept.drewN | apply Kept.drew | refine Kept.setCell ?_ (.inr GW263.out) _) | exact HK.out)) (fun k_ e_ => (HO266.out.1 k_ e_)))
       have n3_ := Aside0.mk (ho)
       clear BK263
       clear HB
       clear HK
       clear HO266
       have BK263 := n0_
       have HB := n1_
       have HK := n2_
       have HO269 := n3_
       clear n0_ n1_ n2_ n3_
       clear ho hb hg hat
       refine hK.out _ _ ⟨(blk_cell BK263.out 0).trans rfl, (blk_cell BK263.out 1).trans rfl⟩ (fun hHeld => ?_)
       clear hK K
       refine normS (some 28) ?_
       refine pureS 9 (some 0) HT_ ?_
       refine done_ (done_of HT_.out (by kernel_rfl)) ?_
       have hcz19_0 : w18.cell? ⟨gb263, 0, none⟩ = some (.string ((rd_T90 l1 x16_1).f0)) := (blk_cell BK263.out 0).trans rfl
       have hcz19_1 : w18.cell? ⟨gb263, 1, none⟩ = some (.slice A262_1 ((rd_T90 l1 x16_1).f1).length c262_1) := (blk_cell BK263.out 1).trans rfl
       have hfz19_0 := blk_frozen BK263.out 0
       have hfz19_1 := blk_frozen BK263.out 1
       obtain ⟨Ao20, co20, eo20⟩ := Kd.R_slice HO269.out
       subst eo20
       try go_wp2_with (first | ((with_reducible refine gate_callee (f := 86) rfl ?_); refine goesS (some 34) Tryz.func86 #[.slice Ao20 y267.length co20, .int .u8 (((((rd_T90 l1 x16_1).f1).length : Int)) % 256), .int .i64 1] ?_; (with_reducible refine (journal_put_uint8.calls k1 (fun k_ => some k_ = (.slice Ao20 y267.length co20 : Value).ownBlock) (.slice Ao20 y267.length co20) y267 (((((rd_T90 l1 x16_1).f1).length : Int)) % 256) 1 t270 w0 _ ?side1 ?side2 A11.out).mono ?_); (case side1 => exact upB HB.out); (case side2 => exact Kd.R_tight rfl HO269.out); rintro e w21 ⟨v271, rfl, ho0, hb, hkp⟩; refine ⟨_, rfl, ?_⟩; have n0_ := Aside0.mk (blk_kept (upO BK263.out) hkp (fun hs_ => (fun e_ => (Kd.R_ne HO269.out BK263.out (by decide)) e_) hs_)); have n1_ := Aside0.mk (Kd.R_mono (ok' := fun k_ => (P0_ k_ ∨ w.heap.size ≤ k_)) ho0 (fun k_ hk_ => Or.elim hk_ (fun hs_ => (HO269.out.1 k_ (hs_).symm)) (fun hn_ => (.inr (Nat.le_trans (by first | exact HK.out.1 | exact (show Kept w _ (fun k_ => P0_ k_) from by repeat (first | (with_reducible first | exact HK.out | apply Kept.alloc | apply Kept.drewN | apply Kept.drew | refine Kept.setCell ?_ (.inr GW263.out) _) | exact HK.out)).1) hn_))))); have n2_ := Aside0.mk (Kept.then_ (S := (fun k_ => P0_ k_)) (by repeat (first | (with_reducible first | exact HK.out | apply Kept.alloc | apply Kept.drewN | apply Kept.drew | refine Kept.setCell ?_ (.inr GW263.out) _) | exact HK.out)) hkp (fun k_ hs_ => (fun e_ => (HO269.out.1 k_ e_.symm)) hs_)); have n3_ := Aside0.mk (hb); clear BK263; clear HK; clear HB; clear HO269; have BK263 := n0_; have HO272 := n1_; have HK := n2_; have HB := n3_; clear n0_ n1_ n2_ n3_; (try clear hb); (try clear hkp); (try clear ho0); have hcz22_0 : w21.cell? ⟨gb263, 0, none⟩ = some (.string ((rd_T90 l1 x16_1).f0)) := (blk_cell BK263.out 0).trans rfl; have hcz22_1 : w21.cell? ⟨gb263, 1, none⟩ = some (.slice A262_1 ((rd_T90 l1 x16_1).f1).length c262_1) := (blk_cell BK263.out 1).trans rfl; have hfz22_0 := blk_frozen BK263.out 0; have hfz22_1 := blk_frozen BK263.out 1))
       go_loopg [0, 38] k1 (fun kq v0 v38 w' => ∃ (x0_2 : List Int) (x38_2 : Int), v38 = .int .i64 x38_2 ∧ Aside0 (journal_putFacts.l1 kq x0_2 l1 (l1.length : Int) x16_1 ((rd_T90 l1 x16_1).f1) (((rd_T90 l1 x16_1).f1).length : Int) x38_2 = some r) ∧ Aside0 (kq ≤ k1) ∧ Aside0 (Kd.R (Kd.int .u8) 5 w' w0.heap.size (fun k_ => (P0_ k_ ∨ w.heap.size ≤ k_)) v0 x0_2) ∧ Aside0 (w'.heap[gb263]? = some (.cells #[.string ((rd_T90 l1 x16_1).f0), (.slice A262_1 ((rd_T90 l1 x16_1).f1).length c262_1)] 90 (0, 0))) ∧ Aside0 (Kept w w' (fun k_ => P0_ k_)) ∧ Aside0 (Below w0.heap.size w0 w'))
       case atStart => exact ⟨(t270), (0), eqS, H', ⟨Nat.le_refl _⟩, ⟨upR HO272.out⟩, ⟨upO BK263.out⟩, ⟨by repeat (first | (with_reducible first | exact HK.out | apply Kept.alloc | apply Kept.drewN | apply Kept.drew | refine Kept.setCell ?_ (.inr GW263.out) _) | exact HK.out)⟩, ⟨upB HB.out⟩⟩
       case round =>
        clear H'
        try clear c1
        try clear c2
        try clear p2
        try clear q2
        try clear hx2
        try clear c6
        try clear c6b0
        try clear c7
        try clear c7b0
        try clear c8
        try clear c8b0
        try clear c10
        try clear hcz13_0
        try clear hcz13_1
        try clear hcz19_0
        try clear hcz19_1
        try clear hcz22_0
        try clear hcz22_1
        try clear hfz13_0
        try clear hfz13_1
        try clear hfz19_0
        try clear hfz19_1
        try clear hfz22_0
        try clear hfz22_1
        try clear hx262_0
        try clear hx262_1
        try clear p2
        try clear p262
        try clear q262
        obtain ⟨x0_2, x38_2, rfl, HA, HK2, HO_0, BK263, HK, HB⟩ := hrel
        cases gk with
        | zero => exact absurd HA.out (by simp [journal_putFacts.l1])
        | succ k2 =>
         have H := HA.out
         clear HA
         simp only [journal_putFacts.l1] at H
         by_cases c23 : x38_2 < (((rd_T90 l1 x16_1).f1).length : Int)
         ·rw [if_pos c23] at H
          have c23b0 := decide_eq_true c23
          clear c23
          by_cases c24 : 0 ≤ x38_2
          ·rw [if_pos c24] at H
           have c24b0 := decide_eq_true c24
           clear c24
           by_cases c25 : x38_2 < (((rd_T90 l1 x16_1).f1).length : Int)
           ·rw [if_pos c25] at H
            have c25b0 := decide_eq_true c25
            clear c25
            by_cases c26 : ((rd_T85 ((rd_T90 l1 x16_1).f1) x38_2).f0) = 1
            ·rw [if_pos c26] at H
             have c26b0 : (((rd_T85 ((rd_T90 l1 x16_1).f1) x38_2).f0) == 1) = true := beq_iff_eq.mpr c26
             have c26b1 : (((rd_T85 ((rd_T90 l1 x16_1).f1) x38_2).f0) != 1) = false := bne_eq_false_iff_eq.mpr c26
             clear c26
             by_cases c27 : x0_2.length < 140737488355328
             ·rw [if_pos c27] at H
              have LMc27 := Aside0.mk c27
              clear c27
              obtain ⟨y275, hy275⟩ : ∃ y_ : List Int, y_ = (x0_2 ++ [78]) := ⟨_, rfl⟩
              replace H : ((journal_put_uint64.f k2 y275 (IntKind.u64.wrap ((rd_T85 ((rd_T90 l1 x16_1).f1) x38_2).f1)) 8).bind fun t278 => (journal_putFacts.l1 k2 t278 l1 (l1.length : Int) x16_1 ((rd_T90 l1 x16_1).f1) (((rd_T90 l1 x16_1).f1).length : Int) (wrap64 (x38_2 + 1)))) = some r := by first | (rw [hy275]; with_reducible exact H) | (have H2_ := (Option.bind_some _ _).symm.trans H; rw [hy275]; with_reducible exact H2_) | (have H2_ := (Option.bind_some _ _).symm.trans H; with_reducible exact H2_) | with_reducible exact H | (rw [hy275]; exact H) | exact H
              have Ny275 := Aside0.mk hy275
              clear hy275
              replace H := Option.bind_eq_some_iff.mp H
              obtain ⟨t278, A280, H⟩ := H
              replace H : (journal_putFacts.l1 k2 t278 l1 (l1.length : Int) x16_1 ((rd_T90 l1 x16_1).f1) (((rd_T90 l1 x16_1).f1).length : Int) (wrap64 (x38_2 + 1))) = some r := H
              have A28 := Aside0.mk A280
              clear A280
              have H' := Aside0.mk H
              clear H
              have p273 : 0 ≤ (x38_2 : Int) := of_decide_eq_true byA
              have q273 : x38_2 < (((rd_T90 l1 x16_1).f1).length : Int) := of_decide_eq_true byA
              obtain ⟨ad273, e273, hx273_0, hx273_1, hx273_2⟩ := at_T85 HR262_1.out x38_2 p273 q273
              cases e273
              replace hx273_0 := (HB.out.cell (World.block_lt_of_cell? w0 _ hx273_0)).trans hx273_0
              replace hx273_1 := (HB.out.cell (World.block_lt_of_cell? w0 _ hx273_1)).trans hx273_1
              replace hx273_2 := (HB.out.cell (World.block_lt_of_cell? w0 _ hx273_2)).trans hx273_2
              replace p273 := eq_true p273
              replace q273 := eq_true q273
              try go_wp2_with (first | ((with_reducible refine gate_dst (N := 8) rfl ?_); refine boxS 8 #[.int .i8 0, .int .i64 0, .string (⟨#[]⟩ : ByteArray)] 85 ?_; intro gb274 hg w29 hbox hb; have n0_ := Aside0.mk (Kd.R_below (upR HO_0.out) hb); have n1_ := Aside0.mk (blk_below (g := gb263) (o := .cells #[.string ((rd_T90 l1 x16_1).f0), .slice (some ad273) ((rd_T90 l1 x16_1).f1).length c262_1] 90 (0, 0)) (upO BK263.out) hb); have n2_ := Aside0.mk (Kept.below (S := (fun k_ => P0_ k_)) (by repeat (first | (with_reducible first | exact HK.out | apply Kept.alloc | apply Kept.drewN | apply Kept.drew | refine Kept.setCell ?_ (.inr GW263.out) _) | exact HK.out)) hb); have n3_ := Aside0.mk (below_step (upB HB.out) hb); have n4_ := Aside0.mk (hbox); have n5_ := Aside0.mk ((by rw [hg]; exact (by first | exact HK.out.1 | exact (show Kept w _ (fun k_ => P0_ k_) from by repeat (first | (with_reducible first | exact HK.out | apply Kept.alloc | apply Kept.drewN | apply Kept.drew | refine Kept.setCell ?_ (.inr GW263.out) _) | exact HK.out)).1) : w.heap.size ≤ gb274)); have n6_ := Aside0.mk ((by rw [hg]; exact (below_size (upB HB.out)) : w0.heap.size ≤ gb274)); have n7_ := Aside0.mk ((by rw [hg]; exact Nat.ne_of_lt (blk_lt (g := gb263) (o := .cells #[.string ((rd_T90 l1 x16_1).f0), .slice (some ad273) ((rd_T90 l1 x16_1).f1).length c262_1] 90 (0, 0)) (upO BK263.out)) : gb263 ≠ gb274)); have n8_ := Aside0.mk ((by rw [hg]; exact Nat.ne_of_gt (blk_lt (g := gb263) (o := .cells #[.string ((rd_T90 l1 x16_1).f0), .slice (some ad273) ((rd_T90 l1 x16_1).f1).length c262_1] 90 (0, 0)) (upO BK263.out)) : gb274 ≠ gb263)); clear HO_0; clear BK263; clear HK; clear HB; have HO_0 := n0_; have BK263 := n1_; have HK := n2_; have HB := n3_; have BK274 := n4_; have GW274 := n5_; have GE274 := n6_; have NB263_274 := n7_; have NB274_263 := n8_; clear n0_ n1_ n2_ n3_ n4_ n5_ n6_ n7_ n8_; clear hb hbox hg; have hnb30 := NB274_263.out; have hnc30 := NB263_274.out; have hcz31_0 : w29.cell? ⟨gb274, 0, none⟩ = some (.int .i8 0) := (blk_cell BK274.out 0).trans rfl; have hcz31_1 : w29.cell? ⟨gb274, 1, none⟩ = some (.int .i64 0) := (blk_cell BK274.out 1).trans rfl; have hcz31_2 : w29.cell? ⟨gb274, 2, none⟩ = some (.string (⟨#[]⟩ : ByteArray)) := (blk_cell BK274.out 2).trans rfl; have hfz31_0 := blk_frozen BK274.out 0; have hfz31_1 := blk_frozen BK274.out 1; have hfz31_2 := blk_frozen BK274.out 2))
              have n0_ : Aside0 (Kd.R (Kd.int .u8) 5 (((w29.setCell ⟨gb274, 0, none⟩ (.int .i8 ((rd_T85 ((rd_T90 l1 x16_1).f1) x38_2).f0))).setCell ⟨gb274, 1, none⟩ (.int .i64 ((rd_T85 ((rd_T90 l1 x16_1).f1) x38_2).f1))).setCell ⟨gb274, 2, none⟩ (.string ((rd_T85 ((rd_T90 l1 x16_1).f1) x38_2).f2))) w0.heap.size (fun k_ => (P0_ k_ ∨ w.heap.size ≤ k_)) u0 x0_2) := ⟨by (with_reducible repeat (first | apply Kd.R_alloc | apply Kd.R_drewN | apply Kd.R_drew)); exact Kd.R_mono (Kd.R_far (p := ⟨gb274, 2, none⟩) (Kd.R_far (p := ⟨gb274, 1, none⟩) (Kd.R_far (p := ⟨gb274, 0, none⟩) (Kd.R_types HO_0.out BK274.out (by decide)) (fun _ hk => hk.2) (.int .i8 ((rd_T85 ((rd_T90 l1 x16_1).f1) x38_2).f0))) (fun _ hk => hk.2) (.int .i64 ((rd_T85 ((rd_T90 l1 x16_1).f1) x38_2).f1))) (fun _ hk => hk.2) (.string ((rd_T85 ((rd_T90 l1 x16_1).f1) x38_2).f2))) (fun _ hk => hk.1)⟩
              have n1_ : Aside0 ((((w29.setCell ⟨gb274, 0, none⟩ (.int .i8 ((rd_T85 ((rd_T90 l1 x16_1).f1) x38_2).f0))).setCell ⟨gb274, 1, none⟩ (.int .i64 ((rd_T85 ((rd_T90 l1 x16_1).f1) x38_2).f1))).setCell ⟨gb274, 2, none⟩ (.string ((rd_T85 ((rd_T90 l1 x16_1).f1) x38_2).f2))).heap[gb263]? = some (.cells #[.string ((rd_T90 l1 x16_1).f0), .slice (some ad273) ((rd_T90 l1 x16_1).f1).length c262_1] 90 (0, 0))) := ⟨by refine upO ?_; refine blk_far ?_ NB263_274.out _; refine upO ?_; refine blk_far ?_ NB263_274.out _; refine upO ?_; refine blk_far ?_ NB263_274.out _; exact upO BK263.out⟩
              have n2_ : Aside0 ((((w29.setCell ⟨gb274, 0, none⟩ (.int .i8 ((rd_T85 ((rd_T90 l1 x16_1).f1) x38_2).f0))).setCell ⟨gb274, 1, none⟩ (.int .i64 ((rd_T85 ((rd_T90 l1 x16_1).f1) x38_2).f1))).setCell ⟨gb274, 2, none⟩ (.string ((rd_T85 ((rd_T90 l1 x16_1).f1) x38_2).f2))).heap[gb274]? = some (.cells #[.int .i8 ((rd_T85 ((rd_T90 l1 x16_1).f1) x38_2).f0), .int .i64 ((rd_T85 ((rd_T90 l1 x16_1).f1) x38_2).f1), .string ((rd_T85 ((rd_T90 l1 x16_1).f1) x38_2).f2)] 85 (0, 0))) := ⟨by refine upO ?_; refine blk_put (cs := #[.int .i8 ((rd_T85 ((rd_T90 l1 x16_1).f1) x38_2).f0), .int .i64 ((rd_T85 ((rd_T90 l1 x16_1).f1) x38_2).f1), .string (⟨#[]⟩ : ByteArray)]) ?_ 2 _ rfl; refine upO ?_; refine blk_put (cs := #[.int .i8 ((rd_T85 ((rd_T90 l1 x16_1).f1) x38_2).f0), .int .i64 0, .string (⟨#[]⟩ : ByteArray)]) ?_ 1 _ rfl; refine upO ?_; refine blk_put (cs := #[.int .i8 0, .int .i64 0, .string (⟨#[]⟩ : ByteArray)]) ?_ 0 _ rfl; exact upO BK274.out⟩
              have n3_ : Aside0 (Kept w (((w29.setCell ⟨gb274, 0, none⟩ (.int .i8 ((rd_T85 ((rd_T90 l1 x16_1).f1) x38_2).f0))).setCell ⟨gb274, 1, none⟩ (.int .i64 ((rd_T85 ((rd_T90 l1 x16_1).f1) x38_2).f1))).setCell ⟨gb274, 2, none⟩ (.string ((rd_T85 ((rd_T90 l1 x16_1).f1) x38_2).f2))) (fun k_ => P0_ k_)) := ⟨by repeat (first | (with_reducible first | exact HK.out | apply Kept.alloc | apply Kept.drewN | apply Kept.drew | refine Kept.setCell ?_ (.inr GW263.out) _ | refine Kept.setCell ?_ (.inr GW274.out) _) | exact HK.out)⟩
              have n4_ : Aside0 (Below w0.heap.size w0 (((w29.setCell ⟨gb274, 0, none⟩ (.int .i8 ((rd_T85 ((rd_T90 l1 x16_1).f1) x38_2).f0))).setCell ⟨gb274, 1, none⟩ (.int .i64 ((rd_T85 ((rd_T90 l1 x16_1).f1) x38_2).f1))).setCell ⟨gb274, 2, none⟩ (.string ((rd_T85 ((rd_T90 l1 x16_1).f1) x38_2).f2)))) := ⟨upB HB.out⟩
              (try clear HO_0)
              (try clear BK263)
              (try clear BK274)
              (try clear HK)
              (try clear HB)
              generalize (((w29.setCell ⟨gb274, 0, none⟩ (.int .i8 ((rd_T85 ((rd_T90 l1 x16_1).f1) x38_2).f0))).setCell ⟨gb274, 1, none⟩ (.int .i64 ((rd_T85 ((rd_T90 l1 x16_1).f1) x38_2).f1))).setCell ⟨gb274, 2, none⟩ (.string ((rd_T85 ((rd_T90 l1 x16_1).f1) x38_2).f2))) = w32 at n0_ n1_ n2_ n3_ n4_ ⊢
              have HO_0 := n0_
              have BK263 := n1_
              have BK274 := n2_
              have HK := n3_
              have HB := n4_
              clear n0_ n1_ n2_ n3_ n4_
              have n0_ := Aside0.mk (Kd.R_drew HO_0.out)
              have n1_ := Aside0.mk (blk_drew BK263.out)
              have n2_ := Aside0.mk (blk_drew BK274.out)
              have n3_ := Aside0.mk (Kept.drew HK.out)
              have n4_ := Aside0.mk (below_drew1 HB.out)
              clear HO_0
              clear BK263
              clear BK274
              clear HK
              clear HB
              have HO_0 := n0_
              have BK263 := n1_
              have BK274 := n2_
              have HK := n3_
              have HB := n4_
              clear n0_ n1_ n2_ n3_ n4_
              refine start_ (n := 8) (S := fun w' => w'.cell? ⟨gb274, 0, none⟩ = some (.int .i8 ((rd_T85 ((rd_T90 l1 x16_1).f1) x38_2).f0)) ∧ w'.cell? ⟨gb274, 1, none⟩ = some (.int .i64 ((rd_T85 ((rd_T90 l1 x16_1).f1) x38_2).f1)) ∧ w'.cell? ⟨gb274, 2, none⟩ = some (.string ((rd_T85 ((rd_T90 l1 x16_1).f1) x38_2).f2))) (ds := []) #[false,false,false,false,false,false,false,false] (by kernel_rfl) rfl rfl ⟨(blk_cell BK274.out 0).trans rfl, (blk_cell BK274.out 1).trans rfl, (blk_cell BK274.out 2).trans rfl⟩ (fun hHeld => ?_); refine with_tabW journal_putFacts.tab11 journal_putFacts.bits11 (fun HT_ HW_ => ?_)
              generalize w32.drew = w33 at HO_0 BK263 BK274 HK HB hHeld ⊢
              refine pureS 0 (some 45) HT_ ?_
              refine pureS 3 (some 48) HT_ ?_
              refine takeS 4 (some 49) HT_ HW_ hHeld ?_
              refine pureS 5 (some 50) HT_ ?_
              refine one_ (i := 1) (N := some 46) #[true, true, false, true, true, true, false,false] rfl rfl (one_of HT_.out (by kernel_rfl)) (by decide) (fun K hK => ?_)
              refine value_ (w1 := ?_) (v := ?_) (by rfl) rfl ?_ ?_
              rotate_left 2
              ·go_simp
               constructor
               ·rfl
               ·rfl
              refine hK.out _ _ ⟨(blk_cell (blk_alloc BK274.out _) 0).trans rfl, (blk_cell (blk_alloc BK274.out _) 1).trans rfl, (blk_cell (blk_alloc BK274.out _) 2).trans rfl⟩ (fun hHeld => ?_)
              clear hK K
              refine normS (some 46) ?_
              refine one_ (i := 2) (N := some 47) #[true, true, true, true, true, true, false,false] rfl rfl (one_of HT_.out (by kernel_rfl)) (by decide) (fun K hK => ?_)
              refine Kd.R_append_step (Kd.int .u8) (w0 := w0) w0.heap.size (by rfl) (.tmp 45) (.tmp 46) 78 5 (.int .u8 0) 1 rfl Tryz.underlying78 info5 rfl (by decide) (by omega) u0 x0_2 78 [.int .u8 78] (fun k_ => (P0_ k_ ∨ w.heap.size ≤ k_)) (fun _ => False) rfl rfl ?aP (fun _ hk => hk.elim) ?aF ?aO ?aB ?aS ?aL ?_
              (case aP => exact rfl)
              (case aB => exact (upB HB.out))
              (case aF => exact (fun k_ hk => (.inr (Nat.le_trans (by first | exact HK.out.1 | exact (show Kept w _ (fun k_ => P0_ k_) from by repeat (first | (with_reducible first | exact HK.out | apply Kept.alloc | apply Kept.drewN | apply Kept.drew | refine Kept.setCell ?_ (.inr GW263.out) _ | refine Kept.setCell ?_ (.inr GW274.out) _) | exact HK.out)).1) hk))))
              (case aO => exact (upR HO_0.out))
              (case aS => exact (below_size (upB HB.out)))
              (case aL => have := LMc27.out; omega)
              intro v276 w34 ho hb hg hat
              rw [← Ny275.out] at ho
              have n0_ := Aside0.mk (blk_grown (g := gb263) (o := .cells #[.string ((rd_T90 l1 x16_1).f0), .slice (some ad273) ((rd_T90 l1 x16_1).f1).length c262_1] 90 (0, 0)) (upO BK263.out) hg (Kd.R_ne HO_0.out BK263.out (by decide)))
              have n1_ := Aside0.mk (blk_grown (g := gb274) (o := .cells #[.int .i8 ((rd_T85 ((rd_T90 l1 x16_1).f1) x38_2).f0), .int .i64 ((rd_T85 ((rd_T90 l1 x16_1).f1) x38_2).f1), .string ((rd_T85 ((rd_T90 l1 x16_1).f1) x38_2).f2)] 85 (0, 0)) (upO BK274.out) hg (Kd.R_ne HO_0.out BK274.out (by decide)))
              have n2_ := Aside0.mk (hb)
              have n3_ := Aside0.mk (Kept.of_grown (S := (fun k_ => P0_ k_)) hg (by repeat (first | (with_reducible first | exact HK.out | apply Kept.alloc | apply Kept.drewN | apply Kept.drew | refine Kept.setCell ?_ (.inr GW263.out) _ | refine Kept.setCell ?_ (.inr GW274.out) _) | exact HK.out)) (fun k_ e_ => (HO_0.out.1 k_ e_)))
              have n4_ := Aside0.mk (ho)
              clear BK263
              clear BK274
              clear HB
              clear HK
              clear HO_0
              have BK263 := n0_
              have BK274 := n1_
              have HB := n2_
              have HK := n3_
              have HO277 := n4_
              clear n0_ n1_ n2_ n3_ n4_
              clear ho hb hg hat
              obtain ⟨Ao35, co35, eo35⟩ := Kd.R_slice HO277.out
              (first | subst eo35 | (injection eo35 with f1_ f2_ f3_; have f4_ := f1_.symm; have f5_ := f3_.symm; clear f1_ f2_ f3_; subst f4_; subst f5_))
              refine hK.out _ _ ⟨(blk_cell BK274.out 0).trans rfl, (blk_cell BK274.out 1).trans rfl, (blk_cell BK274.out 2).trans rfl⟩ (fun hHeld => ?_)
              clear hK K
              refine normS (some 47) ?_
              refine one_ (i := 6) (N := some 51) #[true, true, true, true, true, true, true, false] rfl rfl (one_of HT_.out (by kernel_rfl)) (by decide) (fun K hK => ?_)
              refine goes_ Tryz.func25 (by kernel_rfl) rfl #[.slice Ao35 y275.length co35, .int .u64 (IntKind.u64.wrap ((rd_T85 ((rd_T90 l1 x16_1).f1) x38_2).f1)), .int .i64 8] (by rfl) rfl rfl (by (try simp only [List.map_toArray, List.map_cons, List.map_nil]); first | done | rfl | (simp only [List.length_drop, List.length_take]; rfl)) ?_
              with_reducible refine (journal_put_uint64.calls k2 (fun k_ => some k_ = (.slice Ao35 y275.length co35 : Value).ownBlock) (.slice Ao35 y275.length co35) y275 (IntKind.u64.wrap ((rd_T85 ((rd_T90 l1 x16_1).f1) x38_2).f1)) 8 t278 w0 _ ?side1 ?side2 A28.out).mono ?_
              (case side1 => exact upB HB.out)
              (case side2 => exact Kd.R_tight rfl HO277.out)
              rintro e w36 ⟨v279, rfl, ho0, hb, hkp⟩
              refine ⟨_, rfl, ?_⟩
              have n0_ := Aside0.mk (blk_kept (upO BK263.out) hkp (fun hs_ => (fun e_ => (Kd.R_ne HO277.out BK263.out (by decide)) e_) hs_))
              have n1_ := Aside0.mk (blk_kept (upO BK274.out) hkp (fun hs_ => (fun e_ => (Kd.R_ne HO277.out BK274.out (by decide)) e_) hs_))
              have n2_ := Aside0.mk (Kd.R_mono (ok' := fun k_ => (P0_ k_ ∨ w.heap.size ≤ k_)) ho0 (fun k_ hk_ => Or.elim hk_ (fun hs_ => (HO277.out.1 k_ (hs_).symm)) (fun hn_ => (.inr (Nat.le_trans (by first | exact HK.out.1 | exact (show Kept w _ (fun k_ => P0_ k_) from by repeat (first | (with_reducible first | exact HK.out | apply Kept.alloc | apply Kept.drewN | apply Kept.drew | refine Kept.setCell ?_ (.inr GW263.out) _ | refine Kept.setCell ?_ (.inr GW274.out) _) | exact HK.out)).1) hn_)))))
              have n3_ := Aside0.mk (Kept.then_ (S := (fun k_ => P0_ k_)) (by repeat (first | (with_reducible first | exact HK.out | apply Kept.alloc | apply Kept.drewN | apply Kept.drew | refine Kept.setCell ?_ (.inr GW263.out) _ | refine Kept.setCell ?_ (.inr GW274.out) _) | exact HK.out)) hkp (fun k_ hs_ => (fun e_ => (HO277.out.1 k_ e_.symm)) hs_))
              have n4_ := Aside0.mk (hb)
              clear BK263
              clear BK274
              clear HK
              clear HB
              clear HO277
              have BK263 := n0_
              have BK274 := n1_
              have HO280 := n2_
              have HK := n3_
              have HB := n4_
              clear n0_ n1_ n2_ n3_ n4_
              (try clear hb)
              (try clear hkp)
              (try clear ho0)
              refine hK.out _ _ ⟨(blk_cell BK274.out 0).trans rfl, (blk_cell BK274.out 1).trans rfl, (blk_cell BK274.out 2).trans rfl⟩ (fun hHeld => ?_)
              clear hK K
              refine normS (some 51) ?_
              refine pureS 7 (some 0) HT_ ?_
              refine done_ (done_of HT_.out (by kernel_rfl)) ?_
              try go_wp2
              go_roundg k2
              case measure => have := HK1.out; have := HK2.out; omega
              case rel => exact ⟨(t278), (wrap64 (x38_2 + 1)), eqS, H', ⟨by have := HK1.out; have := HK2.out; omega⟩, ⟨upR HO280.out⟩, ⟨upO BK263.out⟩, ⟨by repeat (first | (with_reducible first | exact HK.out | apply Kept.alloc | apply Kept.drewN | apply Kept.drew | refine Kept.setCell ?_ (.inr GW263.out) _ | refine Kept.setCell ?_ (.inr GW274.out) _) | exact HK.out)⟩, ⟨upB HB.out⟩⟩
             ·rw [if_neg c27] at H
              exact absurd H (by simp)
            ·rw [if_neg c26] at H
             have c26b0 : (((rd_T85 ((rd_T90 l1 x16_1).f1) x38_2).f0) == 1) = false := beq_eq_false_iff_ne.mpr c26
             have c26b1 : (((rd_T85 ((rd_T90 l1 x16_1).f1) x38_2).f0) != 1) = true := bne_iff_ne.mpr c26
             by_cases c37 : x0_2.length < 140737488355328
             ·rw [if_pos c37] at H
              have LMc37 := Aside0.mk c37
              clear c37
              obtain ⟨y281, hy281⟩ : ∃ y_ : List Int, y_ = (x0_2 ++ [84]) := ⟨_, rfl⟩
              replace H : ((journal_put_uint8.f k2 y281 (((((rd_T85 ((rd_T90 l1 x16_1).f1) x38_2).f2).size : Int)) % 256) 1).bind fun t284 => (if t284.length + ((rd_T85 ((rd_T90 l1 x16_1).f1) x38_2).f2).size < 140737488355328 then (journal_putFacts.l1 k2 (t284 ++ bytesOf ((rd_T85 ((rd_T90 l1 x16_1).f1) x38_2).f2)) l1 (l1.length : Int) x16_1 ((rd_T90 l1 x16_1).f1) (((rd_T90 l1 x16_1).f1).length : Int) (wrap64 (x38_2 + 1))) else (none))) = some r := by first | (rw [hy281]; with_reducible exact H) | (have H2_ := (Option.bind_some _ _).symm.trans H; rw [hy281]; with_reducible exact H2_) | (have H2_ := (Option.bind_some _ _).symm.trans H; with_reducible exact H2_) | with_reducible exact H | (rw [hy281]; exact H) | exact H
              have Ny281 := Aside0.mk hy281
              clear hy281
              replace H := Option.bind_eq_some_iff.mp H
              obtain ⟨t284, A380, H⟩ := H
              replace H : (if t284.length + ((rd_T85 ((rd_T90 l1 x16_1).f1) x38_2).f2).size < 140737488355328 then (journal_putFacts.l1 k2 (t284 ++ bytesOf ((rd_T85 ((rd_T90 l1 x16_1).f1) x38_2).f2)) l1 (l1.length : Int) x16_1 ((rd_T90 l1 x16_1).f1) (((rd_T90 l1 x16_1).f1).length : Int) (wrap64 (x38_2 + 1))) else (none)) = some r := H
              have A38 := Aside0.mk A380
              clear A380
              by_cases c39 : t284.length + ((rd_T85 ((rd_T90 l1 x16_1).f1) x38_2).f2).size < 140737488355328
              ·rw [if_pos c39] at H
               have LMc39 := Aside0.mk c39
               clear c39
               obtain ⟨y287, hy287⟩ : ∃ y_ : List Int, y_ = (t284 ++ bytesOf ((rd_T85 ((rd_T90 l1 x16_1).f1) x38_2).f2)) := ⟨_, rfl⟩
               replace H : (journal_putFacts.l1 k2 y287 l1 (l1.length : Int) x16_1 ((rd_T90 l1 x16_1).f1) (((rd_T90 l1 x16_1).f1).length : Int) (wrap64 (x38_2 + 1))) = some r := by first | (rw [hy287]; with_reducible exact H) | (have H2_ := (Option.bind_some _ _).symm.trans H; rw [hy287]; with_reducible exact H2_) | (have H2_ := (Option.bind_some _ _).symm.trans H; with_reducible exact H2_) | with_reducible exact H | (rw [hy287]; exact H) | exact H
               have Ny287 := Aside0.mk hy287
               clear hy287
               have H' := Aside0.mk H
               clear H
               have p273 : 0 ≤ (x38_2 : Int) := of_decide_eq_true byA
               have q273 : x38_2 < (((rd_T90 l1 x16_1).f1).length : Int) := of_decide_eq_true byA
               obtain ⟨ad273, e273, hx273_0, hx273_1, hx273_2⟩ := at_T85 HR262_1.out x38_2 p273 q273
               cases e273
               replace hx273_0 := (HB.out.cell (World.block_lt_of_cell? w0 _ hx273_0)).trans hx273_0
               replace hx273_1 := (HB.out.cell (World.block_lt_of_cell? w0 _ hx273_1)).trans hx273_1
               replace hx273_2 := (HB.out.cell (World.block_lt_of_cell? w0 _ hx273_2)).trans hx273_2
               replace p273 := eq_true p273
               replace q273 := eq_true q273
               try go_wp2_with (first | ((with_reducible refine gate_dst (N := 8) rfl ?_); refine boxS 8 #[.int .i8 0, .int .i64 0, .string (⟨#[]⟩ : ByteArray)] 85 ?_; intro gb274 hg w40 hbox hb; have n0_ := Aside0.mk (Kd.R_below (upR HO_0.out) hb); have n1_ := Aside0.mk (blk_below (g := gb263) (o := .cells #[.string ((rd_T90 l1 x16_1).f0), .slice (some ad273) ((rd_T90 l1 x16_1).f1).length c262_1] 90 (0, 0)) (upO BK263.out) hb); have n2_ := Aside0.mk (Kept.below (S := (fun k_ => P0_ k_)) (by repeat (first | (with_reducible first | exact HK.out | apply Kept.alloc | apply Kept.drewN | apply Kept.drew | refine Kept.setCell ?_ (.inr GW263.out) _) | exact HK.out)) hb); have n3_ := Aside0.mk (below_step (upB HB.out) hb); have n4_ := Aside0.mk (hbox); have n5_ := Aside0.mk ((by rw [hg]; exact (by first | exact HK.out.1 | exact (show Kept w _ (fun k_ => P0_ k_) from by repeat (first | (with_reducible first | exact HK.out | apply Kept.alloc | apply Kept.drewN | apply Kept.drew | refine Kept.setCell ?_ (.inr GW263.out) _) | exact HK.out)).1) : w.heap.size ≤ gb274)); have n6_ := Aside0.mk ((by rw [hg]; exact (below_size (upB HB.out)) : w0.heap.size ≤ gb274)); have n7_ := Aside0.mk ((by rw [hg]; exact Nat.ne_of_lt (blk_lt (g := gb263) (o := .cells #[.string ((rd_T90 l1 x16_1).f0), .slice (some ad273) ((rd_T90 l1 x16_1).f1).length c262_1] 90 (0, 0)) (upO BK263.out)) : gb263 ≠ gb274)); have n8_ := Aside0.mk ((by rw [hg]; exact Nat.ne_of_gt (blk_lt (g := gb263) (o := .cells #[.string ((rd_T90 l1 x16_1).f0), .slice (some ad273) ((rd_T90 l1 x16_1).f1).length c262_1] 90 (0, 0)) (upO BK263.out)) : gb274 ≠ gb263)); clear HO_0; clear BK263; clear HK; clear HB; have HO_0 := n0_; have BK263 := n1_; have HK := n2_; have HB := n3_; have BK274 := n4_; have GW274 := n5_; have GE274 := n6_; have NB263_274 := n7_; have NB274_263 := n8_; clear n0_ n1_ n2_ n3_ n4_ n5_ n6_ n7_ n8_; clear hb hbox hg; have hnb41 := NB274_263.out; have hnc41 := NB263_274.out; have hcz42_0 : w40.cell? ⟨gb274, 0, none⟩ = some (.int .i8 0) := (blk_cell BK274.out 0).trans rfl; have hcz42_1 : w40.cell? ⟨gb274, 1, none⟩ = some (.int .i64 0) := (blk_cell BK274.out 1).trans rfl; have hcz42_2 : w40.cell? ⟨gb274, 2, none⟩ = some (.string (⟨#[]⟩ : ByteArray)) := (blk_cell BK274.out 2).trans rfl; have hfz42_0 := blk_frozen BK274.out 0; have hfz42_1 := blk_frozen BK274.out 1; have hfz42_2 := blk_frozen BK274.out 2))
               have n0_ : Aside0 (Kd.R (Kd.int .u8) 5 (((w40.setCell ⟨gb274, 0, none⟩ (.int .i8 ((rd_T85 ((rd_T90 l1 x16_1).f1) x38_2).f0))).setCell ⟨gb274, 1, none⟩ (.int .i64 ((rd_T85 ((rd_T90 l1 x16_1).f1) x38_2).f1))).setCell ⟨gb274, 2, none⟩ (.string ((rd_T85 ((rd_T90 l1 x16_1).f1) x38_2).f2))) w0.heap.size (fun k_ => (P0_ k_ ∨ w.heap.size ≤ k_)) u0 x0_2) := ⟨by (with_reducible repeat (first | apply Kd.R_alloc | apply Kd.R_drewN | apply Kd.R_drew)); exact Kd.R_mono (Kd.R_far (p := ⟨gb274, 2, none⟩) (Kd.R_far (p := ⟨gb274, 1, none⟩) (Kd.R_far (p := ⟨gb274, 0, none⟩) (Kd.R_types HO_0.out BK274.out (by decide)) (fun _ hk => hk.2) (.int .i8 ((rd_T85 ((rd_T90 l1 x16_1).f1) x38_2).f0))) (fun _ hk => hk.2) (.int .i64 ((rd_T85 ((rd_T90 l1 x16_1).f1) x38_2).f1))) (fun _ hk => hk.2) (.string ((rd_T85 ((rd_T90 l1 x16_1).f1) x38_2).f2))) (fun _ hk => hk.1)⟩
               have n1_ : Aside0 ((((w40.setCell ⟨gb274, 0, none⟩ (.int .i8 ((rd_T85 ((rd_T90 l1 x16_1).f1) x38_2).f0))).setCell ⟨gb274, 1, none⟩ (.int .i64 ((rd_T85 ((rd_T90 l1 x16_1).f1) x38_2).f1))).setCell ⟨gb274, 2, none⟩ (.string ((rd_T85 ((rd_T90 l1 x16_1).f1) x38_2).f2))).heap[gb263]? = some (.cells #[.string ((rd_T90 l1 x16_1).f0), .slice (some ad273) ((rd_T90 l1 x16_1).f1).length c262_1] 90 (0, 0))) := ⟨by refine upO ?_; refine blk_far ?_ NB263_274.out _; refine upO ?_; refine blk_far ?_ NB263_274.out _; refine upO ?_; refine blk_far ?_ NB263_274.out _; exact upO BK263.out⟩
               have n2_ : Aside0 ((((w40.setCell ⟨gb274, 0, none⟩ (.int .i8 ((rd_T85 ((rd_T90 l1 x16_1).f1) x38_2).f0))).setCell ⟨gb274, 1, none⟩ (.int .i64 ((rd_T85 ((rd_T90 l1 x16_1).f1) x38_2).f1))).setCell ⟨gb274, 2, none⟩ (.string ((rd_T85 ((rd_T90 l1 x16_1).f1) x38_2).f2))).heap[gb274]? = some (.cells #[.int .i8 ((rd_T85 ((rd_T90 l1 x16_1).f1) x38_2).f0), .int .i64 ((rd_T85 ((rd_T90 l1 x16_1).f1) x38_2).f1), .string ((rd_T85 ((rd_T90 l1 x16_1).f1) x38_2).f2)] 85 (0, 0))) := ⟨by refine upO ?_; refine blk_put (cs := #[.int .i8 ((rd_T85 ((rd_T90 l1 x16_1).f1) x38_2).f0), .int .i64 ((rd_T85 ((rd_T90 l1 x16_1).f1) x38_2).f1), .string (⟨#[]⟩ : ByteArray)]) ?_ 2 _ rfl; refine upO ?_; refine blk_put (cs := #[.int .i8 ((rd_T85 ((rd_T90 l1 x16_1).f1) x38_2).f0), .int .i64 0, .string (⟨#[]⟩ : ByteArray)]) ?_ 1 _ rfl; refine upO ?_; refine blk_put (cs := #[.int .i8 0, .int .i64 0, .string (⟨#[]⟩ : ByteArray)]) ?_ 0 _ rfl; exact upO BK274.out⟩
               have n3_ : Aside0 (Kept w (((w40.setCell ⟨gb274, 0, none⟩ (.int .i8 ((rd_T85 ((rd_T90 l1 x16_1).f1) x38_2).f0))).setCell ⟨gb274, 1, none⟩ (.int .i64 ((rd_T85 ((rd_T90 l1 x16_1).f1) x38_2).f1))).setCell ⟨gb274, 2, none⟩ (.string ((rd_T85 ((rd_T90 l1 x16_1).f1) x38_2).f2))) (fun k_ => P0_ k_)) := ⟨by repeat (first | (with_reducible first | exact HK.out | apply Kept.alloc | apply Kept.drewN | apply Kept.drew | refine Kept.setCell ?_ (.inr GW263.out) _ | refine Kept.setCell ?_ (.inr GW274.out) _) | exact HK.out)⟩
               have n4_ : Aside0 (Below w0.heap.size w0 (((w40.setCell ⟨gb274, 0, none⟩ (.int .i8 ((rd_T85 ((rd_T90 l1 x16_1).f1) x38_2).f0))).setCell ⟨gb274, 1, none⟩ (.int .i64 ((rd_T85 ((rd_T90 l1 x16_1).f1) x38_2).f1))).setCell ⟨gb274, 2, none⟩ (.string ((rd_T85 ((rd_T90 l1 x16_1).f1) x38_2).f2)))) := ⟨upB HB.out⟩
               (try clear HO_0)
               (try clear BK263)
               (try clear BK274)
               (try clear HK)
               (try clear HB)
               generalize (((w40.setCell ⟨gb274, 0, none⟩ (.int .i8 ((rd_T85 ((rd_T90 l1 x16_1).f1) x38_2).f0))).setCell ⟨gb274, 1, none⟩ (.int .i64 ((rd_T85 ((rd_T90 l1 x16_1).f1) x38_2).f1))).setCell ⟨gb274, 2, none⟩ (.string ((rd_T85 ((rd_T90 l1 x16_1).f1) x38_2).f2))) = w43 at n0_ n1_ n2_ n3_ n4_ ⊢
               have HO_0 := n0_
               have BK263 := n1_
               have BK274 := n2_
               have HK := n3_
               have HB := n4_
               clear n0_ n1_ n2_ n3_ n4_
               have n0_ := Aside0.mk (Kd.R_drew HO_0.out)
               have n1_ := Aside0.mk (blk_drew BK263.out)
               have n2_ := Aside0.mk (blk_drew BK274.out)
               have n3_ := Aside0.mk (Kept.drew HK.out)
               have n4_ := Aside0.mk (below_drew1 HB.out)
               clear HO_0
               clear BK263
               clear BK274
               clear HK
               clear HB
               have HO_0 := n0_
               have BK263 := n1_
               have BK274 := n2_
               have HK := n3_
               have HB := n4_
               clear n0_ n1_ n2_ n3_ n4_
               refine start_ (n := 12) (S := fun w' => w'.cell? ⟨gb274, 0, none⟩ = some (.int .i8 ((rd_T85 ((rd_T90 l1 x16_1).f1) x38_2).f0)) ∧ w'.cell? ⟨gb274, 1, none⟩ = some (.int .i64 ((rd_T85 ((rd_T90 l1 x16_1).f1) x38_2).f1)) ∧ w'.cell? ⟨gb274, 2, none⟩ = some (.string ((rd_T85 ((rd_T90 l1 x16_1).f1) x38_2).f2))) (ds := []) #[false,false,false,false,false,false,false,false,false,false,false,false] (by kernel_rfl) rfl rfl ⟨(blk_cell BK274.out 0).trans rfl, (blk_cell BK274.out 1).trans rfl, (blk_cell BK274.out 2).trans rfl⟩ (fun hHeld => ?_); refine with_tabW journal_putFacts.tab12 journal_putFacts.bits12 (fun HT_ HW_ => ?_)
               generalize w43.drew = w44 at HO_0 BK263 BK274 HK HB hHeld ⊢
               refine pureS 0 (some 52) HT_ ?_
               refine pureS 3 (some 55) HT_ ?_
               refine pureS 8 (some 60) HT_ ?_
               refine takeS 4 (some 56) HT_ HW_ hHeld ?_
               refine pureS 5 (some 57) HT_ ?_
               refine pureS 6 (some 58) HT_ ?_
               refine takeS 9 (some 61) HT_ HW_ hHeld ?_
               refine one_ (i := 1) (N := some 53) #[true, true, false, true, true, true, true, false, true, true, false,false] rfl rfl (one_of HT_.out (by kernel_rfl)) (by decide) (fun K hK => ?_)
               refine value_ (w1 := ?_) (v := ?_) (by rfl) rfl ?_ ?_
               rotate_left 2
               ·go_simp
                constructor
                ·rfl
                ·rfl
               refine hK.out _ _ ⟨(blk_cell (blk_alloc BK274.out _) 0).trans rfl, (blk_cell (blk_alloc BK274.out _) 1).trans rfl, (blk_cell (blk_alloc BK274.out _) 2).trans rfl⟩ (fun hHeld => ?_)
               clear hK K
               refine normS (some 53) ?_
               refine one_ (i := 2) (N := some 54) #[true, true, true, true, true, true, true, false, true, true, false,false] rfl rfl (one_of HT_.out (by kernel_rfl)) (by decide) (fun K hK => ?_)
               refine Kd.R_append_step (Kd.int .u8) (w0 := w0) w0.heap.size (by rfl) (.tmp 52) (.tmp 53) 78 5 (.int .u8 0) 1 rfl Tryz.underlying78 info5 rfl (by decide) (by omega) u0 x0_2 84 [.int .u8 84] (fun k_ => (P0_ k_ ∨ w.heap.size ≤ k_)) (fun _ => False) rfl rfl ?aP (fun _ hk => hk.elim) ?aF ?aO ?aB ?aS ?aL ?_
               (case aP => exact rfl)
               (case aB => exact (upB HB.out))
               (case aF => exact (fun k_ hk => (.inr (Nat.le_trans (by first | exact HK.out.1 | exact (show Kept w _ (fun k_ => P0_ k_) from by repeat (first | (with_reducible first | exact HK.out | apply Kept.alloc | apply Kept.drewN | apply Kept.drew | refine Kept.setCell ?_ (.inr GW263.out) _ | refine Kept.setCell ?_ (.inr GW274.out) _) | exact HK.out)).1) hk))))
               (case aO => exact (upR HO_0.out))
               (case aS => exact (below_size (upB HB.out)))
               (case aL => have := LMc37.out; omega)
               intro v282 w45 ho hb hg hat
               rw [← Ny281.out] at ho
               have n0_ := Aside0.mk (blk_grown (g := gb263) (o := .cells #[.string ((rd_T90 l1 x16_1).f0), .slice (some ad273) ((rd_T90 l1 x16_1).f1).length c262_1] 90 (0, 0)) (upO BK263.out) hg (Kd.R_ne HO_0.out BK263.out (by decide)))
               have n1_ := Aside0.mk (blk_grown (g := gb274) (o := .cells #[.int .i8 ((rd_T85 ((rd_T90 l1 x16_1).f1) x38_2).f0), .int .i64 ((rd_T85 ((rd_T90 l1 x16_1).f1) x38_2).f1), .string ((rd_T85 ((rd_T90 l1 x16_1).f1) x38_2).f2)] 85 (0, 0)) (upO BK274.out) hg (Kd.R_ne HO_0.out BK274.out (by decide)))
               have n2_ := Aside0.mk (hb)
               have n3_ := Aside0.mk (Kept.of_grown (S := (fun k_ => P0_ k_)) hg (by repeat (first | (with_reducible first | exact HK.out | apply Kept.alloc | apply Kept.drewN | apply Kept.drew | refine Kept.setCell ?_ (.inr GW263.out) _ | refine Kept.setCell ?_ (.inr GW274.out) _) | exact HK.out)) (fun k_ e_ => (HO_0.out.1 k_ e_)))
               have n4_ := Aside0.mk (ho)
               clear BK263
               clear BK274
               clear HB
               clear HK
               clear HO_0
               have BK263 := n0_
               have BK274 := n1_
               have HB := n2_
               have HK := n3_
               have HO283 := n4_
               clear n0_ n1_ n2_ n3_ n4_
               clear ho hb hg hat
               obtain ⟨Ao46, co46, eo46⟩ := Kd.R_slice HO283.out
               (first | subst eo46 | (injection eo46 with f1_ f2_ f3_; have f4_ := f1_.symm; have f5_ := f3_.symm; clear f1_ f2_ f3_; subst f4_; subst f5_))
               refine hK.out _ _ ⟨(blk_cell BK274.out 0).trans rfl, (blk_cell BK274.out 1).trans rfl, (blk_cell BK274.out 2).trans rfl⟩ (fun hHeld => ?_)
               clear hK K
               refine normS (some 54) ?_
               refine one_ (i := 7) (N := some 59) #[true, true, true, true, true, true, true, true, true, true, false,false] rfl rfl (one_of HT_.out (by kernel_rfl)) (by decide) (fun K hK => ?_)
               refine goes_ Tryz.func86 (by kernel_rfl) rfl #[.slice Ao46 y281.length co46, .int .u8 (((((rd_T85 ((rd_T90 l1 x16_1).f1) x38_2).f2).size : Int)) % 256), .int .i64 1] (by rfl) rfl rfl (by (try simp only [List.map_toArray, List.map_cons, List.map_nil]); first | done | rfl | (simp only [List.length_drop, List.length_take]; rfl)) ?_
               with_reducible refine (journal_put_uint8.calls k2 (fun k_ => some k_ = (.slice Ao46 y281.length co46 : Value).ownBlock) (.slice Ao46 y281.length co46) y281 (((((rd_T85 ((rd_T90 l1 x16_1).f1) x38_2).f2).size : Int)) % 256) 1 t284 w0 _ ?side1 ?side2 A38.out).mono ?_
               (case side1 => exact upB HB.out)
               (case side2 => exact Kd.R_tight rfl HO283.out)
               rintro e w47 ⟨v285, rfl, ho0, hb, hkp⟩
               refine ⟨_, rfl, ?_⟩
               have n0_ := Aside0.mk (blk_kept (upO BK263.out) hkp (fun hs_ => (fun e_ => (Kd.R_ne HO283.out BK263.out (by decide)) e_) hs_))
               have n1_ := Aside0.mk (blk_kept (upO BK274.out) hkp (fun hs_ => (fun e_ => (Kd.R_ne HO283.out BK274.out (by decide)) e_) hs_))
               have n2_ := Aside0.mk (Kd.R_mono (ok' := fun k_ => (P0_ k_ ∨ w.heap.size ≤ k_)) ho0 (fun k_ hk_ => Or.elim hk_ (fun hs_ => (HO283.out.1 k_ (hs_).symm)) (fun hn_ => (.inr (Nat.le_trans (by first | exact HK.out.1 | exact (show Kept w _ (fun k_ => P0_ k_) from by repeat (first | (with_reducible first | exact HK.out | apply Kept.alloc | apply Kept.drewN | apply Kept.drew | refine Kept.setCell ?_ (.inr GW263.out) _ | refine Kept.setCell ?_ (.inr GW274.out) _) | exact HK.out)).1) hn_)))))
               have n3_ := Aside0.mk (Kept.then_ (S := (fun k_ => P0_ k_)) (by repeat (first | (with_reducible first | exact HK.out | apply Kept.alloc | apply Kept.drewN | apply Kept.drew | refine Kept.setCell ?_ (.inr GW263.out) _ | refine Kept.setCell ?_ (.inr GW274.out) _) | exact HK.out)) hkp (fun k_ hs_ => (fun e_ => (HO283.out.1 k_ e_.symm)) hs_))
               have n4_ := Aside0.mk (hb)
               clear BK263
               clear BK274
               clear HK
               clear HB
               clear HO283
               have BK263 := n0_
               have BK274 := n1_
               have HO286 := n2_
               have HK := n3_
               have HB := n4_
               clear n0_ n1_ n2_ n3_ n4_
               (try clear hb)
               (try clear hkp)
               (try clear ho0)
               refine hK.out _ _ ⟨(blk_cell BK274.out 0).trans rfl, (blk_cell BK274.out 1).trans rfl, (blk_cell BK274.out 2).trans rfl⟩ (fun hHeld => ?_)
               clear hK K
               refine normS (some 59) ?_
               refine one_ (i := 10) (N := some 62) #[true, true, true, true, true, true, true, true, true, true, true, false] rfl rfl (one_of HT_.out (by kernel_rfl)) (by decide) (fun K hK => ?_)
               refine Go.Proofs.J.print_append_str_step (w0 := w0) w0.heap.size (by rfl) (.tmp 59) _ 78 9 5 rfl Tryz.underlying78 Tryz.underlying9 info5 v285 t284 ((rd_T85 ((rd_T90 l1 x16_1).f1) x38_2).f2) rfl rfl ?aO ?aB ?aS ?aL ?_
               (case aB => exact (upB HB.out))
               (case aO => exact (Kd.own_of_R (upR HO286.out)))
               (case aS => exact (below_size (upB HB.out)))
               (case aL => have := LMc39.out; omega)
               intro v288 w48 ho0 hb hg hat
               have ho := Kd.R_of_own (h1 := fun _ => rfl) (ok := fun k_ => P0_ k_ ∨ w.heap.size ≤ k_) ho0 (fun k_ e_ => hat.elim (fun h_ => HO286.out.1 k_ (h_.symm.trans e_)) (fun ⟨b_, h_, z_⟩ => .inr (by have y_ := h_.symm.trans e_; injection y_ with y_; rw [← y_]; exact Nat.le_trans (by first | exact HK.out.1 | exact (show Kept w _ (fun k_ => P0_ k_) from by repeat (first | (with_reducible first | exact HK.out | apply Kept.alloc | apply Kept.drewN | apply Kept.drew | refine Kept.setCell ?_ (.inr GW263.out) _ | refine Kept.setCell ?_ (.inr GW274.out) _) | exact HK.out)).1) z_)))
               clear ho0
               rw [← Ny287.out] at ho
               change Kd.R (Kd.int .u8) 5 w48 w0.heap.size (fun k_ => (P0_ k_ ∨ w.heap.size ≤ k_)) v288 y287 at ho
               have n0_ := Aside0.mk (blk_grown (g := gb263) (o := .cells #[.string ((rd_T90 l1 x16_1).f0), .slice (some ad273) ((rd_T90 l1 x16_1).f1).length c262_1] 90 (0, 0)) (upO BK263.out) hg (Kd.R_ne HO286.out BK263.out (by decide)))
               have n1_ := Aside0.mk (blk_grown (g := gb274) (o := .cells #[.int .i8 ((rd_T85 ((rd_T90 l1 x16_1).f1) x38_2).f0), .int .i64 ((rd_T85 ((rd_T90 l1 x16_1).f1) x38_2).f1), .string ((rd_T85 ((rd_T90 l1 x16_1).f1) x38_2).f2)] 85 (0, 0)) (upO BK274.out) hg (Kd.R_ne HO286.out BK274.out (by decide)))
               have n2_ := Aside0.mk (hb)
               have n3_ := Aside0.mk (Kept.of_grown (S := (fun k_ => P0_ k_)) hg (by repeat (first | (with_reducible first | exact HK.out | apply Kept.alloc | apply Kept.drewN | apply Kept.drew | refine Kept.setCell ?_ (.inr GW263.out) _ | refine Kept.setCell ?_ (.inr GW274.out) _) | exact HK.out)) (fun k_ e_ => (HO286.out.1 k_ e_)))
               have n4_ := Aside0.mk (ho)
               clear BK263
               clear BK274
               clear HB
               clear HK
               clear HO286
               have BK263 := n0_
               have BK274 := n1_
               have HB := n2_
               have HK := n3_
               have HO289 := n4_
               clear n0_ n1_ n2_ n3_ n4_
               clear ho hb hg hat
               refine hK.out _ _ ⟨(blk_cell BK274.out 0).trans rfl, (blk_cell BK274.out 1).trans rfl, (blk_cell BK274.out 2).trans rfl⟩ (fun hHeld => ?_)
               clear hK K
               refine normS (some 62) ?_
               refine pureS 11 (some 0) HT_ ?_
               refine done_ (done_of HT_.out (by kernel_rfl)) ?_
               try go_wp2
               go_roundg k2
               case measure => have := HK1.out; have := HK2.out; omega
               case rel => exact ⟨(y287), (wrap64 (x38_2 + 1)), eqS, H', ⟨by have := HK1.out; have := HK2.out; omega⟩, ⟨upR HO289.out⟩, ⟨upO BK263.out⟩, ⟨by repeat (first | (with_reducible first | exact HK.out | apply Kept.alloc | apply Kept.drewN | apply Kept.drew | refine Kept.setCell ?_ (.inr GW263.out) _ | refine Kept.setCell ?_ (.inr GW274.out) _) | exact HK.out)⟩, ⟨upB HB.out⟩⟩
              ·rw [if_neg c39] at H
               exact absurd H (by simp)
             ·rw [if_neg c37] at H
              exact absurd H (by simp)
           ·rw [if_neg c25] at H
            exact absurd H (by simp)
          ·rw [if_neg c24] at H
           exact absurd H (by simp)
         ·rw [if_neg c23] at H
          have c23b0 := decide_eq_false c23
          clear c23
          have H' := Aside0.mk H
          clear H
          go_wp2
          go_roundg k2
          case measure => have := HK1.out; have := HK2.out; omega
          case rel => exact ⟨(x0_2), (wrap64 (x16_1 + 1)), eqS, H', ⟨by have := HK1.out; have := HK2.out; omega⟩, ⟨upR HO_0.out⟩, ⟨by repeat (first | (with_reducible first | exact HK.out | apply Kept.alloc | apply Kept.drewN | apply Kept.drew | refine Kept.setCell ?_ (.inr GW263.out) _) | exact HK.out)⟩, ⟨upB HB.out⟩⟩
      ·rw [if_neg c10] at H
       exact absurd H (by simp)
     ·rw [if_neg c8] at H
      exact absurd H (by simp)
    ·rw [if_neg c7] at H
     exact absurd H (by simp)
   ·rw [if_neg c6] at H
    have c6b0 := decide_eq_false c6
    clear c6
    obtain rfl := Option.some.inj H
    go_wp2
    go_ret
    exact ⟨_, eqE, upR HO_0.out, upB HB.out, by repeat (first | (with_reducible first | exact HK.out | apply Kept.alloc | apply Kept.drewN | apply Kept.drew) | exact HK.out)⟩
end Go.Proofs.J.Print
end
section
namespace Go.Proofs.J.Print
open Go.RowKit Go.Proofs.PrintWords Go.Proofs.PrintLast Go.Proofs.PrintMore
mutual
def journal_Sum.l0 : Nat → ByteArray → Int → Int → Int → Option (Int)
 | 0, _, _, _, _ => none
 | k + 1, x0, x3, x7, x8 => if x8 < x7 then (if 0 ≤ x8 then (if x8 < (x0.size : Int) then (journal_Sum.l1 k x0 (Go.bits .xor .u16 x3 (IntKind.u16.wrap ((IntKind.u16.wrap (bt x0 x8)) * 256))) x7 x8 0) else (none)) else (none)) else (some x3)
def journal_Sum.l1 : Nat → ByteArray → Int → Int → Int → Int → Option (Int)
 | 0, _, _, _, _, _ => none
 | k + 1, x0, x3, x7, x8, x18 => if x18 < 8 then (if (Go.bits .and .u16 x3 32768) = 0 then (journal_Sum.l1 k x0 (IntKind.u16.wrap (x3 * 2)) x7 x8 (wrap64 (x18 + 1))) else (journal_Sum.l1 k x0 (Go.bits .xor .u16 (IntKind.u16.wrap (x3 * 2)) 4129) x7 x8 (wrap64 (x18 + 1)))) else (journal_Sum.l0 k x0 x3 x7 (wrap64 (x8 + 1)))
end
def journal_Sum.f (k : Nat) (a0 : ByteArray) : Option (Int) := journal_Sum.l0 k a0 65535 (a0.size : Int) 0
set_option maxHeartbeats 8000000 in
set_option maxRecDepth 100000 in
theorem journal_Sum.calls (k : Nat) (a0 : ByteArray) (r : Int) (w : World) (h : journal_Sum.f k a0 = some r) :
  Calls Tryz.prog 32 #[.string a0] w fun e w' => e = .returned (.int .u16 r) ∧ Drawn0 w w' := by
 have H : (journal_Sum.l0 k a0 65535 (a0.size : Int) 0) = some r := h
 clear h
 have H' := Aside0.mk H
 clear H
 go_enter Tryz.func32, Tryz.ntmps32
 go_wp2
 go_loopg [3, 8] k (fun kq v3 v8 w' => ∃ (x3_1 : Int) (x8_1 : Int), v3 = .int .u16 x3_1 ∧ v8 = .int .i64 x8_1 ∧ Aside0 (journal_Sum.l0 kq a0 x3_1 (a0.size : Int) x8_1 = some r) ∧ Aside0 (kq ≤ k) ∧ Drawn0 w w')
 case atStart => exact ⟨(65535), (0), eqS, eqS, H', ⟨Nat.le_refl _⟩, by repeat (first | exact Drawn0.refl _ | apply Drawn0.step)⟩
 case round =>
  clear H'
  obtain ⟨x3_1, x8_1, rfl, rfl, HA, HK1, ⟨m1, rfl⟩⟩ := hrel
  cases gk with
  | zero => exact absurd HA.out (by simp [journal_Sum.l0])
  | succ k1 =>
   have H := HA.out
   clear HA
   simp only [journal_Sum.l0] at H
   by_cases c2 : x8_1 < (a0.size : Int)
   ·rw [if_pos c2] at H
    have c2b0 := decide_eq_true c2
    clear c2
    by_cases c3 : 0 ≤ x8_1
    ·rw [if_pos c3] at H
     have c3b0 := decide_eq_true c3
     clear c3
     by_cases c4 : x8_1 < (a0.size : Int)
     ·rw [if_pos c4] at H
      have c4b0 := decide_eq_true c4
      clear c4
      have H' := Aside0.mk H
      clear H
      have p5 : 0 ≤ (x8_1 : Int) := of_decide_eq_true byA
      have q5 : x8_1 < (a0.size : Int) := of_decide_eq_true byA
      have hx5 := bt_at a0 x8_1
      replace p5 := eq_true p5
      replace q5 := eq_true q5
      go_wp2
      go_loopg [3, 18] k1 (fun kq v3 v18 w' => ∃ (x3_2 : Int) (x18_2 : Int), v3 = .int .u16 x3_2 ∧ v18 = .int .i64 x18_2 ∧ Aside0 (journal_Sum.l1 kq a0 x3_2 (a0.size : Int) x8_1 x18_2 = some r) ∧ Aside0 (kq ≤ k1) ∧ Drawn0 w w')
      case atStart => exact ⟨(Go.bits .xor .u16 x3_1 (IntKind.u16.wrap ((IntKind.u16.wrap (bt a0 x8_1)) * 256))), (0), eqS, eqS, H', ⟨Nat.le_refl _⟩, by repeat (first | exact Drawn0.refl _ | apply Drawn0.step)⟩
      case round =>
       clear H'
       try clear c2
       try clear c2b0
       try clear p2
       try clear c3
       try clear c3b0
       try clear c4
       try clear c4b0
       try clear p5
       try clear q5
       try clear hx5
       try clear p5
       try clear q5
       obtain ⟨x3_2, x18_2, rfl, rfl, HA, HK2, ⟨m2, rfl⟩⟩ := hrel
       cases gk with
       | zero => exact absurd HA.out (by simp [journal_Sum.l1])
       | succ k2 =>
        have H := HA.out
        clear HA
        simp only [journal_Sum.l1] at H
        by_cases c6 : x18_2 < 8
        ·rw [if_pos c6] at H
         have c6b0 := decide_eq_true c6
         clear c6
         by_cases c7 : (Go.bits .and .u16 x3_2 32768) = 0
         ·rw [if_pos c7] at H
          have c7b0 : ((Go.bits .and .u16 x3_2 32768) == 0) = true := beq_iff_eq.mpr c7
          have c7b1 : ((Go.bits .and .u16 x3_2 32768) != 0) = false := bne_eq_false_iff_eq.mpr c7
          clear c7
          have H' := Aside0.mk H
          clear H
          go_wp2
          go_roundg k2
          case measure => have := HK1.out; have := HK2.out; omega
          case rel => exact ⟨(IntKind.u16.wrap (x3_2 * 2)), (wrap64 (x18_2 + 1)), eqS, eqS, H', ⟨by have := HK1.out; have := HK2.out; omega⟩, by repeat (first | exact Drawn0.refl _ | apply Drawn0.step)⟩
         ·rw [if_neg c7] at H
          have c7b0 : ((Go.bits .and .u16 x3_2 32768) == 0) = false := beq_eq_false_iff_ne.mpr c7
          have c7b1 : ((Go.bits .and .u16 x3_2 32768) != 0) = true := bne_iff_ne.mpr c7
          have H' := Aside0.mk H
          clear H
          go_wp2
          go_roundg k2
          case measure => have := HK1.out; have := HK2.out; omega
          case rel => exact ⟨(Go.bits .xor .u16 (IntKind.u16.wrap (x3_2 * 2)) 4129), (wrap64 (x18_2 + 1)), eqS, eqS, H', ⟨by have := HK1.out; have := HK2.out; omega⟩, by repeat (first | exact Drawn0.refl _ | apply Drawn0.step)⟩
        ·rw [if_neg c6] at H
         have c6b0 := decide_eq_false c6
         clear c6
         have H' := Aside0.mk H
         clear H
         go_wp2
         go_roundg k2
         case measure => have := HK1.out; have := HK2.out; omega
         case rel => exact ⟨(x3_2), (wrap64 (x8_1 + 1)), eqS, eqS, H', ⟨by have := HK1.out; have := HK2.out; omega⟩, by repeat (first | exact Drawn0.refl _ | apply Drawn0.step)⟩
     ·rw [if_neg c4] at H
      exact absurd H (by simp)
    ·rw [if_neg c3] at H
     exact absurd H (by simp)
   ·rw [if_neg c2] at H
    have c2b0 := decide_eq_false c2
    clear c2
    obtain rfl := Option.some.inj H
    go_wp2
    go_ret
    exact ⟨eqS, by repeat (first | exact Drawn0.refl _ | apply Drawn0.step)⟩
end Go.Proofs.J.Print
end
section
namespace Go.Proofs.J.Print
open Go.RowKit Go.Proofs.PrintWords Go.Proofs.PrintLast Go.Proofs.PrintMore
def journal_put_uint16.l0 : Nat → List Int → Int → Int → Int → Option (List Int)
 | 0, _, _, _, _ => none
 | k + 1, x0, x1, x7, x8 => if x8 < x7 then (if x0.length < 140737488355328 then (journal_put_uint16.l0 k (x0 ++ [(x1) % 256]) (IntKind.u16.wrap ((IntKind.u64.wrap (x1)) / 256)) x7 (wrap64 (x8 + 1))) else (none)) else (some x0)
def journal_put_uint16.f (k : Nat) (l0 : List Int) (a1 : Int) (a2 : Int) : Option (List Int) := journal_put_uint16.l0 k l0 a1 a2 0
set_option maxHeartbeats 8000000 in
set_option maxRecDepth 100000 in
theorem journal_put_uint16.calls (k : Nat) (P0_ : Nat → Prop) (u9000_ : Value) (l0 : List Int) (a1 : Int) (a2 : Int) (r : List Int) (w0 w : World) (hB : Below w0.heap.size w0 w) (ho0 : Kd.R (Kd.int .u8) 5 w w0.heap.size P0_ u9000_ l0) (h : journal_put_uint16.f k l0 a1 a2 = some r) :
  Calls Tryz.prog 87 #[u9000_, .int .u16 a1, .int .i64 a2] w fun e w' => ∃ v0_ : Value, e = .returned (v0_) ∧ Kd.R (Kd.int .u8) 5 w' w0.heap.size (fun k_ => (P0_ k_ ∨ w.heap.size ≤ k_)) v0_ r ∧ Below w0.heap.size w0 w' ∧ Kept w w' (fun k_ => P0_ k_) := by
 have HO0 := Aside0.mk (show Kd.R (Kd.int .u8) 5 w w0.heap.size (fun k_ => (P0_ k_ ∨ w.heap.size ≤ k_)) u9000_ l0 from Kd.R_mono ho0 (fun k_ hk => (.inl hk)))
 have HK := Aside0.mk (Kept.refl w (fun k_ => P0_ k_))
 have HW0 := Aside0.mk hB.size
 have HB := Aside0.mk hB
 clear hB
 have H : (journal_put_uint16.l0 k l0 a1 a2 0) = some r := h
 clear h
 have H' := Aside0.mk H
 clear H
 go_enter Tryz.func87, Tryz.ntmps87
 go_wp2
 go_loopg [0, 1, 8] k (fun kq v0 v1 v8 w' => ∃ (x0_1 : List Int) (x1_1 : Int) (x8_1 : Int), v1 = .int .u16 x1_1 ∧ v8 = .int .i64 x8_1 ∧ Aside0 (journal_put_uint16.l0 kq x0_1 x1_1 a2 x8_1 = some r) ∧ Aside0 (kq ≤ k) ∧ Aside0 (Kd.R (Kd.int .u8) 5 w' w0.heap.size (fun k_ => (P0_ k_ ∨ w.heap.size ≤ k_)) v0 x0_1) ∧ Aside0 (Kept w w' (fun k_ => P0_ k_)) ∧ Aside0 (Below w0.heap.size w0 w'))
 case atStart => exact ⟨(l0), (a1), (0), eqS, eqS, H', ⟨Nat.le_refl _⟩, ⟨upR HO0.out⟩, ⟨by repeat (first | (with_reducible first | exact HK.out | apply Kept.alloc | apply Kept.drewN | apply Kept.drew) | exact HK.out)⟩, ⟨upB HB.out⟩⟩
 case round =>
  clear H'
  try clear p2
  obtain ⟨x0_1, x1_1, x8_1, rfl, rfl, HA, HK1, HO_0, HK, HB⟩ := hrel
  cases gk with
  | zero => exact absurd HA.out (by simp [journal_put_uint16.l0])
  | succ k1 =>
   have H := HA.out
   clear HA
   simp only [journal_put_uint16.l0] at H
   by_cases c4 : x8_1 < a2
   ·rw [if_pos c4] at H
    have c4b0 := decide_eq_true c4
    clear c4
    by_cases c5 : x0_1.length < 140737488355328
    ·rw [if_pos c5] at H
     have LMc5 := Aside0.mk c5
     clear c5
     obtain ⟨y290, hy290⟩ : ∃ y_ : List Int, y_ = (x0_1 ++ [(x1_1) % 256]) := ⟨_, rfl⟩
     replace H : (journal_put_uint16.l0 k1 y290 (IntKind.u16.wrap ((IntKind.u64.wrap (x1_1)) / 256)) a2 (wrap64 (x8_1 + 1))) = some r := by first | (rw [hy290]; with_reducible exact H) | (have H2_ := (Option.bind_some _ _).symm.trans H; rw [hy290]; with_reducible exact H2_) | (have H2_ := (Option.bind_some _ _).symm.trans H; with_reducible exact H2_) | with_reducible exact H | (rw [hy290]; exact H) | exact H
     have Ny290 := Aside0.mk hy290
     clear hy290
     have H' := Aside0.mk H
     clear H
     go_wp2_with (first | ((with_reducible refine gate_builtin (b := .append) (xs := #[.tmp 10, .tmp 13]) rfl ?_); at_builtin; refine Kd.R_append (Kd.int .u8) (w0 := w0) w0.heap.size rfl (.tmp 10) (.tmp 13) 78 5 (.int .u8 0) 1 rfl Tryz.underlying78 info5 rfl (by decide) (by omega) u0 x0_1 ((x1_1) % 256) [.int .u8 ((x1_1) % 256)] (fun k_ => (P0_ k_ ∨ w.heap.size ≤ k_)) (fun _ => False) rfl rfl ?aP (fun _ hk => hk.elim) ?aF ?aO ?aB ?aS ?aL ?_; (case aP => exact rfl); (case aB => exact (upB HB.out)); (case aF => exact (fun k_ hk => (.inr (Nat.le_trans (by first | exact HK.out.1 | exact (show Kept w _ (fun k_ => P0_ k_) from by repeat (first | (with_reducible first | exact HK.out | apply Kept.alloc | apply Kept.drewN | apply Kept.drew) | exact HK.out)).1) hk)))); (case aO => exact (upR HO_0.out)); (case aS => exact (below_size (upB HB.out))); (case aL => have := LMc5.out; omega); intro v291 w6 ho hb hg hat; rw [← Ny290.out] at ho; have n0_ := Aside0.mk (hb); have n1_ := Aside0.mk (Kept.of_grown (S := (fun k_ => P0_ k_)) hg (by repeat (first | (with_reducible first | exact HK.out | apply Kept.alloc | apply Kept.drewN | apply Kept.drew) | exact HK.out)) (fun k_ e_ => (HO_0.out.1 k_ e_))); have n2_ := Aside0.mk (ho); clear HB; clear HK; clear HO_0; have HB := n0_; have HK := n1_; have HO292 := n2_; clear n0_ n1_ n2_; clear ho hb hg hat))
     go_roundg k1
     case measure => have := HK1.out; omega
     case rel => exact ⟨(y290), (IntKind.u16.wrap ((IntKind.u64.wrap (x1_1)) / 256)), (wrap64 (x8_1 + 1)), eqS, eqS, H', ⟨by have := HK1.out; omega⟩, ⟨upR HO292.out⟩, ⟨by repeat (first | (with_reducible first | exact HK.out | apply Kept.alloc | apply Kept.drewN | apply Kept.drew) | exact HK.out)⟩, ⟨upB HB.out⟩⟩
    ·rw [if_neg c5] at H
     exact absurd H (by simp)
   ·rw [if_neg c4] at H
    have c4b0 := decide_eq_false c4
    clear c4
    obtain rfl := Option.some.inj H
    go_wp2
    go_ret
    exact ⟨_, eqE, upR HO_0.out, upB HB.out, by repeat (first | (with_reducible first | exact HK.out | apply Kept.alloc | apply Kept.drewN | apply Kept.drew) | exact HK.out)⟩
end Go.Proofs.J.Print
end
section
namespace Go.Proofs.J.Print
open Go.RowKit Go.Proofs.PrintWords Go.Proofs.PrintLast Go.Proofs.PrintMore
def journal_frame.f (k : Nat) (l0 : List Int) : Option (ByteArray) := (journal_put_uint32.f k ([] : List Int) (((l0.length : Int)) % 4294967296) 4).bind fun t293 => ((journal_put_uint32.f k t293 (Go.bits .xor .u32 4294967295 (((l0.length : Int)) % 4294967296)) 4).bind fun t296 => (if t296.length + l0.length < 140737488355328 then ((journal_Sum.f k (strOfNums l0)).bind fun t302 => ((journal_put_uint16.f k (t296 ++ l0) t302 2).bind fun t303 => (some (strOfNums t303)))) else (none)))
set_option maxHeartbeats 8000000 in
set_option maxRecDepth 100000 in
theorem journal_frame.calls (k : Nat) (A0 : Option Addr) (c0 : Nat) (l0 : List Int) (r : ByteArray) (w : World) (hr0 : Kd.C (Kd.int .u8) w A0 l0.length l0) (hc0 : l0.length ≤ c0) (h : journal_frame.f k l0 = some r) :
  Calls Tryz.prog 27 #[.slice A0 l0.length c0] w fun e w' => e = .returned (.string r) ∧ Below w.heap.size w w' := by
 have HR0 := Aside0.mk hr0
 have HC0 := Aside0.mk hc0
 clear hr0 hc0
 have HB := Aside0.mk (Below.refl w.heap.size w)
 have H : ((journal_put_uint32.f k ([] : List Int) (((l0.length : Int)) % 4294967296) 4).bind fun t293 => ((journal_put_uint32.f k t293 (Go.bits .xor .u32 4294967295 (((l0.length : Int)) % 4294967296)) 4).bind fun t296 => (if t296.length + l0.length < 140737488355328 then ((journal_Sum.f k (strOfNums l0)).bind fun t302 => ((journal_put_uint16.f k (t296 ++ l0) t302 2).bind fun t303 => (some (strOfNums t303)))) else (none)))) = some r := h
 clear h
 replace H := Option.bind_eq_some_iff.mp H
 obtain ⟨t293, A20, H⟩ := H
 replace H : ((journal_put_uint32.f k t293 (Go.bits .xor .u32 4294967295 (((l0.length : Int)) % 4294967296)) 4).bind fun t296 => (if t296.length + l0.length < 140737488355328 then ((journal_Sum.f k (strOfNums l0)).bind fun t302 => ((journal_put_uint16.f k (t296 ++ l0) t302 2).bind fun t303 => (some (strOfNums t303)))) else (none))) = some r := H
 have A2 := Aside0.mk A20
 clear A20
 replace H := Option.bind_eq_some_iff.mp H
 obtain ⟨t296, A30, H⟩ := H
 replace H : (if t296.length + l0.length < 140737488355328 then ((journal_Sum.f k (strOfNums l0)).bind fun t302 => ((journal_put_uint16.f k (t296 ++ l0) t302 2).bind fun t303 => (some (strOfNums t303)))) else (none)) = some r := H
 have A3 := Aside0.mk A30
 clear A30
 by_cases c4 : t296.length + l0.length < 140737488355328
 ·rw [if_pos c4] at H
  have LMc4 := Aside0.mk c4
  clear c4
  obtain ⟨y299, hy299⟩ : ∃ y_ : List Int, y_ = (t296 ++ l0) := ⟨_, rfl⟩
  replace H : ((journal_Sum.f k (strOfNums l0)).bind fun t302 => ((journal_put_uint16.f k y299 t302 2).bind fun t303 => (some (strOfNums t303)))) = some r := by first | (rw [hy299]; with_reducible exact H) | (have H2_ := (Option.bind_some _ _).symm.trans H; rw [hy299]; with_reducible exact H2_) | (have H2_ := (Option.bind_some _ _).symm.trans H; with_reducible exact H2_) | with_reducible exact H | (rw [hy299]; exact H) | exact H
  have Ny299 := Aside0.mk hy299
  clear hy299
  replace H := Option.bind_eq_some_iff.mp H
  obtain ⟨t302, A50, H⟩ := H
  replace H : ((journal_put_uint16.f k y299 t302 2).bind fun t303 => (some (strOfNums t303))) = some r := H
  have A5 := Aside0.mk A50
  clear A50
  replace H := Option.bind_eq_some_iff.mp H
  obtain ⟨t303, A60, H⟩ := H
  replace H : (some (strOfNums t303)) = some r := H
  have A6 := Aside0.mk A60
  clear A60
  obtain rfl := Option.some.inj H
  go_enter Tryz.func27, Tryz.ntmps27
  go_wp2_with (first | ((with_reducible refine gate_callee (f := 85) rfl ?_); refine goesS (some 9) Tryz.func85 #[.slice none 0 0, .int .u32 (((l0.length : Int)) % 4294967296), .int .i64 4] ?_; (refine (journal_put_uint32.calls k (fun k_ => some k_ = (.slice none 0 0 : Value).ownBlock) (.slice none 0 0) ([] : List Int) (((l0.length : Int)) % 4294967296) 4 t293 w _ ?side1 ?side2 A2.out).mono ?_); (case side1 => exact upB HB.out); (case side2 => exact Kd.R_nil _ _ _ _ _); rintro e w7 ⟨v294, rfl, ho0, hb, hkp⟩; refine ⟨_, rfl, ?_⟩; have n0_ := Aside0.mk (Kd.R_mono (ok' := fun k_ => True) ho0 (fun k_ hk_ => trivial)); have n1_ := Aside0.mk (hb); clear HB; have HO295 := n0_; have HB := n1_; clear n0_ n1_; (try clear hb); (try clear hkp); (try clear ho0); obtain ⟨Ao8, co8, eo8⟩ := Kd.R_slice HO295.out; subst eo8) | ((with_reducible refine gate_callee (f := 85) rfl ?_); refine goesS (some 12) Tryz.func85 #[.slice Ao8 t293.length co8, .int .u32 (Go.bits .xor .u32 4294967295 (((l0.length : Int)) % 4294967296)), .int .i64 4] ?_; (with_reducible refine (journal_put_uint32.calls k (fun k_ => some k_ = (.slice Ao8 t293.length co8 : Value).ownBlock) (.slice Ao8 t293.length co8) t293 (Go.bits .xor .u32 4294967295 (((l0.length : Int)) % 4294967296)) 4 t296 w _ ?side1 ?side2 A3.out).mono ?_); (case side1 => exact upB HB.out); (case side2 => exact Kd.R_tight rfl HO295.out); rintro e w9 ⟨v297, rfl, ho0, hb, hkp⟩; refine ⟨_, rfl, ?_⟩; have n0_ := Aside0.mk (Kd.R_mono (ok' := fun k_ => True) ho0 (fun k_ hk_ => trivial)); have n1_ := Aside0.mk (hb); clear HB; clear HO295; have HO298 := n0_; have HB := n1_; clear n0_ n1_; (try clear hb); (try clear hkp); (try clear ho0)) | ((with_reducible refine gate_builtin (b := .append) (xs := #[.tmp 13, .tmp 14]) rfl ?_); at_builtin; refine Kd.R_append_rows (Kd.int .u8) (w0 := w) w.heap.size rfl (.tmp 13) (.tmp 14) 78 5 (.int .u8 0) 1 rfl Tryz.underlying78 info5 rfl (by decide) (by omega) v297 t296 l0 _ _ _ (fun _ => True) (fun _ => False) rfl rfl ?aO ?aR (fun _ _ h => h) (fun _ h => h.elim) ?aF ?aB ?aS ?aL ?_; (case aR => exact upC (Kd.C_below HR0.out HB.out)); (case aB => exact (upB HB.out)); (case aF => exact (fun _ _ => trivial)); (case aO => exact (upR HO298.out)); (case aS => exact (below_size (upB HB.out))); (case aL => have := LMc4.out; omega); intro v300 w10 ho hb hg hat; rw [← Ny299.out] at ho; have n0_ := Aside0.mk (hb); have n1_ := Aside0.mk (ho); clear HB; clear HO298; have HB := n0_; have HO301 := n1_; clear n0_ n1_; clear ho hb hg hat; have hcv11 := Kd.C_string (P := Tryz.prog) (A := A0) (c := c0) Tryz.underlying78 Tryz.underlying5 Tryz.underlying9 (Kd.C_below HR0.out HB.out)) | ((with_reducible refine gate_callee (f := 32) rfl ?_); refine goesS (some 19) Tryz.func32 #[.string (strOfNums l0)] ?_; (with_reducible refine (journal_Sum.calls k (strOfNums l0) t302 _ A5.out).mono ?_); rintro e w' ⟨rfl, ⟨nd, rfl⟩⟩; refine ⟨_, rfl, ?_⟩; obtain ⟨Ao12, co12, eo12⟩ := Kd.R_slice HO301.out; subst eo12) | ((with_reducible refine gate_callee (f := 87) rfl ?_); refine goesS (some 20) Tryz.func87 #[.slice Ao12 y299.length co12, .int .u16 t302, .int .i64 2] ?_; (with_reducible refine (journal_put_uint16.calls k (fun k_ => some k_ = (.slice Ao12 y299.length co12 : Value).ownBlock) (.slice Ao12 y299.length co12) y299 t302 2 t303 w _ ?side1 ?side2 A6.out).mono ?_); (case side1 => exact upB HB.out); (case side2 => exact Kd.R_tight rfl HO301.out); rintro e w13 ⟨v304, rfl, ho0, hb, hkp⟩; refine ⟨_, rfl, ?_⟩; have n0_ := Aside0.mk (Kd.R_mono (ok' := fun k_ => True) ho0 (fun k_ hk_ => trivial)); have n1_ := Aside0.mk (hb); clear HB; clear HO301; have HO305 := n0_; have HB := n1_; clear n0_ n1_; (try clear hb); (try clear hkp); (try clear ho0); have hcv14 := own_string (P := Tryz.prog) Tryz.underlying78 Tryz.underlying5 Tryz.underlying9 (Kd.own_of_R HO305.out)))
  go_ret
  exact ⟨eqE, upB HB.out⟩
 ·rw [if_neg c4] at H
  exact absurd H (by simp)
end Go.Proofs.J.Print
end
section
namespace Go.Proofs.J.Print
open Go.RowKit Go.Proofs.PrintWords Go.Proofs.PrintLast Go.Proofs.PrintMore
def journal_Encode.j0 : Nat → Bool → Int → List (S90) → List (S90) → Option (ByteArray × Int)
 | 0, _, _, _, _ => none
 | k + 1, x27, x307000, x307001, x307002 => if x27 = true then (some ((⟨#[]⟩ : ByteArray), 1)) else ((journal_put_uint64.f k (([67] : List Int)) (IntKind.u64.wrap (x307000)) 8).bind fun t313 => ((journal_putFacts.f k t313 x307001).bind fun t316 => ((journal_putFacts.f k t316 x307002).bind fun t319 => (if (t319.length : Int) > 16777216 then (some ((⟨#[]⟩ : ByteArray), 30)) else ((journal_frame.f k t319).bind fun t322 => (some (t322, 0)))))))
def journal_Encode.f (k : Nat) (a0_0 : Int) (l0_1 : List (S90)) (l0_2 : List (S90)) : Option (ByteArray × Int) := if a0_0 < 1 then (journal_Encode.j0 k true a0_0 l0_1 l0_2) else ((journal_rising.f k l0_1).bind fun t307 => (if t307 = true then ((journal_rising.f k l0_2).bind fun t308 => (if t308 = true then ((journal_apart.f k l0_1 l0_2).bind fun t309 => (journal_Encode.j0 k (!t309) a0_0 l0_1 l0_2)) else (journal_Encode.j0 k true a0_0 l0_1 l0_2))) else (journal_Encode.j0 k true a0_0 l0_1 l0_2)))
def journal_Encode.T4 : Bool × List (List Nat × List Nat) := (true, [([], []), ([], []), ([1], [1]), ([0, 2], [0, 2]), ([], []), ([4], [4]), ([3, 5, 3], [3, 5]), ([6, 6, 0, 1, 2, 3, 4, 5, 6], [0, 6])])
def journal_Encode.B4 : List Nat := [0, 0, 2, 7, 0, 16, 63, 127]
theorem journal_Encode.tab4 : rtab .any (opsOf Tryz.f9 4) = journal_Encode.T4 := by kernel_rfl
theorem journal_Encode.bits4 : waitsOk journal_Encode.T4.2 journal_Encode.B4 = true := by kernel_rfl
set_option maxHeartbeats 8000000 in
set_option maxRecDepth 100000 in
theorem journal_Encode.calls (k : Nat) (a0_0 : Int) (A0_1 : Option Addr) (c0_1 : Nat) (l0_1 : List (S90)) (A0_2 : Option Addr) (c0_2 : Nat) (l0_2 : List (S90)) (r1 : ByteArray) (r2 : Int) (w : World) (hr0_1 : Kd.C k90 w A0_1 l0_1.length l0_1) (hc0_1 : l0_1.length ≤ c0_1) (hr0_2 : Kd.C k90 w A0_2 l0_2.length l0_2) (hc0_2 : l0_2.length ≤ c0_2) (h : journal_Encode.f k a0_0 l0_1 l0_2 = some (r1, r2)) :
  Calls Tryz.prog 9 #[.agg #[.int .i64 a0_0, .slice A0_1 l0_1.length c0_1, .slice A0_2 l0_2.length c0_2]] w fun e w' => e = .returned (.tuple #[.string r1, .int .i64 r2]) ∧ Below w.heap.size w w' := by
 have hu24 := Tryz.underlying24
 have HR0_1 := Aside0.mk hr0_1
 have HC0_1 := Aside0.mk hc0_1
 clear hr0_1 hc0_1
 have HR0_2 := Aside0.mk hr0_2
 have HC0_2 := Aside0.mk hc0_2
 clear hr0_2 hc0_2
 have HB := Aside0.mk (Below.refl w.heap.size w)
 have H : (if a0_0 < 1 then (journal_Encode.j0 k true a0_0 l0_1 l0_2) else ((journal_rising.f k l0_1).bind fun t307 => (if t307 = true then ((journal_rising.f k l0_2).bind fun t308 => (if t308 = true then ((journal_apart.f k l0_1 l0_2).bind fun t309 => (journal_Encode.j0 k (!t309) a0_0 l0_1 l0_2)) else (journal_Encode.j0 k true a0_0 l0_1 l0_2))) else (journal_Encode.j0 k true a0_0 l0_1 l0_2)))) = some (r1, r2) := h
 clear h
 have HC2 := Aside0.mk H
 clear H
 go_enter Tryz.func9, Tryz.ntmps9
 go_upto_region 1 with (first | ((with_reducible refine gate_dst (N := 1) rfl ?_); refine boxS 1 #[.int .i64 a0_0, .slice A0_1 l0_1.length c0_1, .slice A0_2 l0_2.length c0_2] 24 ?_; intro gb306 hg w3 hbox hb; have n0_ := Aside0.mk (below_step (upB HB.out) hb); have n1_ := Aside0.mk (hbox); have n2_ := Aside0.mk (geB hg (upB HB.out) : w.heap.size ≤ gb306); have n3_ := Aside0.mk (geB hg (upB HB.out) : w.heap.size ≤ gb306); clear HB; have HB := n0_; have BK306 := n1_; have GW306 := n2_; have GE306 := n3_; clear n0_ n1_ n2_ n3_; clear hb hbox hg))
 (try simp only [Act.put, List.setIfInBounds_toArray, List.set_cons_zero, List.set_cons_succ])
 go_cut [27] (fun v27 wc => ∃ (kq : Nat) (x27_1 : Bool), v27 = .bool x27_1 ∧ Aside0 (journal_Encode.j0 kq x27_1 a0_0 l0_1 l0_2 = some (r1, r2)) ∧ Aside0 (kq ≤ k) ∧ Aside0 (wc.heap[gb306]? = some (.cells #[.int .i64 a0_0, (.slice A0_1 l0_1.length c0_1), (.slice A0_2 l0_2.length c0_2)] 24 (0, 0))) ∧ Aside0 (Below w.heap.size w wc))
 case first =>
  have H := HC2.out
  clear HC2
  by_cases c4 : a0_0 < 1
  ·rw [if_pos c4] at H
   have c4b0 := decide_eq_true c4
   clear c4
   (first | rw [c4b0] | (simp only [i64_w, i32_w]; rw [c4b0]) | skip)
   have H' := Aside0.mk H
   clear H
   have hcz5_0 : w3.cell? ⟨gb306, 0, none⟩ = some (.int .i64 a0_0) := (blk_cell BK306.out 0).trans rfl
   have hcz5_1 : w3.cell? ⟨gb306, 1, none⟩ = some (.slice A0_1 l0_1.length c0_1) := (blk_cell BK306.out 1).trans rfl
   have hcz5_2 : w3.cell? ⟨gb306, 2, none⟩ = some (.slice A0_2 l0_2.length c0_2) := (blk_cell BK306.out 2).trans rfl
   have hfz5_0 := blk_frozen BK306.out 0
   have hfz5_1 := blk_frozen BK306.out 1
   have hfz5_2 := blk_frozen BK306.out 2
   go_wp2
   go_meet
   case rel => exact ⟨_, (true), eqS, H', ⟨by first | omega | exact Nat.le_refl _⟩, ⟨upO BK306.out⟩, ⟨upB HB.out⟩⟩
  ·rw [if_neg c4] at H
   have c4b0 := decide_eq_false c4
   clear c4
   (first | rw [c4b0] | (simp only [i64_w, i32_w]; rw [c4b0]) | skip)
   replace H := Option.bind_eq_some_iff.mp H
   obtain ⟨t307, A60, H⟩ := H
   replace H : (if t307 = true then ((journal_rising.f k l0_2).bind fun t308 => (if t308 = true then ((journal_apart.f k l0_1 l0_2).bind fun t309 => (journal_Encode.j0 k (!t309) a0_0 l0_1 l0_2)) else (journal_Encode.j0 k true a0_0 l0_1 l0_2))) else (journal_Encode.j0 k true a0_0 l0_1 l0_2)) = some (r1, r2) := H
   have A6 := Aside0.mk A60
   clear A60
   by_cases c7 : t307 = true
   ·subst c7
    have H1 : ((journal_rising.f k l0_2).bind fun t308 => (if t308 = true then ((journal_apart.f k l0_1 l0_2).bind fun t309 => (journal_Encode.j0 k (!t309) a0_0 l0_1 l0_2)) else (journal_Encode.j0 k true a0_0 l0_1 l0_2))) = some (r1, r2) := by rw [if_pos rfl] at H; exact H
    clear H
    have H := H1
    clear H1
    replace H := Option.bind_eq_some_iff.mp H
    obtain ⟨t308, A80, H⟩ := H
    replace H : (if t308 = true then ((journal_apart.f k l0_1 l0_2).bind fun t309 => (journal_Encode.j0 k (!t309) a0_0 l0_1 l0_2)) else (journal_Encode.j0 k true a0_0 l0_1 l0_2)) = some (r1, r2) := H
    have A8 := Aside0.mk A80
    clear A80
    by_cases c9 : t308 = true
    ·subst c9
     have H1 : ((journal_apart.f k l0_1 l0_2).bind fun t309 => (journal_Encode.j0 k (!t309) a0_0 l0_1 l0_2)) = some (r1, r2) := by rw [if_pos rfl] at H; exact H
     clear H
     have H := H1
     clear H1
     replace H := Option.bind_eq_some_iff.mp H
     obtain ⟨t309, A100, H⟩ := H
     replace H : (journal_Encode.j0 k (!t309) a0_0 l0_1 l0_2) = some (r1, r2) := H
     have A10 := Aside0.mk A100
     clear A100
     have H' := Aside0.mk H
     clear H
     have hcz11_0 : w3.cell? ⟨gb306, 0, none⟩ = some (.int .i64 a0_0) := (blk_cell BK306.out 0).trans rfl
     have hcz11_1 : w3.cell? ⟨gb306, 1, none⟩ = some (.slice A0_1 l0_1.length c0_1) := (blk_cell BK306.out 1).trans rfl
     have hcz11_2 : w3.cell? ⟨gb306, 2, none⟩ = some (.slice A0_2 l0_2.length c0_2) := (blk_cell BK306.out 2).trans rfl
     have hfz11_0 := blk_frozen BK306.out 0
     have hfz11_1 := blk_frozen BK306.out 1
     have hfz11_2 := blk_frozen BK306.out 2
     go_wp2_with (first | (go_at_call 23; (with_reducible refine (journal_rising.calls k _ _ l0_1 true _ ?side1 ?side2 A6.out).mono ?_); (case side1 => exact upC (Kd.C_below HR0_1.out HB.out)); (case side2 => exact HC0_1.out); rintro e w12 ⟨rfl, hb⟩; have n0_ := Aside0.mk (blk_below (g := gb306) (o := .cells #[.int .i64 a0_0, .slice A0_1 l0_1.length c0_1, .slice A0_2 l0_2.length c0_2] 24 (0, 0)) (upO BK306.out) hb); have n1_ := Aside0.mk (below_step (upB HB.out) hb); clear BK306; clear HB; have BK306 := n0_; have HB := n1_; clear n0_ n1_; (try clear hb); (try clear hb2); (try clear hk); (try clear hi); have hcz13_0 : w12.cell? ⟨gb306, 0, none⟩ = some (.int .i64 a0_0) := (blk_cell BK306.out 0).trans rfl; have hcz13_1 : w12.cell? ⟨gb306, 1, none⟩ = some (.slice A0_1 l0_1.length c0_1) := (blk_cell BK306.out 1).trans rfl; have hcz13_2 : w12.cell? ⟨gb306, 2, none⟩ = some (.slice A0_2 l0_2.length c0_2) := (blk_cell BK306.out 2).trans rfl; have hfz13_0 := blk_frozen BK306.out 0; have hfz13_1 := blk_frozen BK306.out 1; have hfz13_2 := blk_frozen BK306.out 2) | (go_at_call 23; (with_reducible refine (journal_rising.calls k _ _ l0_2 true _ ?side1 ?side2 A8.out).mono ?_); (case side1 => exact upC (Kd.C_below HR0_2.out HB.out)); (case side2 => exact HC0_2.out); rintro e w14 ⟨rfl, hb⟩; have n0_ := Aside0.mk (blk_below (g := gb306) (o := .cells #[.int .i64 a0_0, .slice A0_1 l0_1.length c0_1, .slice A0_2 l0_2.length c0_2] 24 (0, 0)) (upO BK306.out) hb); have n1_ := Aside0.mk (below_step (upB HB.out) hb); clear BK306; clear HB; have BK306 := n0_; have HB := n1_; clear n0_ n1_; (try clear hb); (try clear hb2); (try clear hk); (try clear hi); have hcz15_0 : w14.cell? ⟨gb306, 0, none⟩ = some (.int .i64 a0_0) := (blk_cell BK306.out 0).trans rfl; have hcz15_1 : w14.cell? ⟨gb306, 1, none⟩ = some (.slice A0_1 l0_1.length c0_1) := (blk_cell BK306.out 1).trans rfl; have hcz15_2 : w14.cell? ⟨gb306, 2, none⟩ = some (.slice A0_2 l0_2.length c0_2) := (blk_cell BK306.out 2).trans rfl; have hfz15_0 := blk_frozen BK306.out 0; have hfz15_1 := blk_frozen BK306.out 1; have hfz15_2 := blk_frozen BK306.out 2) | (go_at_call 24; (with_reducible refine (journal_apart.calls k _ _ l0_1 _ _ l0_2 t309 _ ?side1 ?side2 ?side3 ?side4 A10.out).mono ?_); (case side1 => exact upC (Kd.C_below HR0_1.out HB.out)); (case side2 => exact HC0_1.out); (case side3 => exact upC (Kd.C_below HR0_2.out HB.out)); (case side4 => exact HC0_2.out); rintro e w16 ⟨rfl, hb⟩; have n0_ := Aside0.mk (blk_below (g := gb306) (o := .cells #[.int .i64 a0_0, .slice A0_1 l0_1.length c0_1, .slice A0_2 l0_2.length c0_2] 24 (0, 0)) (upO BK306.out) hb); have n1_ := Aside0.mk (below_step (upB HB.out) hb); clear BK306; clear HB; have BK306 := n0_; have HB := n1_; clear n0_ n1_; (try clear hb); (try clear hb2); (try clear hk); (try clear hi)))
     go_meet
     case rel => exact ⟨_, (!t309), eqS, H', ⟨by first | omega | exact Nat.le_refl _⟩, ⟨upO BK306.out⟩, ⟨upB HB.out⟩⟩
    ·replace c9 := Bool.eq_false_iff.mpr c9
     subst c9
     have H1 : (journal_Encode.j0 k true a0_0 l0_1 l0_2) = some (r1, r2) := by rw [if_neg (show ¬ (false = true) by decide)] at H; exact H
     clear H
     have H := H1
     clear H1
     have H' := Aside0.mk H
     clear H
     have hcz17_0 : w3.cell? ⟨gb306, 0, none⟩ = some (.int .i64 a0_0) := (blk_cell BK306.out 0).trans rfl
     have hcz17_1 : w3.cell? ⟨gb306, 1, none⟩ = some (.slice A0_1 l0_1.length c0_1) := (blk_cell BK306.out 1).trans rfl
     have hcz17_2 : w3.cell? ⟨gb306, 2, none⟩ = some (.slice A0_2 l0_2.length c0_2) := (blk_cell BK306.out 2).trans rfl
     have hfz17_0 := blk_frozen BK306.out 0
     have hfz17_1 := blk_frozen BK306.out 1
     have hfz17_2 := blk_frozen BK306.out 2
     go_wp2_with (first | (go_at_call 23; (with_reducible refine (journal_rising.calls k _ _ l0_1 true _ ?side1 ?side2 A6.out).mono ?_); (case side1 => exact upC (Kd.C_below HR0_1.out HB.out)); (case side2 => exact HC0_1.out); rintro e w18 ⟨rfl, hb⟩; have n0_ := Aside0.mk (blk_below (g := gb306) (o := .cells #[.int .i64 a0_0, .slice A0_1 l0_1.length c0_1, .slice A0_2 l0_2.length c0_2] 24 (0, 0)) (upO BK306.out) hb); have n1_ := Aside0.mk (below_step (upB HB.out) hb); clear BK306; clear HB; have BK306 := n0_; have HB := n1_; clear n0_ n1_; (try clear hb); (try clear hb2); (try clear hk); (try clear hi); have hcz19_0 : w18.cell? ⟨gb306, 0, none⟩ = some (.int .i64 a0_0) := (blk_cell BK306.out 0).trans rfl; have hcz19_1 : w18.cell? ⟨gb306, 1, none⟩ = some (.slice A0_1 l0_1.length c0_1) := (blk_cell BK306.out 1).trans rfl; have hcz19_2 : w18.cell? ⟨gb306, 2, none⟩ = some (.slice A0_2 l0_2.length c0_2) := (blk_cell BK306.out 2).trans rfl; have hfz19_0 := blk_frozen BK306.out 0; have hfz19_1 := blk_frozen BK306.out 1; have hfz19_2 := blk_frozen BK306.out 2) | (go_at_call 23; (with_reducible refine (journal_rising.calls k _ _ l0_2 false _ ?side1 ?side2 A8.out).mono ?_); (case side1 => exact upC (Kd.C_below HR0_2.out HB.out)); (case side2 => exact HC0_2.out); rintro e w20 ⟨rfl, hb⟩; have n0_ := Aside0.mk (blk_below (g := gb306) (o := .cells #[.int .i64 a0_0, .slice A0_1 l0_1.length c0_1, .slice A0_2 l0_2.length c0_2] 24 (0, 0)) (upO BK306.out) hb); have n1_ := Aside0.mk (below_step (upB HB.out) hb); clear BK306; clear HB; have BK306 := n0_; have HB := n1_; clear n0_ n1_; (try clear hb); (try clear hb2); (try clear hk); (try clear hi)))
     go_meet
     case rel => exact ⟨_, (true), eqS, H', ⟨by first | omega | exact Nat.le_refl _⟩, ⟨upO BK306.out⟩, ⟨upB HB.out⟩⟩
   ·replace c7 := Bool.eq_false_iff.mpr c7
    subst c7
    have H1 : (journal_Encode.j0 k true a0_0 l0_1 l0_2) = some (r1, r2) := by rw [if_neg (show ¬ (false = true) by decide)] at H; exact H
    clear H
    have H := H1
    clear H1
    have H' := Aside0.mk H
    clear H
    have hcz21_0 : w3.cell? ⟨gb306, 0, none⟩ = some (.int .i64 a0_0) := (blk_cell BK306.out 0).trans rfl
    have hcz21_1 : w3.cell? ⟨gb306, 1, none⟩ = some (.slice A0_1 l0_1.length c0_1) := (blk_cell BK306.out 1).trans rfl
    have hcz21_2 : w3.cell? ⟨gb306, 2, none⟩ = some (.slice A0_2 l0_2.length c0_2) := (blk_cell BK306.out 2).trans rfl
    have hfz21_0 := blk_frozen BK306.out 0
    have hfz21_1 := blk_frozen BK306.out 1
    have hfz21_2 := blk_frozen BK306.out 2
    go_wp2_with (first | (go_at_call 23; (with_reducible refine (journal_rising.calls k _ _ l0_1 false _ ?side1 ?side2 A6.out).mono ?_); (case side1 => exact upC (Kd.C_below HR0_1.out HB.out)); (case side2 => exact HC0_1.out); rintro e w22 ⟨rfl, hb⟩; have n0_ := Aside0.mk (blk_below (g := gb306) (o := .cells #[.int .i64 a0_0, .slice A0_1 l0_1.length c0_1, .slice A0_2 l0_2.length c0_2] 24 (0, 0)) (upO BK306.out) hb); have n1_ := Aside0.mk (below_step (upB HB.out) hb); clear BK306; clear HB; have BK306 := n0_; have HB := n1_; clear n0_ n1_; (try clear hb); (try clear hb2); (try clear hk); (try clear hi)))
    go_meet
    case rel => exact ⟨_, (true), eqS, H', ⟨by first | omega | exact Nat.le_refl _⟩, ⟨upO BK306.out⟩, ⟨upB HB.out⟩⟩
 case rest =>
  clear HC2
  try clear p2
  try clear c4
  try clear c4b0
  try clear c7
  try clear c9
  try clear hcz11_0
  try clear hcz11_1
  try clear hcz11_2
  try clear hcz13_0
  try clear hcz13_1
  try clear hcz13_2
  try clear hcz15_0
  try clear hcz15_1
  try clear hcz15_2
  try clear hcz17_0
  try clear hcz17_1
  try clear hcz17_2
  try clear hcz19_0
  try clear hcz19_1
  try clear hcz19_2
  try clear hcz21_0
  try clear hcz21_1
  try clear hcz21_2
  try clear hcz5_0
  try clear hcz5_1
  try clear hcz5_2
  try clear hfz11_0
  try clear hfz11_1
  try clear hfz11_2
  try clear hfz13_0
  try clear hfz13_1
  try clear hfz13_2
  try clear hfz15_0
  try clear hfz15_1
  try clear hfz15_2
  try clear hfz17_0
  try clear hfz17_1
  try clear hfz17_2
  try clear hfz19_0
  try clear hfz19_1
  try clear hfz19_2
  try clear hfz21_0
  try clear hfz21_1
  try clear hfz21_2
  try clear hfz5_0
  try clear hfz5_1
  try clear hfz5_2
  obtain ⟨kq, x27_1, rfl, HA, HJ1, BK306, HB⟩ := hcut
  cases kq with
  | zero => exact absurd HA.out (by simp [journal_Encode.j0])
  | succ kj1 =>
   have H := HA.out
   clear HA
   simp only [journal_Encode.j0] at H
   by_cases c23 : x27_1 = true
   ·subst c23
    have H1 : (some ((⟨#[]⟩ : ByteArray), 1)) = some (r1, r2) := by rw [if_pos rfl] at H; exact H
    clear H
    have H := H1
    clear H1
    simp only [Option.some.injEq, Prod.mk.injEq] at H
    obtain ⟨rfl, rfl⟩ := H
    go_wp2
    go_ret2
    exact ⟨eqE, upB HB.out⟩
   ·replace c23 := Bool.eq_false_iff.mpr c23
    subst c23
    have H1 : ((journal_put_uint64.f kj1 (([67] : List Int)) (IntKind.u64.wrap (a0_0)) 8).bind fun t313 => ((journal_putFacts.f kj1 t313 l0_1).bind fun t316 => ((journal_putFacts.f kj1 t316 l0_2).bind fun t319 => (if (t319.length : Int) > 16777216 then (some ((⟨#[]⟩ : ByteArray), 30)) else ((journal_frame.f kj1 t319).bind fun t322 => (some (t322, 0))))))) = some (r1, r2) := by rw [if_neg (show ¬ (false = true) by decide)] at H; exact H
    clear H
    have H := H1
    clear H1
    obtain ⟨y310, hy310⟩ : ∃ y_ : List Int, y_ = (([67] : List Int)) := ⟨_, rfl⟩
    replace H : ((journal_put_uint64.f kj1 y310 (IntKind.u64.wrap (a0_0)) 8).bind fun t313 => ((journal_putFacts.f kj1 t313 l0_1).bind fun t316 => ((journal_putFacts.f kj1 t316 l0_2).bind fun t319 => (if (t319.length : Int) > 16777216 then (some ((⟨#[]⟩ : ByteArray), 30)) else ((journal_frame.f kj1 t319).bind fun t322 => (some (t322, 0))))))) = some (r1, r2) := by first | (rw [hy310]; with_reducible exact H) | (have H2_ := (Option.bind_some _ _).symm.trans H; rw [hy310]; with_reducible exact H2_) | (have H2_ := (Option.bind_some _ _).symm.trans H; with_reducible exact H2_) | with_reducible exact H | (rw [hy310]; exact H) | exact H
    have Ny310 := Aside0.mk hy310
    clear hy310
    replace H := Option.bind_eq_some_iff.mp H
    obtain ⟨t313, A240, H⟩ := H
    replace H : ((journal_putFacts.f kj1 t313 l0_1).bind fun t316 => ((journal_putFacts.f kj1 t316 l0_2).bind fun t319 => (if (t319.length : Int) > 16777216 then (some ((⟨#[]⟩ : ByteArray), 30)) else ((journal_frame.f kj1 t319).bind fun t322 => (some (t322, 0)))))) = some (r1, r2) := H
    have A24 := Aside0.mk A240
    clear A240
    replace H := Option.bind_eq_some_iff.mp H
    obtain ⟨t316, A250, H⟩ := H
    replace H : ((journal_putFacts.f kj1 t316 l0_2).bind fun t319 => (if (t319.length : Int) > 16777216 then (some ((⟨#[]⟩ : ByteArray), 30)) else ((journal_frame.f kj1 t319).bind fun t322 => (some (t322, 0))))) = some (r1, r2) := H
    have A25 := Aside0.mk A250
    clear A250
    replace H := Option.bind_eq_some_iff.mp H
    obtain ⟨t319, A260, H⟩ := H
    replace H : (if (t319.length : Int) > 16777216 then (some ((⟨#[]⟩ : ByteArray), 30)) else ((journal_frame.f kj1 t319).bind fun t322 => (some (t322, 0)))) = some (r1, r2) := H
    have A26 := Aside0.mk A260
    clear A260
    by_cases c27 : (t319.length : Int) > 16777216
    ·rw [if_pos c27] at H
     have c27b0 := decide_eq_true c27
     have c27b1 : decide (16777216 < t319.length) = true := decide_eq_true (by omega)
     clear c27
     simp only [Option.some.injEq, Prod.mk.injEq] at H
     obtain ⟨rfl, rfl⟩ := H
     try go_wp2_with (first | ((with_reducible refine gate_dst (N := 28) rfl ?_); refine Kd.R_lit (Kd.int .u8) _ 5 ?hg (N := 28) ?hd (xs := ([67] : List Int)) (inner := [.int .u8 67]) (ok := fun _ => True) (okp := fun _ => True) ?hr ?hp (fun _ hk => hk) trivial (Below.refl _ _) (Nat.le_refl _) (by simp) ?_; (case hd => rfl); (case hg => rfl); (case hr => first | (go_simp; done) | (go_simp; rfl)); (case hp => exact (Reps.one (show Kd.M (Kd.int .u8) _ _ _ 67 [.int .u8 67] from rfl) (Reps.none _ _))); intro v311 w28 ho29 hb hg_ hnew_; clear hg_ hnew_; (first | rw [← Ny310.out] at ho29 | (simp only [Int.reduceToNat] at ho29; rw [← Ny310.out] at ho29)); have n0_ := Aside0.mk (Kd.R_lower ho29 (below_size (upB HB.out))); have n1_ := Aside0.mk (blk_below (g := gb306) (o := .cells #[.int .i64 a0_0, .slice A0_1 l0_1.length c0_1, .slice A0_2 l0_2.length c0_2] 24 (0, 0)) (upO BK306.out) hb); have n2_ := Aside0.mk (below_step (upB HB.out) hb); clear BK306; clear HB; have HO312 := n0_; have BK306 := n1_; have HB := n2_; clear n0_ n1_ n2_; clear hb ho29; have hcz30_0 : w28.cell? ⟨gb306, 0, none⟩ = some (.int .i64 a0_0) := (blk_cell BK306.out 0).trans rfl; have hcz30_1 : w28.cell? ⟨gb306, 1, none⟩ = some (.slice A0_1 l0_1.length c0_1) := (blk_cell BK306.out 1).trans rfl; have hcz30_2 : w28.cell? ⟨gb306, 2, none⟩ = some (.slice A0_2 l0_2.length c0_2) := (blk_cell BK306.out 2).trans rfl; have hfz30_0 := blk_frozen BK306.out 0; have hfz30_1 := blk_frozen BK306.out 1; have hfz30_2 := blk_frozen BK306.out 2; obtain ⟨Ao31, co31, eo31⟩ := Kd.R_slice HO312.out; subst eo31) | ((with_reducible refine gate_callee (f := 25) rfl ?_); refine goesS (some 32) Tryz.func25 #[.slice Ao31 y310.length co31, .int .u64 (IntKind.u64.wrap (a0_0)), .int .i64 8] ?_; (with_reducible refine (journal_put_uint64.calls kj1 (fun k_ => some k_ = (.slice Ao31 y310.length co31 : Value).ownBlock) (.slice Ao31 y310.length co31) y310 (IntKind.u64.wrap (a0_0)) 8 t313 w _ ?side1 ?side2 A24.out).mono ?_); (case side1 => exact upB HB.out); (case side2 => exact Kd.R_tight rfl HO312.out); rintro e w32 ⟨v314, rfl, ho0, hb, hkp⟩; refine ⟨_, rfl, ?_⟩; have n0_ := Aside0.mk (blk_kept (upO BK306.out) hkp (fun hs_ => (fun e_ => (Kd.R_ne HO312.out BK306.out (by decide)) e_) hs_)); have n1_ := Aside0.mk (Kd.R_mono (ok' := fun k_ => True) ho0 (fun k_ hk_ => trivial)); have n2_ := Aside0.mk (hb); clear BK306; clear HB; clear HO312; have BK306 := n0_; have HO315 := n1_; have HB := n2_; clear n0_ n1_ n2_; (try clear hb); (try clear hkp); (try clear ho0)))
     have n0_ := Aside0.mk (Kd.R_drew HO315.out)
     have n1_ := Aside0.mk (blk_drew BK306.out)
     have n2_ := Aside0.mk (below_drew1 HB.out)
     clear HO315
     clear BK306
     clear HB
     have HO315 := n0_
     have BK306 := n1_
     have HB := n2_
     clear n0_ n1_ n2_
     obtain ⟨Ao34, co34, eo34⟩ := Kd.R_slice HO315.out
     (first | subst eo34 | (injection eo34 with f1_ f2_ f3_; have f4_ := f1_.symm; have f5_ := f3_.symm; clear f1_ f2_ f3_; subst f4_; subst f5_))
     refine start_ (n := 8) (S := fun w' => w'.cell? ⟨gb306, 0, none⟩ = some (.int .i64 a0_0) ∧ w'.cell? ⟨gb306, 1, none⟩ = some (.slice A0_1 l0_1.length c0_1) ∧ w'.cell? ⟨gb306, 2, none⟩ = some (.slice A0_2 l0_2.length c0_2)) (ds := []) #[false,false,false,false,false,false,false,false] (by kernel_rfl) rfl rfl ⟨(blk_cell BK306.out 0).trans rfl, (blk_cell BK306.out 1).trans rfl, (blk_cell BK306.out 2).trans rfl⟩ (fun hHeld => ?_); refine with_tabW journal_Encode.tab4 journal_Encode.bits4 (fun HT_ HW_ => ?_)
     generalize w32.drew = w33 at HO315 BK306 HB hHeld ⊢
     refine pureS 0 (some 33) HT_ ?_
     refine pureS 1 (some 34) HT_ ?_
     refine pureS 4 (some 37) HT_ ?_
     refine takeS 2 (some 35) HT_ HW_ hHeld ?_
     refine takeS 5 (some 38) HT_ HW_ hHeld ?_
     refine one_ (i := 3) (N := some 36) #[true, true, true, true, true, true, false,false] rfl rfl (one_of HT_.out (by kernel_rfl)) (by decide) (fun K hK => ?_)
     refine goes_ Tryz.func26 (by kernel_rfl) rfl #[.slice Ao34 t313.length co34, .slice A0_1 l0_1.length c0_1] (by rfl) rfl rfl (by (try simp only [List.map_toArray, List.map_cons, List.map_nil]); first | done | rfl | (simp only [List.length_drop, List.length_take]; rfl)) ?_
     with_reducible refine (journal_putFacts.calls kj1 (fun k_ => some k_ = (.slice Ao34 t313.length co34 : Value).ownBlock) (.slice Ao34 t313.length co34) t313 _ _ l0_1 t316 w _ ?side1 ?side2 ?side3 ?side4 A25.out).mono ?_
     (case side1 => exact upB HB.out)
     (case side2 => exact Kd.R_tight rfl HO315.out)
     (case side3 => exact HR0_1.out)
     (case side4 => exact HC0_1.out)
     rintro e w35 ⟨v317, rfl, ho0, hb, hkp⟩
     refine ⟨_, rfl, ?_⟩
     have n0_ := Aside0.mk (blk_kept (upO BK306.out) hkp (fun hs_ => (fun e_ => (Kd.R_ne HO315.out BK306.out (by decide)) e_) hs_))
     have n1_ := Aside0.mk (Kd.R_mono (ok' := fun k_ => True) ho0 (fun k_ hk_ => trivial))
     have n2_ := Aside0.mk (hb)
     clear BK306
     clear HB
     clear HO315
     have BK306 := n0_
     have HO318 := n1_
     have HB := n2_
     clear n0_ n1_ n2_
     (try clear hb)
     (try clear hkp)
     (try clear ho0)
     obtain ⟨Ao36, co36, eo36⟩ := Kd.R_slice HO318.out
     (first | subst eo36 | (injection eo36 with f1_ f2_ f3_; have f4_ := f1_.symm; have f5_ := f3_.symm; clear f1_ f2_ f3_; subst f4_; subst f5_))
     refine hK.out _ _ ⟨(blk_cell BK306.out 0).trans rfl, (blk_cell BK306.out 1).trans rfl, (blk_cell BK306.out 2).trans rfl⟩ (fun hHeld => ?_)
     clear hK K
     refine normS (some 36) ?_
     refine one_ (i := 6) (N := some 39) #[true, true, true, true, true, true, true, false] rfl rfl (one_of HT_.out (by kernel_rfl)) (by decide) (fun K hK => ?_)
     refine goes_ Tryz.func26 (by kernel_rfl) rfl #[.slice Ao36 t316.length co36, .slice A0_2 l0_2.length c0_2] (by rfl) rfl rfl (by (try simp only [List.map_toArray, List.map_cons, List.map_nil]); first | done | rfl | (simp only [List.length_drop, List.length_take]; rfl)) ?_
     with_reducible refine (journal_putFacts.calls kj1 (fun k_ => some k_ = (.slice Ao36 t316.length co36 : Value).ownBlock) (.slice Ao36 t316.length co36) t316 _ _ l0_2 t319 w _ ?side1 ?side2 ?side3 ?side4 A26.out).mono ?_
     (case side1 => exact upB HB.out)
     (case side2 => exact Kd.R_tight rfl HO318.out)
     (case side3 => exact HR0_2.out)
     (case side4 => exact HC0_2.out)
     rintro e w37 ⟨v320, rfl, ho0, hb, hkp⟩
     refine ⟨_, rfl, ?_⟩
     have n0_ := Aside0.mk (blk_kept (upO BK306.out) hkp (fun hs_ => (fun e_ => (Kd.R_ne HO318.out BK306.out (by decide)) e_) hs_))
     have n1_ := Aside0.mk (Kd.R_mono (ok' := fun k_ => True) ho0 (fun k_ hk_ => trivial))
     have n2_ := Aside0.mk (hb)
     clear BK306
     clear HB
     clear HO318
     have BK306 := n0_
     have HO321 := n1_
     have HB := n2_
     clear n0_ n1_ n2_
     (try clear hb)
     (try clear hkp)
     (try clear ho0)
     refine hK.out _ _ ⟨(blk_cell BK306.out 0).trans rfl, (blk_cell BK306.out 1).trans rfl, (blk_cell BK306.out 2).trans rfl⟩ (fun hHeld => ?_)
     clear hK K
     refine normS (some 39) ?_
     refine pureS 7 (some 4) HT_ ?_
     refine done_ (done_of HT_.out (by kernel_rfl)) ?_
     obtain ⟨Ao38, co38, eo38⟩ := Kd.R_slice HO321.out
     subst eo38
     try go_wp2
     go_ret2
     exact ⟨eqE, upB HB.out⟩
    ·rw [if_neg c27] at H
     have c27b0 := decide_eq_false c27
     have c27b1 : decide (16777216 < t319.length) = false := decide_eq_false (by omega)
     clear c27
     replace H := Option.bind_eq_some_iff.mp H
     obtain ⟨t322, A390, H⟩ := H
     replace H : (some (t322, 0)) = some (r1, r2) := H
     have A39 := Aside0.mk A390
     clear A390
     simp only [Option.some.injEq, Prod.mk.injEq] at H
     obtain ⟨rfl, rfl⟩ := H
     try go_wp2_with (first | ((with_reducible refine gate_dst (N := 28) rfl ?_); refine Kd.R_lit (Kd.int .u8) _ 5 ?hg (N := 28) ?hd (xs := ([67] : List Int)) (inner := [.int .u8 67]) (ok := fun _ => True) (okp := fun _ => True) ?hr ?hp (fun _ hk => hk) trivial (Below.refl _ _) (Nat.le_refl _) (by simp) ?_; (case hd => rfl); (case hg => rfl); (case hr => first | (go_simp; done) | (go_simp; rfl)); (case hp => exact (Reps.one (show Kd.M (Kd.int .u8) _ _ _ 67 [.int .u8 67] from rfl) (Reps.none _ _))); intro v311 w40 ho41 hb hg_ hnew_; clear hg_ hnew_; (first | rw [← Ny310.out] at ho41 | (simp only [Int.reduceToNat] at ho41; rw [← Ny310.out] at ho41)); have n0_ := Aside0.mk (Kd.R_lower ho41 (below_size (upB HB.out))); have n1_ := Aside0.mk (blk_below (g := gb306) (o := .cells #[.int .i64 a0_0, .slice A0_1 l0_1.length c0_1, .slice A0_2 l0_2.length c0_2] 24 (0, 0)) (upO BK306.out) hb); have n2_ := Aside0.mk (below_step (upB HB.out) hb); clear BK306; clear HB; have HO312 := n0_; have BK306 := n1_; have HB := n2_; clear n0_ n1_ n2_; clear hb ho41; have hcz42_0 : w40.cell? ⟨gb306, 0, none⟩ = some (.int .i64 a0_0) := (blk_cell BK306.out 0).trans rfl; have hcz42_1 : w40.cell? ⟨gb306, 1, none⟩ = some (.slice A0_1 l0_1.length c0_1) := (blk_cell BK306.out 1).trans rfl; have hcz42_2 : w40.cell? ⟨gb306, 2, none⟩ = some (.slice A0_2 l0_2.length c0_2) := (blk_cell BK306.out 2).trans rfl; have hfz42_0 := blk_frozen BK306.out 0; have hfz42_1 := blk_frozen BK306.out 1; have hfz42_2 := blk_frozen BK306.out 2; obtain ⟨Ao43, co43, eo43⟩ := Kd.R_slice HO312.out; subst eo43) | ((with_reducible refine gate_callee (f := 25) rfl ?_); refine goesS (some 32) Tryz.func25 #[.slice Ao43 y310.length co43, .int .u64 (IntKind.u64.wrap (a0_0)), .int .i64 8] ?_; (with_reducible refine (journal_put_uint64.calls kj1 (fun k_ => some k_ = (.slice Ao43 y310.length co43 : Value).ownBlock) (.slice Ao43 y310.length co43) y310 (IntKind.u64.wrap (a0_0)) 8 t313 w _ ?side1 ?side2 A24.out).mono ?_); (case side1 => exact upB HB.out); (case side2 => exact Kd.R_tight rfl HO312.out); rintro e w44 ⟨v314, rfl, ho0, hb, hkp⟩; refine ⟨_, rfl, ?_⟩; have n0_ := Aside0.mk (blk_kept (upO BK306.out) hkp (fun hs_ => (fun e_ => (Kd.R_ne HO312.out BK306.out (by decide)) e_) hs_)); have n1_ := Aside0.mk (Kd.R_mono (ok' := fun k_ => True) ho0 (fun k_ hk_ => trivial)); have n2_ := Aside0.mk (hb); clear BK306; clear HB; clear HO312; have BK306 := n0_; have HO315 := n1_; have HB := n2_; clear n0_ n1_ n2_; (try clear hb); (try clear hkp); (try clear ho0)))
     have n0_ := Aside0.mk (Kd.R_drew HO315.out)
     have n1_ := Aside0.mk (blk_drew BK306.out)
     have n2_ := Aside0.mk (below_drew1 HB.out)
     clear HO315
     clear BK306
     clear HB
     have HO315 := n0_
     have BK306 := n1_
     have HB := n2_
     clear n0_ n1_ n2_
     obtain ⟨Ao46, co46, eo46⟩ := Kd.R_slice HO315.out
     (first | subst eo46 | (injection eo46 with f1_ f2_ f3_; have f4_ := f1_.symm; have f5_ := f3_.symm; clear f1_ f2_ f3_; subst f4_; subst f5_))
     refine start_ (n := 8) (S := fun w' => w'.cell? ⟨gb306, 0, none⟩ = some (.int .i64 a0_0) ∧ w'.cell? ⟨gb306, 1, none⟩ = some (.slice A0_1 l0_1.length c0_1) ∧ w'.cell? ⟨gb306, 2, none⟩ = some (.slice A0_2 l0_2.length c0_2)) (ds := []) #[false,false,false,false,false,false,false,false] (by kernel_rfl) rfl rfl ⟨(blk_cell BK306.out 0).trans rfl, (blk_cell BK306.out 1).trans rfl, (blk_cell BK306.out 2).trans rfl⟩ (fun hHeld => ?_); refine with_tabW journal_Encode.tab4 journal_Encode.bits4 (fun HT_ HW_ => ?_)
     generalize w44.drew = w45 at HO315 BK306 HB hHeld ⊢
     refine pureS 0 (some 33) HT_ ?_
     refine pureS 1 (some 34) HT_ ?_
     refine pureS 4 (some 37) HT_ ?_
     refine takeS 2 (some 35) HT_ HW_ hHeld ?_
     refine takeS 5 (some 38) HT_ HW_ hHeld ?_
     refine one_ (i := 3) (N := some 36) #[true, true, true, true, true, true, false,false] rfl rfl (one_of HT_.out (by kernel_rfl)) (by decide) (fun K hK => ?_)
     refine goes_ Tryz.func26 (by kernel_rfl) rfl #[.slice Ao46 t313.length co46, .slice A0_1 l0_1.length c0_1] (by rfl) rfl rfl (by (try simp only [List.map_toArray, List.map_cons, List.map_nil]); first | done | rfl | (simp only [List.length_drop, List.length_take]; rfl)) ?_
     with_reducible refine (journal_putFacts.calls kj1 (fun k_ => some k_ = (.slice Ao46 t313.length co46 : Value).ownBlock) (.slice Ao46 t313.length co46) t313 _ _ l0_1 t316 w _ ?side1 ?side2 ?side3 ?side4 A25.out).mono ?_
     (case side1 => exact upB HB.out)
     (case side2 => exact Kd.R_tight rfl HO315.out)
     (case side3 => exact HR0_1.out)
     (case side4 => exact HC0_1.out)
     rintro e w47 ⟨v317, rfl, ho0, hb, hkp⟩
     refine ⟨_, rfl, ?_⟩
     have n0_ := Aside0.mk (blk_kept (upO BK306.out) hkp (fun hs_ => (fun e_ => (Kd.R_ne HO315.out BK306.out (by decide)) e_) hs_))
     have n1_ := Aside0.mk (Kd.R_mono (ok' := fun k_ => True) ho0 (fun k_ hk_ => trivial))
     have n2_ := Aside0.mk (hb)
     clear BK306
     clear HB
     clear HO315
     have BK306 := n0_
     have HO318 := n1_
     have HB := n2_
     clear n0_ n1_ n2_
     (try clear hb)
     (try clear hkp)
     (try clear ho0)
     obtain ⟨Ao48, co48, eo48⟩ := Kd.R_slice HO318.out
     (first | subst eo48 | (injection eo48 with f1_ f2_ f3_; have f4_ := f1_.symm; have f5_ := f3_.symm; clear f1_ f2_ f3_; subst f4_; subst f5_))
     refine hK.out _ _ ⟨(blk_cell BK306.out 0).trans rfl, (blk_cell BK306.out 1).trans rfl, (blk_cell BK306.out 2).trans rfl⟩ (fun hHeld => ?_)
     clear hK K
     refine normS (some 36) ?_
     refine one_ (i := 6) (N := some 39) #[true, true, true, true, true, true, true, false] rfl rfl (one_of HT_.out (by kernel_rfl)) (by decide) (fun K hK => ?_)
     refine goes_ Tryz.func26 (by kernel_rfl) rfl #[.slice Ao48 t316.length co48, .slice A0_2 l0_2.length c0_2] (by rfl) rfl rfl (by (try simp only [List.map_toArray, List.map_cons, List.map_nil]); first | done | rfl | (simp only [List.length_drop, List.length_take]; rfl)) ?_
     with_reducible refine (journal_putFacts.calls kj1 (fun k_ => some k_ = (.slice Ao48 t316.length co48 : Value).ownBlock) (.slice Ao48 t316.length co48) t316 _ _ l0_2 t319 w _ ?side1 ?side2 ?side3 ?side4 A26.out).mono ?_
     (case side1 => exact upB HB.out)
     (case side2 => exact Kd.R_tight rfl HO318.out)
     (case side3 => exact HR0_2.out)
     (case side4 => exact HC0_2.out)
     rintro e w49 ⟨v320, rfl, ho0, hb, hkp⟩
     refine ⟨_, rfl, ?_⟩
     have n0_ := Aside0.mk (blk_kept (upO BK306.out) hkp (fun hs_ => (fun e_ => (Kd.R_ne HO318.out BK306.out (by decide)) e_) hs_))
     have n1_ := Aside0.mk (Kd.R_mono (ok' := fun k_ => True) ho0 (fun k_ hk_ => trivial))
     have n2_ := Aside0.mk (hb)
     clear BK306
     clear HB
     clear HO318
     have BK306 := n0_
     have HO321 := n1_
     have HB := n2_
     clear n0_ n1_ n2_
     (try clear hb)
     (try clear hkp)
     (try clear ho0)
     refine hK.out _ _ ⟨(blk_cell BK306.out 0).trans rfl, (blk_cell BK306.out 1).trans rfl, (blk_cell BK306.out 2).trans rfl⟩ (fun hHeld => ?_)
     clear hK K
     refine normS (some 39) ?_
     refine pureS 7 (some 4) HT_ ?_
     refine done_ (done_of HT_.out (by kernel_rfl)) ?_
     obtain ⟨Ao50, co50, eo50⟩ := Kd.R_slice HO321.out
     subst eo50
     try go_wp2_with (first | ((with_reducible refine gate_callee (f := 27) rfl ?_); refine goesS (some 44) Tryz.func27 #[.slice Ao50 t319.length co50] ?_; (with_reducible refine (journal_frame.calls kj1 _ _ t319 t322 _ ?side1 ?side2 A39.out).mono ?_); (case side1 => repeat (first | exact (Kd.R_reads' HO321.out).2.2 | (with_reducible refine Kd.C_alloc ?_ _) | (with_reducible refine Kd.C_drewN ?_ _) | (with_reducible refine Kd.C_drew ?_))); (case side2 => exact (Kd.R_reads' HO321.out).2.1); rintro e w51 ⟨rfl, hb⟩; refine ⟨_, rfl, ?_⟩; have n0_ := Aside0.mk (Kd.R_below (upR HO321.out) hb); have n1_ := Aside0.mk (blk_below (g := gb306) (o := .cells #[.int .i64 a0_0, .slice A0_1 l0_1.length c0_1, .slice A0_2 l0_2.length c0_2] 24 (0, 0)) (upO BK306.out) hb); have n2_ := Aside0.mk (below_step (upB HB.out) hb); clear HO321; clear BK306; clear HB; have HO321 := n0_; have BK306 := n1_; have HB := n2_; clear n0_ n1_ n2_; (try clear hb); (try clear hb2); (try clear hk); (try clear hi)))
     go_ret2
     exact ⟨eqE, upB HB.out⟩
end Go.Proofs.J.Print
end
