/- On the way to the law 'JournalEncodes': what the functions that it reaches compute, step by step, and the plain law (JGg .. JOb). Each theorem states its own conditions. -/
import Derived.Test.YtcinnankefollaaGreatDoorWl
set_option linter.unusedVariables false
set_option linter.unusedSimpArgs false
section
namespace Go.Proofs.J.Print
open Go.RowKit Go.Proofs.PrintWords Go.Proofs.PrintLast Go.Proofs.PrintMore
theorem blk_new1 (w : World) (o1 o2 : Obj) : ((w.alloc o1).alloc o2).heap[w.heap.size + 1]? = some o2 := by
  have h := blk_new (w.alloc o1) o2
  rwa [show (w.alloc o1).heap.size = w.heap.size + 1 by show (w.heap.push o1).size = _; exact Array.size_push _] at h
theorem blk_new2 (w : World) (o1 o2 o3 : Obj) : (((w.alloc o1).alloc o2).alloc o3).heap[w.heap.size + 1 + 1]? = some o3 := by
  have h := blk_new1 (w.alloc o1) o2 o3
  rwa [show (w.alloc o1).heap.size = w.heap.size + 1 by show (w.heap.push o1).size = _; exact Array.size_push _] at h
theorem li_C85 (w : World) (g : Nat) (h : w.heap[g]? = some (.cells #[.int .i8 1, .int .i64 (-1), .string (⟨#[]⟩ : ByteArray), .int .i8 2, .int .i64 0, .string (⟨#[97]⟩ : ByteArray)] 85 (0, 0))) : Kd.C k85 w (some ⟨g, 0, none⟩) Pure.liV.length Pure.liV := by
  have hc := fun i => blk_cell h i
  refine ⟨rfl, by decide, fun _ => ⟨_, rfl, fun j p hj => ?_⟩⟩
  match j, hj with
  | 0, hj =>
    simp only [Pure.liV, List.getElem?_cons_zero, Option.some.injEq] at hj
    subst hj
    refine ⟨_, rfl, k85_mk w _, fun i u hu => ?_⟩
    match i, hu with
    | 0, hu => simp at hu; subst hu; exact (hc 0).trans rfl
    | 1, hu => simp at hu; subst hu; exact (hc 1).trans rfl
    | 2, hu => simp at hu; subst hu; exact (hc 2).trans rfl
    | i + 3, hu => simp at hu
  | 1, hj =>
    simp only [Pure.liV, List.getElem?_cons_succ, List.getElem?_cons_zero, Option.some.injEq] at hj
    subst hj
    refine ⟨_, rfl, k85_mk w _, fun i u hu => ?_⟩
    match i, hu with
    | 0, hu => simp at hu; subst hu; exact (hc 3).trans rfl
    | 1, hu => simp at hu; subst hu; exact (hc 4).trans rfl
    | 2, hu => simp at hu; subst hu; exact (hc 5).trans rfl
    | i + 3, hu => simp at hu
  | j + 2, hj => simp [Pure.liV] at hj
theorem li_C90 (w : World) (gA gB : Nat) (hA : w.heap[gA]? = some (.cells #[.int .i8 1, .int .i64 (-1), .string (⟨#[]⟩ : ByteArray), .int .i8 2, .int .i64 0, .string (⟨#[97]⟩ : ByteArray)] 85 (0, 0)))
    (hB : w.heap[gB]? = some (.cells #[.string (⟨#[112]⟩ : ByteArray), .slice (some ⟨gA, 0, none⟩) 2 2] 90 (0, 0))) : Kd.C k90 w (some ⟨gB, 0, none⟩) Pure.liF.length Pure.liF := by
  have hc := fun i => blk_cell hB i
  have h85 := li_C85 w gA hA
  refine ⟨rfl, by decide, fun _ => ⟨_, rfl, fun j p hj => ?_⟩⟩
  match j, hj with
  | 0, hj =>
    simp only [Pure.liF, List.getElem?_cons_zero, Option.some.injEq] at hj
    subst hj
    refine ⟨_, rfl, k90_mk w (⟨⟨#[112]⟩, Pure.liV⟩ : S90) (A1 := some ⟨gA, 0, none⟩) (c1 := 2) (by decide) h85, fun i u hu => ?_⟩
    match i, hu with
    | 0, hu => simp at hu; subst hu; exact (hc 0).trans rfl
    | 1, hu => simp at hu; subst hu; exact (hc 1).trans rfl
    | i + 2, hu => simp at hu
  | j + 1, hj => simp [Pure.liF] at hj
theorem li_encode (w : World) (gA gB : Nat) (hA : w.heap[gA]? = some (.cells #[.int .i8 1, .int .i64 (-1), .string (⟨#[]⟩ : ByteArray), .int .i8 2, .int .i64 0, .string (⟨#[97]⟩ : ByteArray)] 85 (0, 0)))
    (hB : w.heap[gB]? = some (.cells #[.string (⟨#[112]⟩ : ByteArray), .slice (some ⟨gA, 0, none⟩) 2 2] 90 (0, 0))) :
    Calls Tryz.prog 9 #[.agg #[.int .i64 3, .slice (some ⟨gB, 0, none⟩) 1 1, .slice none 0 0]] w fun e w' => e = .returned (.tuple #[.string Pure.liS, .int .i64 0]) ∧ Below w.heap.size w w' := by
  obtain ⟨K, hK⟩ := Pure.li_enc
  exact journal_Encode.calls K 3 (some ⟨gB, 0, none⟩) 1 Pure.liF none 0 [] Pure.liS 0 w (li_C90 w gA gB hA hB) (by decide) (Kd.C_nil k90 w) (by decide) (hK K (Nat.le_refl _))
theorem li_samecall (w : World) (gA gB : Nat) (Ao1 Ao2 : Option Addr) (co1 co2 : Nat) (hA : w.heap[gA]? = some (.cells #[.int .i8 1, .int .i64 (-1), .string (⟨#[]⟩ : ByteArray), .int .i8 2, .int .i64 0, .string (⟨#[97]⟩ : ByteArray)] 85 (0, 0)))
    (hB : w.heap[gB]? = some (.cells #[.string (⟨#[112]⟩ : ByteArray), .slice (some ⟨gA, 0, none⟩) 2 2] 90 (0, 0)))
    (h1 : Pure.liF.length = Pure.liF.length ∧ Pure.liF.length ≤ co1 ∧ Kd.C k90 w Ao1 Pure.liF.length Pure.liF) (h2 : ([] : List S90).length = ([] : List S90).length ∧ ([] : List S90).length ≤ co2 ∧ Kd.C k90 w Ao2 ([] : List S90).length []) :
    Calls Tryz.prog 14 #[.agg #[.int .i64 3, .slice (some ⟨gB, 0, none⟩) 1 1, .slice none 0 0], .agg #[.int .i64 3, .slice Ao1 Pure.liF.length co1, .slice Ao2 0 co2]] w fun e w' => e = .returned (.bool true) ∧ Below w.heap.size w w' := by
  obtain ⟨K, hK⟩ := Pure.li_same
  exact pedigreelaw01_SameCommit.calls K 3 (some ⟨gB, 0, none⟩) 1 Pure.liF none 0 [] 3 Ao1 co1 Pure.liF Ao2 co2 [] true w (li_C90 w gA gB hA hB) (by decide) (Kd.C_nil k90 w) (by decide) h1.2.2 h1.2.1 h2.2.2 h2.2.1 (hK K (Nat.le_refl _))
def pedigreelaw29_lives.f : Option Bool := some true
set_option maxHeartbeats 8000000 in
set_option maxRecDepth 100000 in
theorem pedigreelaw29_lives.calls (r : Bool) (w : World) (h : pedigreelaw29_lives.f = some r) :
    Calls Tryz.prog 11 #[] w fun e w' => e = .returned (.bool r) ∧ Below w.heap.size w w' := by
  have hu24 := Tryz.underlying24
  unfold pedigreelaw29_lives.f at h
  simp only [Option.some.injEq] at h
  subst h
  obtain ⟨kD, hD0⟩ := Pure.li_dec
  have hD := Aside0.mk (hD0 kD (Nat.le_refl _))
  obtain ⟨kS, hS0⟩ := Pure.li_sum
  have hS := Aside0.mk (hS0 kS (Nat.le_refl _))
  clear hD0 hS0
  have hsz := Pure.li_size
  go_enter Tryz.func11, Tryz.ntmps11
  go_wp2_with (first | ((with_reducible refine gate_callee (f := 29) rfl ?_); refine goesS (some 10) Tryz.func29 #[.int .i64 (-1)] ?_; (with_reducible refine (num_calls (-1) _).mono ?_); rintro e wN ⟨rfl, hbN⟩; refine ⟨_, rfl, ?_⟩; have HBN := Aside0.mk hbN; clear hbN) | ((with_reducible refine gate_callee (f := 30) rfl ?_); refine goesS (some 11) Tryz.func30 #[.string (⟨#[97]⟩ : ByteArray)] ?_; (with_reducible refine (word_calls (⟨#[97]⟩ : ByteArray) _).mono ?_); rintro e wW ⟨rfl, hbW⟩; refine ⟨_, rfl, ?_⟩; have HBW := Aside0.mk (below_step HBN.out hbW); clear hbW HBN) | ((with_reducible refine gate_callee (f := 9) rfl ?_); refine goesS (some 18) Tryz.func9 #[.agg #[.int .i64 3, .slice (some ⟨wW.heap.size + 1, 0, none⟩) 1 1, .slice none 0 0]] ?_; have BA := Aside0.mk (blk_alloc (blk_alloc (blk_new wW (.cells #[.int .i8 1, .int .i64 (-1), .string (⟨#[]⟩ : ByteArray), .int .i8 2, .int .i64 0, .string (⟨#[97]⟩ : ByteArray)] 85)) (.cells #[.string (⟨#[112]⟩ : ByteArray), .slice (some ⟨wW.heap.size, 0, none⟩) 2 2] 90)) (.cells #[.int .i64 3, .slice (some ⟨wW.heap.size + 1, 0, none⟩) 1 1, .slice none 0 0] 24)); have BB := Aside0.mk (blk_alloc (blk_new1 wW (.cells #[.int .i8 1, .int .i64 (-1), .string (⟨#[]⟩ : ByteArray), .int .i8 2, .int .i64 0, .string (⟨#[97]⟩ : ByteArray)] 85) (.cells #[.string (⟨#[112]⟩ : ByteArray), .slice (some ⟨wW.heap.size, 0, none⟩) 2 2] 90)) (.cells #[.int .i64 3, .slice (some ⟨wW.heap.size + 1, 0, none⟩) 1 1, .slice none 0 0] 24)); have BC := Aside0.mk (blk_new2 wW (.cells #[.int .i8 1, .int .i64 (-1), .string (⟨#[]⟩ : ByteArray), .int .i8 2, .int .i64 0, .string (⟨#[97]⟩ : ByteArray)] 85) (.cells #[.string (⟨#[112]⟩ : ByteArray), .slice (some ⟨wW.heap.size, 0, none⟩) 2 2] 90) (.cells #[.int .i64 3, .slice (some ⟨wW.heap.size + 1, 0, none⟩) 1 1, .slice none 0 0] 24)); (with_reducible refine (li_encode _ _ _ BA.out BB.out).mono ?_); rintro e wE ⟨rfl, hb⟩; refine ⟨_, rfl, ?_⟩; have n1_ := Aside0.mk (blk_below BA.out hb); have n2_ := Aside0.mk (blk_below BB.out hb); have n3_ := Aside0.mk (blk_below BC.out hb); have HBE := Aside0.mk (below_step (below_alloc (below_alloc (below_alloc HBW.out (.cells #[.int .i8 1, .int .i64 (-1), .string (⟨#[]⟩ : ByteArray), .int .i8 2, .int .i64 0, .string (⟨#[97]⟩ : ByteArray)] 85)) (.cells #[.string (⟨#[112]⟩ : ByteArray), .slice (some ⟨wW.heap.size, 0, none⟩) 2 2] 90)) (.cells #[.int .i64 3, .slice (some ⟨wW.heap.size + 1, 0, none⟩) 1 1, .slice none 0 0] 24)) hb); clear BA BB BC HBW hb; have BA := n1_; have BB := n2_; have BC := n3_; clear n1_ n2_ n3_) | ((with_reducible refine gate_callee (f := 13) rfl ?_); refine goesS (some 23) Tryz.func13 #[.string Pure.liS] ?_; (with_reducible refine (journal_Decode.calls kD Pure.liS 3 Pure.liF [] 42 0 _ hD.out).mono ?_); rintro e wD ⟨v1, v2, rfl, hs1, hs2, hb⟩; refine ⟨_, rfl, ?_⟩; obtain ⟨Ao1, co1, eo1⟩ := Kd.S_slice hs1; subst eo1; obtain ⟨Ao2, co2, eo2⟩ := Kd.S_slice hs2; subst eo2; have HS1 := Aside0.mk hs1; have HS2 := Aside0.mk hs2; have n1_ := Aside0.mk (blk_below BA.out hb); have n2_ := Aside0.mk (blk_below BB.out hb); have n3_ := Aside0.mk (blk_below BC.out hb); have HBD := Aside0.mk (below_step HBE.out hb); clear BA BB BC HBE hb hs1 hs2; have BA := n1_; have BB := n2_; have BC := n3_; clear n1_ n2_ n3_) | ((with_reducible refine gate_callee (f := 31) rfl ?_); refine goesS (some 28) Tryz.func31 #[.string (⟨#[]⟩ : ByteArray)] ?_; (with_reducible refine (open_empty _).mono ?_); rintro e wO ⟨rfl, hb⟩; refine ⟨_, rfl, ?_⟩; have n1_ := Aside0.mk (blk_below (blk_alloc BA.out (.cells #[.int .i64 3, .slice Ao1 Pure.liF.length co1, .slice Ao2 0 co2] 24)) hb); have n2_ := Aside0.mk (blk_below (blk_alloc BB.out (.cells #[.int .i64 3, .slice Ao1 Pure.liF.length co1, .slice Ao2 0 co2] 24)) hb); have n3_ := Aside0.mk (blk_below (blk_alloc BC.out (.cells #[.int .i64 3, .slice Ao1 Pure.liF.length co1, .slice Ao2 0 co2] 24)) hb); have BD := Aside0.mk (blk_below (blk_new wD (.cells #[.int .i64 3, .slice Ao1 Pure.liF.length co1, .slice Ao2 0 co2] 24)) hb); have n4_ := Aside0.mk (Kd.S_below (Kd.S_alloc HS1.out (.cells #[.int .i64 3, .slice Ao1 Pure.liF.length co1, .slice Ao2 0 co2] 24)) hb); have n5_ := Aside0.mk (Kd.S_below (Kd.S_alloc HS2.out (.cells #[.int .i64 3, .slice Ao1 Pure.liF.length co1, .slice Ao2 0 co2] 24)) hb); have HBO := Aside0.mk (below_step (below_alloc HBD.out (.cells #[.int .i64 3, .slice Ao1 Pure.liF.length co1, .slice Ao2 0 co2] 24)) hb); clear BA BB BC HS1 HS2 HBD hb; have BA := n1_; have BB := n2_; have BC := n3_; have HS1 := n4_; have HS2 := n5_; clear n1_ n2_ n3_ n4_ n5_; have hcC0 : wO.cell? ⟨wW.heap.size + 1 + 1, 0, none⟩ = some (.int .i64 3) := (blk_cell BC.out 0).trans rfl; have hcC1 : wO.cell? ⟨wW.heap.size + 1 + 1, 1, none⟩ = some (.slice (some ⟨wW.heap.size + 1, 0, none⟩) 1 1) := (blk_cell BC.out 1).trans rfl; have hcC2 : wO.cell? ⟨wW.heap.size + 1 + 1, 2, none⟩ = some (.slice none 0 0) := (blk_cell BC.out 2).trans rfl; have hcD0 : wO.cell? ⟨wD.heap.size, 0, none⟩ = some (.int .i64 3) := (blk_cell BD.out 0).trans rfl; have hcD1 : wO.cell? ⟨wD.heap.size, 1, none⟩ = some (.slice Ao1 Pure.liF.length co1) := (blk_cell BD.out 1).trans rfl; have hcD2 : wO.cell? ⟨wD.heap.size, 2, none⟩ = some (.slice Ao2 0 co2) := (blk_cell BD.out 2).trans rfl) | ((with_reducible refine gate_callee (f := 14) rfl ?_); (try (refine gate_guard (by rfl) ?_; dsimp only)); refine goesS (some 51) Tryz.func14 #[.agg #[.int .i64 3, .slice (some ⟨wW.heap.size + 1, 0, none⟩) 1 1, .slice none 0 0], .agg #[.int .i64 3, .slice Ao1 Pure.liF.length co1, .slice Ao2 0 co2]] ?_; (with_reducible refine (li_samecall _ _ _ _ _ _ _ BA.out BB.out (Kd.S_reads' HS1.out) (Kd.S_reads' HS2.out)).mono ?_); rintro e wS ⟨rfl, hb⟩; refine ⟨_, rfl, ?_⟩; have HBS := Aside0.mk (below_step HBO.out hb); clear hb) | ((with_reducible refine gate_callee (f := 32) rfl ?_); (try (refine gate_guard (by rfl) ?_; dsimp only)); refine goesS (some 66) Tryz.func32 #[.string (⟨#[49, 50, 51, 52, 53, 54, 55, 56, 57]⟩ : ByteArray)] ?_; (with_reducible refine (journal_Sum.calls kS _ 10673 _ hS.out).mono ?_); rintro e w' ⟨rfl, ⟨nd, rfl⟩⟩; refine ⟨_, rfl, ?_⟩))
  go_ret
  exact ⟨rfl, pw_below_drewN HBS.out _⟩
end Go.Proofs.J.Print
end
section
namespace Go.Proofs.J.Print
open Go.RowKit Go.Proofs.PrintWords Go.Proofs.PrintLast Go.Proofs.PrintMore
def pedigreelaw01_BeyondFacts.l0 : Nat → List (S90) → Int → Int → Option (Bool)
 | 0, _, _, _ => none
 | k + 1, x0, x3, x4 => if x4 < (x0.length : Int) then (if 0 ≤ x4 then (if (wrap64 ((wrap64 (x3 + 1)) + (((rd_T90 x0 x4).f1).length : Int))) > 1048576 then (some true) else (pedigreelaw01_BeyondFacts.l0 k x0 (wrap64 ((wrap64 (x3 + 1)) + (((rd_T90 x0 x4).f1).length : Int))) (wrap64 (x4 + 1)))) else (none)) else (some false)
def pedigreelaw01_BeyondFacts.f (k : Nat) (l0 : List (S90)) : Option (Bool) := pedigreelaw01_BeyondFacts.l0 k l0 0 0
set_option maxHeartbeats 8000000 in
set_option maxRecDepth 100000 in
theorem pedigreelaw01_BeyondFacts.calls (k : Nat) (A0 : Option Addr) (c0 : Nat) (l0 : List (S90)) (r : Bool) (w : World) (hr0 : Kd.C k90 w A0 l0.length l0) (hc0 : l0.length ≤ c0) (h : pedigreelaw01_BeyondFacts.f k l0 = some r) :
  Calls Tryz.prog 18 #[.slice A0 l0.length c0] w fun e w' => e = .returned (.bool r) ∧ Drawn0 w w' := by
 have HR0 := Aside0.mk hr0
 have HC0 := Aside0.mk hc0
 clear hr0 hc0
 have H : (pedigreelaw01_BeyondFacts.l0 k l0 0 0) = some r := h
 clear h
 have H' := Aside0.mk H
 clear H
 go_enter Tryz.func18, Tryz.ntmps18
 go_wp2
 go_loopg [3, 4] k (fun kq v3 v4 w' => ∃ (x3_1 : Int) (x4_1 : Int), v3 = .int .i64 x3_1 ∧ v4 = .int .i64 x4_1 ∧ Aside0 (pedigreelaw01_BeyondFacts.l0 kq l0 x3_1 x4_1 = some r) ∧ Aside0 (kq ≤ k) ∧ Drawn0 w w')
 case atStart => exact ⟨(0), (0), eqS, eqS, H', ⟨Nat.le_refl _⟩, by repeat (first | exact Drawn0.refl _ | apply Drawn0.step)⟩
 case round =>
  clear H'
  try clear c1
  obtain ⟨x3_1, x4_1, rfl, rfl, HA, HK1, ⟨m1, rfl⟩⟩ := hrel
  cases gk with
  | zero => exact absurd HA.out (by simp [pedigreelaw01_BeyondFacts.l0])
  | succ k1 =>
   have H := HA.out
   clear HA
   simp only [pedigreelaw01_BeyondFacts.l0] at H
   by_cases c2 : x4_1 < (l0.length : Int)
   ·rw [if_pos c2] at H
    have c2b0 := decide_eq_true c2
    clear c2
    by_cases c3 : 0 ≤ x4_1
    ·rw [if_pos c3] at H
     have c3b0 := decide_eq_true c3
     clear c3
     by_cases c4 : (wrap64 ((wrap64 (x3_1 + 1)) + (((rd_T90 l0 x4_1).f1).length : Int))) > 1048576
     ·rw [if_pos c4] at H
      have c4b0 := decide_eq_true c4
      clear c4
      obtain rfl := Option.some.inj H
      have p323 : 0 ≤ (x4_1 : Int) := of_decide_eq_true byA
      have q323 : x4_1 < (l0.length : Int) := of_decide_eq_true byA
      obtain ⟨ad323, A323_1, c323_1, e323, hx323_0, hx323_1, hl323_1, hi323_1⟩ := at_T90 HR0.out x4_1 p323 q323
      cases e323
      have HR323_1 := Aside0.mk hi323_1
      have HC323_1 := Aside0.mk hl323_1
      clear hi323_1 hl323_1
      replace p323 := eq_true p323
      replace q323 := eq_true q323
      go_wp2
      go_ret
      exact ⟨eqS, by repeat (first | exact Drawn0.refl _ | apply Drawn0.step)⟩
     ·rw [if_neg c4] at H
      have c4b0 := decide_eq_false c4
      clear c4
      have H' := Aside0.mk H
      clear H
      have p323 : 0 ≤ (x4_1 : Int) := of_decide_eq_true byA
      have q323 : x4_1 < (l0.length : Int) := of_decide_eq_true byA
      obtain ⟨ad323, A323_1, c323_1, e323, hx323_0, hx323_1, hl323_1, hi323_1⟩ := at_T90 HR0.out x4_1 p323 q323
      cases e323
      have HR323_1 := Aside0.mk hi323_1
      have HC323_1 := Aside0.mk hl323_1
      clear hi323_1 hl323_1
      replace p323 := eq_true p323
      replace q323 := eq_true q323
      go_wp2
      go_roundg k1
      case measure => have := HK1.out; omega
      case rel => exact ⟨(wrap64 ((wrap64 (x3_1 + 1)) + (((rd_T90 l0 x4_1).f1).length : Int))), (wrap64 (x4_1 + 1)), eqS, eqS, H', ⟨by have := HK1.out; omega⟩, by repeat (first | exact Drawn0.refl _ | apply Drawn0.step)⟩
    ·rw [if_neg c3] at H
     exact absurd H (by simp)
   ·rw [if_neg c2] at H
    have c2b0 := decide_eq_false c2
    clear c2
    obtain rfl := Option.some.inj H
    go_wp2
    go_ret
    exact ⟨eqS, by repeat (first | exact Drawn0.refl _ | apply Drawn0.step)⟩
end Go.Proofs.J.Print
end
section
namespace Go.Proofs.J.Print
open Go.RowKit Go.Proofs.PrintWords Go.Proofs.PrintLast Go.Proofs.PrintMore
def pedigreelaw29_beyond.f (k : Nat) (a0_0 : Int) (l0_1 : List (S90)) (l0_2 : List (S90)) : Option (Bool) := (pedigreelaw01_BeyondFacts.f k l0_1).bind fun t325 => (if t325 = true then (some true) else ((pedigreelaw01_BeyondFacts.f k l0_2).bind fun t326 => (some t326)))
set_option maxHeartbeats 8000000 in
set_option maxRecDepth 100000 in
theorem pedigreelaw29_beyond.calls (k : Nat) (a0_0 : Int) (A0_1 : Option Addr) (c0_1 : Nat) (l0_1 : List (S90)) (A0_2 : Option Addr) (c0_2 : Nat) (l0_2 : List (S90)) (r : Bool) (w : World) (hr0_1 : Kd.C k90 w A0_1 l0_1.length l0_1) (hc0_1 : l0_1.length ≤ c0_1) (hr0_2 : Kd.C k90 w A0_2 l0_2.length l0_2) (hc0_2 : l0_2.length ≤ c0_2) (h : pedigreelaw29_beyond.f k a0_0 l0_1 l0_2 = some r) :
  Calls Tryz.prog 6 #[.agg #[.int .i64 a0_0, .slice A0_1 l0_1.length c0_1, .slice A0_2 l0_2.length c0_2]] w fun e w' => e = .returned (.bool r) ∧ Below w.heap.size w w' := by
 have hu24 := Tryz.underlying24
 have HR0_1 := Aside0.mk hr0_1
 have HC0_1 := Aside0.mk hc0_1
 clear hr0_1 hc0_1
 have HR0_2 := Aside0.mk hr0_2
 have HC0_2 := Aside0.mk hc0_2
 clear hr0_2 hc0_2
 have HB := Aside0.mk (Below.refl w.heap.size w)
 have H : ((pedigreelaw01_BeyondFacts.f k l0_1).bind fun t325 => (if t325 = true then (some true) else ((pedigreelaw01_BeyondFacts.f k l0_2).bind fun t326 => (some t326)))) = some r := h
 clear h
 replace H := Option.bind_eq_some_iff.mp H
 obtain ⟨t325, A20, H⟩ := H
 replace H : (if t325 = true then (some true) else ((pedigreelaw01_BeyondFacts.f k l0_2).bind fun t326 => (some t326))) = some r := H
 have A2 := Aside0.mk A20
 clear A20
 by_cases c3 : t325 = true
 focus
  subst c3
  have H1 : (some true) = some r := by rw [if_pos rfl] at H; exact H
  clear H
  have H := H1
  clear H1
  obtain rfl := Option.some.inj H
 rotate_right
 focus
  replace c3 := Bool.eq_false_iff.mpr c3
  subst c3
  have H1 : ((pedigreelaw01_BeyondFacts.f k l0_2).bind fun t326 => (some t326)) = some r := by rw [if_neg (show ¬ (false = true) by decide)] at H; exact H
  clear H
  have H := H1
  clear H1
  replace H := Option.bind_eq_some_iff.mp H
  obtain ⟨t326, A60, H⟩ := H
  replace H : (some t326) = some r := H
  have A6 := Aside0.mk A60
  clear A60
  obtain rfl := Option.some.inj H
 all_goals (go_enter Tryz.func6, Tryz.ntmps6; go_wp2_with (first | ((with_reducible refine gate_dst (N := 1) rfl ?_); refine boxS 1 #[.int .i64 a0_0, .slice A0_1 l0_1.length c0_1, .slice A0_2 l0_2.length c0_2] 24 ?_; intro gb324 hg wq1 hbox hb; have n0_ := Aside0.mk (below_step (upB HB.out) hb); have n1_ := Aside0.mk (hbox); have n2_ := Aside0.mk (geB hg (upB HB.out) : w.heap.size ≤ gb324); have n3_ := Aside0.mk (geB hg (upB HB.out) : w.heap.size ≤ gb324); clear HB; have HB := n0_; have BK324 := n1_; have GW324 := n2_; have GE324 := n3_; clear n0_ n1_ n2_ n3_; clear hb hbox hg; have hczq1_0 : wq1.cell? ⟨gb324, 0, none⟩ = some (.int .i64 a0_0) := (blk_cell BK324.out 0).trans rfl; have hczq1_1 : wq1.cell? ⟨gb324, 1, none⟩ = some (.slice A0_1 l0_1.length c0_1) := (blk_cell BK324.out 1).trans rfl; have hczq1_2 : wq1.cell? ⟨gb324, 2, none⟩ = some (.slice A0_2 l0_2.length c0_2) := (blk_cell BK324.out 2).trans rfl; have hfzq1_0 := blk_frozen BK324.out 0; have hfzq1_1 := blk_frozen BK324.out 1; have hfzq1_2 := blk_frozen BK324.out 2) | ((with_reducible refine gate_callee (f := 18) rfl ?_); refine goesS (some 5) Tryz.func18 #[.slice A0_1 l0_1.length c0_1] ?_; (with_reducible refine (pedigreelaw01_BeyondFacts.calls k _ _ l0_1 false _ ?side1 ?side2 A2.out).mono ?_); (case side1 => exact upC (Kd.C_below HR0_1.out HB.out)); (case side2 => exact HC0_1.out); rintro e w' ⟨rfl, ⟨nd, rfl⟩⟩; refine ⟨_, rfl, ?_⟩) | ((with_reducible refine gate_callee (f := 18) rfl ?_); refine goesS (some 5) Tryz.func18 #[.slice A0_1 l0_1.length c0_1] ?_; (with_reducible refine (pedigreelaw01_BeyondFacts.calls k _ _ l0_1 true _ ?side1 ?side2 A2.out).mono ?_); (case side1 => exact upC (Kd.C_below HR0_1.out HB.out)); (case side2 => exact HC0_1.out); rintro e w' ⟨rfl, ⟨nd, rfl⟩⟩; refine ⟨_, rfl, ?_⟩) | (go_at_call 18; (with_reducible refine (pedigreelaw01_BeyondFacts.calls k _ _ l0_2 t326 _ ?side1 ?side2 A6.out).mono ?_); (case side1 => exact upC (Kd.C_below HR0_2.out (upB HB.out))); (case side2 => exact HC0_2.out); rintro e w' ⟨rfl, ⟨nd, rfl⟩⟩)); first | (go_ret; exact ⟨eqE, upB HB.out⟩))
end Go.Proofs.J.Print
end
section
namespace Go.Proofs.J.Print
open Go.RowKit Go.Proofs.PrintWords Go.Proofs.PrintLast Go.Proofs.PrintMore
theorem S_M90 {w : World} {base : Nat} {ok : Nat → Prop} {A : Option Addr} {c : Nat} {m : ByteArray} {l : List S90} (h : Kd.S kM 90 w base ok (.slice A (SMs m l).length c) (SMs m l)) : l.length + 1 ≤ c ∧ Kd.C kM w A (l.length + 1) (SMs m l) ∧ Kd.C k90 w A l.length l := by
  have h1 := Kd.S_reads' h
  rw [SMs_length] at h1
  exact ⟨h1.2.1, h1.2.2, SMs_C90 h1.2.2⟩
set_option maxHeartbeats 8000000 in
set_option maxRecDepth 100000 in
theorem encodes_beyond (k : Nat) (a0_0 : Int) (A0_1 : Option Addr) (c0_1 : Nat) (l0_1 : List S90) (A0_2 : Option Addr) (c0_2 : Nat) (l0_2 : List S90) (w : World) (hr0_1 : Kd.C k90 w A0_1 l0_1.length l0_1) (hc0_1 : l0_1.length ≤ c0_1) (hr0_2 : Kd.C k90 w A0_2 l0_2.length l0_2) (hc0_2 : l0_2.length ≤ c0_2) (hb_ : pedigreelaw29_beyond.f k a0_0 l0_1 l0_2 = some true) :
    Calls Tryz.prog 3 #[.agg #[.int .i64 a0_0, .slice A0_1 l0_1.length c0_1, .slice A0_2 l0_2.length c0_2]] w fun e w' => e = .returned (.bool true) ∧ Below w.heap.size w w' := by
  have hu24 := Tryz.underlying24
  have HR0_1 := Aside0.mk hr0_1
  have HC0_1 := Aside0.mk hc0_1
  have HR0_2 := Aside0.mk hr0_2
  have HC0_2 := Aside0.mk hc0_2
  clear hr0_1 hc0_1 hr0_2 hc0_2
  have HB := Aside0.mk (Below.refl w.heap.size w)
  have A2 := Aside0.mk hb_
  clear hb_
  go_enter Tryz.func3, Tryz.ntmps3
  go_wp2_with (first | ((with_reducible refine gate_dst (N := 1) rfl ?_); refine boxS 1 #[.int .i64 a0_0, .slice A0_1 l0_1.length c0_1, .slice A0_2 l0_2.length c0_2] 24 ?_; intro gb297 hg w4 hbox hb; have n0_ := Aside0.mk (below_step (upB HB.out) hb); have n1_ := Aside0.mk (hbox); have n2_ := Aside0.mk (geB hg (upB HB.out) : w.heap.size ≤ gb297); have n3_ := Aside0.mk (geB hg (upB HB.out) : w.heap.size ≤ gb297); clear HB; have HB := n0_; have BK297 := n1_; have GW297 := n2_; have GE297 := n3_; clear n0_ n1_ n2_ n3_; clear hb hbox hg; have hcz5_0 : w4.cell? ⟨gb297, 0, none⟩ = some (.int .i64 a0_0) := (blk_cell BK297.out 0).trans rfl; have hcz5_1 : w4.cell? ⟨gb297, 1, none⟩ = some (.slice A0_1 l0_1.length c0_1) := (blk_cell BK297.out 1).trans rfl; have hcz5_2 : w4.cell? ⟨gb297, 2, none⟩ = some (.slice A0_2 l0_2.length c0_2) := (blk_cell BK297.out 2).trans rfl; have hfz5_0 := blk_frozen BK297.out 0; have hfz5_1 := blk_frozen BK297.out 1; have hfz5_2 := blk_frozen BK297.out 2) | ((with_reducible refine gate_callee (f := 6) rfl ?_); refine goesS (some 9) Tryz.func6 #[.agg #[.int .i64 a0_0, .slice A0_1 l0_1.length c0_1, .slice A0_2 l0_2.length c0_2]] ?_; (with_reducible refine (pedigreelaw29_beyond.calls k a0_0 _ _ l0_1 _ _ l0_2 true _ ?side1 ?side2 ?side3 ?side4 A2.out).mono ?_); (case side1 => exact upC (Kd.C_below HR0_1.out HB.out)); (case side2 => exact HC0_1.out); (case side3 => exact upC (Kd.C_below HR0_2.out HB.out)); (case side4 => exact HC0_2.out); rintro e w6 ⟨rfl, hb⟩; refine ⟨_, rfl, ?_⟩; have n0_ := Aside0.mk (blk_below (g := gb297) (o := .cells #[.int .i64 a0_0, .slice A0_1 l0_1.length c0_1, .slice A0_2 l0_2.length c0_2] 24 (0, 0)) (upO BK297.out) hb); have n1_ := Aside0.mk (below_step (upB HB.out) hb); clear BK297; clear HB; have BK297 := n0_; have HB := n1_; clear n0_ n1_; (try clear hb); (try clear hb2); (try clear hk); (try clear hi)))
  go_ret
  exact ⟨eqE, upB HB.out⟩
set_option maxHeartbeats 8000000 in
set_option maxRecDepth 100000 in
theorem encodes_goes (k : Nat) (a0_0 : Int) (A0_1 : Option Addr) (c0_1 : Nat) (l0_1 : List S90) (A0_2 : Option Addr) (c0_2 : Nat) (l0_2 : List S90) (sv : ByteArray) (ev : Int) (w : World) (hr0_1 : Kd.C k90 w A0_1 l0_1.length l0_1) (hc0_1 : l0_1.length ≤ c0_1) (hr0_2 : Kd.C k90 w A0_2 l0_2.length l0_2) (hc0_2 : l0_2.length ≤ c0_2) (hw : WordOk 777777 w)
    (hs1 : ∀ i : Int, (rd_T90 l0_1 i).f1.length ≤ 1048576) (hs2 : ∀ i : Int, (rd_T90 l0_2 i).f1.length ≤ 1048576) (hl1 : l0_1.length ≤ 1048576) (hl2 : l0_2.length ≤ 1048576)
    (hb_ : pedigreelaw29_beyond.f k a0_0 l0_1 l0_2 = some false) (hre : pedigreeref29_Encode.f k a0_0 l0_1 l0_2 = some (sv, ev)) (hpe : journal_Encode.f k a0_0 l0_1 l0_2 = some (sv, ev)) :
    Calls Tryz.prog 3 #[.agg #[.int .i64 a0_0, .slice A0_1 l0_1.length c0_1, .slice A0_2 l0_2.length c0_2]] w fun e w' => e = .returned (.bool true) ∧ Below w.heap.size w w' := by
  have hu24 := Tryz.underlying24
  have HR0_1 := Aside0.mk hr0_1
  have HC0_1 := Aside0.mk hc0_1
  have HR0_2 := Aside0.mk hr0_2
  have HC0_2 := Aside0.mk hc0_2
  clear hr0_1 hc0_1 hr0_2 hc0_2
  have HB := Aside0.mk (Below.refl w.heap.size w)
  have A2 := Aside0.mk hb_
  have A7 := Aside0.mk hre
  have A9 := Aside0.mk hpe
  have HW0_ := Aside0.mk hw
  have HS1 := Aside0.mk hs1
  have HS2 := Aside0.mk hs2
  have HL1 := Aside0.mk hl1
  have HL2 := Aside0.mk hl2
  clear hb_ hre hpe hw hs1 hs2 hl1 hl2
  have c10b0 : (sv.toList == sv.toList) = true := beq_iff_eq.mpr rfl
  have c10b1 : (sv.toList != sv.toList) = false := bne_eq_false_iff_eq.mpr rfl
  have c11b0 : (ev == ev) = true := beq_iff_eq.mpr rfl
  have c11b1 : (ev != ev) = false := bne_eq_false_iff_eq.mpr rfl
  go_enter Tryz.func3, Tryz.ntmps3
  go_wp2_with (first | ((with_reducible refine gate_dst (N := 1) rfl ?_); refine boxS 1 #[.int .i64 a0_0, .slice A0_1 l0_1.length c0_1, .slice A0_2 l0_2.length c0_2] 24 ?_; intro gb297 hg w15 hbox hb; have n0_ := Aside0.mk (below_step (upB HB.out) hb); have n1_ := Aside0.mk (hbox); have n2_ := Aside0.mk (geB hg (upB HB.out) : w.heap.size ≤ gb297); have n3_ := Aside0.mk (geB hg (upB HB.out) : w.heap.size ≤ gb297); clear HB; have HB := n0_; have BK297 := n1_; have GW297 := n2_; have GE297 := n3_; clear n0_ n1_ n2_ n3_; clear hb hbox hg; have hcz16_0 : w15.cell? ⟨gb297, 0, none⟩ = some (.int .i64 a0_0) := (blk_cell BK297.out 0).trans rfl; have hcz16_1 : w15.cell? ⟨gb297, 1, none⟩ = some (.slice A0_1 l0_1.length c0_1) := (blk_cell BK297.out 1).trans rfl; have hcz16_2 : w15.cell? ⟨gb297, 2, none⟩ = some (.slice A0_2 l0_2.length c0_2) := (blk_cell BK297.out 2).trans rfl; have hfz16_0 := blk_frozen BK297.out 0; have hfz16_1 := blk_frozen BK297.out 1; have hfz16_2 := blk_frozen BK297.out 2) | ((with_reducible refine gate_callee (f := 6) rfl ?_); refine goesS (some 9) Tryz.func6 #[.agg #[.int .i64 a0_0, .slice A0_1 l0_1.length c0_1, .slice A0_2 l0_2.length c0_2]] ?_; (with_reducible refine (pedigreelaw29_beyond.calls k a0_0 _ _ l0_1 _ _ l0_2 false _ ?side1 ?side2 ?side3 ?side4 A2.out).mono ?_); (case side1 => exact upC (Kd.C_below HR0_1.out HB.out)); (case side2 => exact HC0_1.out); (case side3 => exact upC (Kd.C_below HR0_2.out HB.out)); (case side4 => exact HC0_2.out); rintro e w17 ⟨rfl, hb⟩; refine ⟨_, rfl, ?_⟩; have n0_ := Aside0.mk (blk_below (g := gb297) (o := .cells #[.int .i64 a0_0, .slice A0_1 l0_1.length c0_1, .slice A0_2 l0_2.length c0_2] 24 (0, 0)) (upO BK297.out) hb); have n1_ := Aside0.mk (below_step (upB HB.out) hb); clear BK297; clear HB; have BK297 := n0_; have HB := n1_; clear n0_ n1_; (try clear hb); (try clear hb2); (try clear hk); (try clear hi); have hcz18_0 : w17.cell? ⟨gb297, 0, none⟩ = some (.int .i64 a0_0) := (blk_cell BK297.out 0).trans rfl; have hcz18_1 : w17.cell? ⟨gb297, 1, none⟩ = some (.slice A0_1 l0_1.length c0_1) := (blk_cell BK297.out 1).trans rfl; have hcz18_2 : w17.cell? ⟨gb297, 2, none⟩ = some (.slice A0_2 l0_2.length c0_2) := (blk_cell BK297.out 2).trans rfl; have hfz18_0 := blk_frozen BK297.out 0; have hfz18_1 := blk_frozen BK297.out 1; have hfz18_2 := blk_frozen BK297.out 2) | ((with_reducible refine gate_callee (f := 7) rfl ?_); refine goesS (some 12) Tryz.func7 #[.agg #[.int .i64 a0_0, .slice A0_1 l0_1.length c0_1, .slice A0_2 l0_2.length c0_2]] ?_; (with_reducible refine (pedigreeref29_Encode.calls k a0_0 _ _ l0_1 _ _ l0_2 sv ev _ ?side1 ?side2 ?side3 ?side4 A7.out).mono ?_); (case side1 => exact upC (Kd.C_below HR0_1.out HB.out)); (case side2 => exact HC0_1.out); (case side3 => exact upC (Kd.C_below HR0_2.out HB.out)); (case side4 => exact HC0_2.out); rintro e w19 ⟨rfl, hb⟩; refine ⟨_, rfl, ?_⟩; have n0_ := Aside0.mk (blk_below (g := gb297) (o := .cells #[.int .i64 a0_0, .slice A0_1 l0_1.length c0_1, .slice A0_2 l0_2.length c0_2] 24 (0, 0)) (upO BK297.out) hb); have n1_ := Aside0.mk (below_step (upB HB.out) hb); clear BK297; clear HB; have BK297 := n0_; have HB := n1_; clear n0_ n1_; (try clear hb); (try clear hb2); (try clear hk); (try clear hi); have hcz20_0 : w19.cell? ⟨gb297, 0, none⟩ = some (.int .i64 a0_0) := (blk_cell BK297.out 0).trans rfl; have hcz20_1 : w19.cell? ⟨gb297, 1, none⟩ = some (.slice A0_1 l0_1.length c0_1) := (blk_cell BK297.out 1).trans rfl; have hcz20_2 : w19.cell? ⟨gb297, 2, none⟩ = some (.slice A0_2 l0_2.length c0_2) := (blk_cell BK297.out 2).trans rfl; have hfz20_0 := blk_frozen BK297.out 0; have hfz20_1 := blk_frozen BK297.out 1; have hfz20_2 := blk_frozen BK297.out 2) | ((with_reducible refine gate_callee (f := 8) rfl ?_); refine goesS (some 16) Tryz.func8 #[.agg #[.int .i64 a0_0, .slice A0_1 l0_1.length c0_1, .slice A0_2 l0_2.length c0_2]] ?_; (with_reducible refine (twinCommit_calls a0_0 _ _ l0_1 _ _ l0_2 _ ?side1 ?side2 ?side3 ?side4 (HW0_.out.below (upB HB.out)) HS1.out HS2.out HL1.out HL2.out).mono ?_); (case side1 => exact upC (Kd.C_below HR0_1.out HB.out)); (case side2 => exact HC0_1.out); (case side3 => exact upC (Kd.C_below HR0_2.out HB.out)); (case side4 => exact HC0_2.out); rintro e w21 ⟨Ao25, co25, Ao26, co26, rfl, ho0, ho1, hb⟩; refine ⟨_, rfl, ?_⟩; have n0_ := Aside0.mk (Kd.S_lower ho0 (below_size (upB HB.out))); have n1_ := Aside0.mk (Kd.S_lower ho1 (below_size (upB HB.out))); have n2_ := Aside0.mk (blk_below (g := gb297) (o := .cells #[.int .i64 a0_0, .slice A0_1 l0_1.length c0_1, .slice A0_2 l0_2.length c0_2] 24 (0, 0)) (upO BK297.out) hb); have n3_ := Aside0.mk (below_step (upB HB.out) hb); clear BK297; clear HB; have HO304 := n0_; have HO307 := n1_; have BK297 := n2_; have HB := n3_; clear n0_ n1_ n2_ n3_; (try clear hb); (try clear hb2); (try clear hk); (try clear hi); (try clear ho0); (try clear ho1)) | ((with_reducible refine gate_dst (N := 5) rfl ?_); refine boxS 5 #[.int .i64 0, .slice none 0 0, .slice none 0 0] 24 ?_; intro gb308 hg w22 hbox hb; have n0_ := Aside0.mk (Kd.S_below (upS HO304.out) hb); have n1_ := Aside0.mk (Kd.S_below (upS HO307.out) hb); have n2_ := Aside0.mk (blk_below (g := gb297) (o := .cells #[.int .i64 a0_0, .slice A0_1 l0_1.length c0_1, .slice A0_2 l0_2.length c0_2] 24 (0, 0)) (upO BK297.out) hb); have n3_ := Aside0.mk (below_step (upB HB.out) hb); have n4_ := Aside0.mk (hbox); have n5_ := Aside0.mk (geB hg (upB HB.out) : w.heap.size ≤ gb308); have n6_ := Aside0.mk (geB hg (upB HB.out) : w.heap.size ≤ gb308); have n7_ := Aside0.mk ((by rw [hg]; exact Nat.ne_of_lt (blk_lt (g := gb297) (o := .cells #[.int .i64 a0_0, .slice A0_1 l0_1.length c0_1, .slice A0_2 l0_2.length c0_2] 24 (0, 0)) (upO BK297.out)) : gb297 ≠ gb308)); have n8_ := Aside0.mk ((by rw [hg]; exact Nat.ne_of_gt (blk_lt (g := gb297) (o := .cells #[.int .i64 a0_0, .slice A0_1 l0_1.length c0_1, .slice A0_2 l0_2.length c0_2] 24 (0, 0)) (upO BK297.out)) : gb308 ≠ gb297)); clear HO304; clear HO307; clear BK297; clear HB; have HO304 := n0_; have HO307 := n1_; have BK297 := n2_; have HB := n3_; have BK308 := n4_; have GW308 := n5_; have GE308 := n6_; have NB297_308 := n7_; have NB308_297 := n8_; clear n0_ n1_ n2_ n3_ n4_ n5_ n6_ n7_ n8_; clear hb hbox hg; have hnb23 := NB308_297.out; have hnc23 := NB297_308.out; have hcz24_0 : w22.cell? ⟨gb308, 0, none⟩ = some (.int .i64 0) := (blk_cell BK308.out 0).trans rfl; have hcz24_1 : w22.cell? ⟨gb308, 1, none⟩ = some (.slice none 0 0) := (blk_cell BK308.out 1).trans rfl; have hcz24_2 : w22.cell? ⟨gb308, 2, none⟩ = some (.slice none 0 0) := (blk_cell BK308.out 2).trans rfl; have hfz24_0 := blk_frozen BK308.out 0; have hfz24_1 := blk_frozen BK308.out 1; have hfz24_2 := blk_frozen BK308.out 2) | ((with_reducible refine gate_callee (f := 9) rfl ?_); refine goesS (some 19) Tryz.func9 #[.agg #[.int .i64 a0_0, .slice Ao25 l0_1.length co25, .slice Ao26 l0_2.length co26]] ?_; (with_reducible refine (journal_Encode.calls k a0_0 _ _ l0_1 _ _ l0_2 sv ev _ ?side1 ?side2 ?side3 ?side4 A9.out).mono ?_); (case side1 => refine (S_M90 (m := mwd 777777) (l := l0_1) (base := w.heap.size) (ok := fun _ => True) (c := co25) ?_).2.2; exact (by (with_reducible repeat (first | apply Kd.S_alloc | apply Kd.S_drewN | apply Kd.S_drew)); exact (Kd.S_mono (Kd.S_far (p := ⟨gb308, 2, none⟩) (Kd.S_far (p := ⟨gb308, 1, none⟩) (Kd.S_far (p := ⟨gb308, 0, none⟩) (Kd.S_types HO304.out BK308.out (by decide)) (fun _ hk => hk.2) (.int .i64 a0_0)) (fun _ hk => hk.2) (.slice Ao25 l0_1.length co25)) (fun _ hk => hk.2) (.slice Ao26 l0_2.length co26)) (fun _ h_ => h_.1)))); (case side2 => exact Nat.le_of_succ_le (S_M90 HO304.out).1); (case side3 => refine (S_M90 (m := mwd 777777) (l := l0_2) (base := w.heap.size) (ok := fun _ => True) (c := co26) ?_).2.2; exact (by (with_reducible repeat (first | apply Kd.S_alloc | apply Kd.S_drewN | apply Kd.S_drew)); exact (Kd.S_mono (Kd.S_far (p := ⟨gb308, 2, none⟩) (Kd.S_far (p := ⟨gb308, 1, none⟩) (Kd.S_far (p := ⟨gb308, 0, none⟩) (Kd.S_types HO307.out BK308.out (by decide)) (fun _ hk => hk.2) (.int .i64 a0_0)) (fun _ hk => hk.2) (.slice Ao25 l0_1.length co25)) (fun _ hk => hk.2) (.slice Ao26 l0_2.length co26)) (fun _ h_ => h_.1)))); (case side4 => exact Nat.le_of_succ_le (S_M90 HO307.out).1); rintro e w27 ⟨rfl, hb⟩; refine ⟨_, rfl, ?_⟩; have n0_ := Aside0.mk (Kd.S_below (by (with_reducible repeat (first | apply Kd.S_alloc | apply Kd.S_drewN | apply Kd.S_drew)); exact (Kd.S_mono (Kd.S_far (p := ⟨gb308, 2, none⟩) (Kd.S_far (p := ⟨gb308, 1, none⟩) (Kd.S_far (p := ⟨gb308, 0, none⟩) (Kd.S_types HO304.out BK308.out (by decide)) (fun _ hk => hk.2) (.int .i64 a0_0)) (fun _ hk => hk.2) (.slice Ao25 l0_1.length co25)) (fun _ hk => hk.2) (.slice Ao26 l0_2.length co26)) (fun _ h_ => h_.1))) hb); have n1_ := Aside0.mk (Kd.S_below (by (with_reducible repeat (first | apply Kd.S_alloc | apply Kd.S_drewN | apply Kd.S_drew)); exact (Kd.S_mono (Kd.S_far (p := ⟨gb308, 2, none⟩) (Kd.S_far (p := ⟨gb308, 1, none⟩) (Kd.S_far (p := ⟨gb308, 0, none⟩) (Kd.S_types HO307.out BK308.out (by decide)) (fun _ hk => hk.2) (.int .i64 a0_0)) (fun _ hk => hk.2) (.slice Ao25 l0_1.length co25)) (fun _ hk => hk.2) (.slice Ao26 l0_2.length co26)) (fun _ h_ => h_.1))) hb); have n2_ := Aside0.mk (blk_below (g := gb297) (o := .cells #[.int .i64 a0_0, .slice A0_1 l0_1.length c0_1, .slice A0_2 l0_2.length c0_2] 24 (0, 0)) (by refine upO ?_; refine blk_far ?_ NB297_308.out _; refine upO ?_; refine blk_far ?_ NB297_308.out _; refine upO ?_; refine blk_far ?_ NB297_308.out _; exact upO BK297.out) hb); have n3_ := Aside0.mk (blk_below (g := gb308) (o := .cells #[.int .i64 a0_0, .slice Ao25 l0_1.length co25, .slice Ao26 l0_2.length co26] 24 (0, 0)) (by refine upO ?_; refine blk_put (cs := #[.int .i64 a0_0, .slice Ao25 l0_1.length co25, .slice none 0 0]) ?_ 2 _ rfl; refine upO ?_; refine blk_put (cs := #[.int .i64 a0_0, .slice none 0 0, .slice none 0 0]) ?_ 1 _ rfl; refine upO ?_; refine blk_put (cs := #[.int .i64 0, .slice none 0 0, .slice none 0 0]) ?_ 0 _ rfl; exact upO BK308.out) hb); have n4_ := Aside0.mk (below_step (upB HB.out) hb); clear HO304; clear HO307; clear BK297; clear BK308; clear HB; have HO304 := n0_; have HO307 := n1_; have BK297 := n2_; have BK308 := n3_; have HB := n4_; clear n0_ n1_ n2_ n3_ n4_; (try clear hb); (try clear hb2); (try clear hk); (try clear hi); have hcz28_0 : w27.cell? ⟨gb308, 0, none⟩ = some (.int .i64 a0_0) := (blk_cell BK308.out 0).trans rfl; have hcz28_1 : w27.cell? ⟨gb308, 1, none⟩ = some (.slice Ao25 l0_1.length co25) := (blk_cell BK308.out 1).trans rfl; have hcz28_2 : w27.cell? ⟨gb308, 2, none⟩ = some (.slice Ao26 l0_2.length co26) := (blk_cell BK308.out 2).trans rfl; have hfz28_0 := blk_frozen BK308.out 0; have hfz28_1 := blk_frozen BK308.out 1; have hfz28_2 := blk_frozen BK308.out 2; have hcz29_0 : w27.cell? ⟨gb297, 0, none⟩ = some (.int .i64 a0_0) := (blk_cell BK297.out 0).trans rfl; have hcz29_1 : w27.cell? ⟨gb297, 1, none⟩ = some (.slice A0_1 l0_1.length c0_1) := (blk_cell BK297.out 1).trans rfl; have hcz29_2 : w27.cell? ⟨gb297, 2, none⟩ = some (.slice A0_2 l0_2.length c0_2) := (blk_cell BK297.out 2).trans rfl; have hfz29_0 := blk_frozen BK297.out 0; have hfz29_1 := blk_frozen BK297.out 1; have hfz29_2 := blk_frozen BK297.out 2) | (go_at_call 10; (with_reducible refine (leftCommit_calls a0_0 _ _ _ _ _ _ _ _ l0_1 l0_2 _ ?side1 ?side2 ?side3 ?side4 ?side5 ?side6 ?side7 ?side8 (HW0_.out.below (upB HB.out)) HS1.out HS2.out HL1.out HL2.out).mono ?_); (case side1 => repeat (first | exact (S_M90 HO304.out).2.1 | (with_reducible refine Kd.C_alloc ?_ _) | (with_reducible refine Kd.C_drewN ?_ _) | (with_reducible refine Kd.C_drew ?_))); (case side2 => exact (S_M90 HO304.out).1); (case side3 => repeat (first | exact (S_M90 HO307.out).2.1 | (with_reducible refine Kd.C_alloc ?_ _) | (with_reducible refine Kd.C_drewN ?_ _) | (with_reducible refine Kd.C_drew ?_))); (case side4 => exact (S_M90 HO307.out).1); (case side5 => exact upC (Kd.C_below HR0_1.out HB.out)); (case side6 => exact HC0_1.out); (case side7 => exact upC (Kd.C_below HR0_2.out HB.out)); (case side8 => exact HC0_2.out); rintro e w30 ⟨rfl, hb⟩; have n0_ := Aside0.mk (Kd.S_below (upS HO304.out) hb); have n1_ := Aside0.mk (Kd.S_below (upS HO307.out) hb); have n2_ := Aside0.mk (blk_below (g := gb297) (o := .cells #[.int .i64 a0_0, .slice A0_1 l0_1.length c0_1, .slice A0_2 l0_2.length c0_2] 24 (0, 0)) (upO BK297.out) hb); have n3_ := Aside0.mk (blk_below (g := gb308) (o := .cells #[.int .i64 a0_0, .slice Ao25 l0_1.length co25, .slice Ao26 l0_2.length co26] 24 (0, 0)) (upO BK308.out) hb); have n4_ := Aside0.mk (below_step (upB HB.out) hb); clear HO304; clear HO307; clear BK297; clear BK308; clear HB; have HO304 := n0_; have HO307 := n1_; have BK297 := n2_; have BK308 := n3_; have HB := n4_; clear n0_ n1_ n2_ n3_ n4_; (try clear hb); (try clear hb2); (try clear hk); (try clear hi)) | (go_at_call 11; (with_reducible refine (pedigreelaw29_lives.calls true _ rfl).mono ?_); rintro e w31 ⟨rfl, hb⟩; have n0_ := Aside0.mk (Kd.S_below (upS HO304.out) hb); have n1_ := Aside0.mk (Kd.S_below (upS HO307.out) hb); have n2_ := Aside0.mk (blk_below (g := gb297) (o := .cells #[.int .i64 a0_0, .slice A0_1 l0_1.length c0_1, .slice A0_2 l0_2.length c0_2] 24 (0, 0)) (upO BK297.out) hb); have n3_ := Aside0.mk (blk_below (g := gb308) (o := .cells #[.int .i64 a0_0, .slice Ao25 l0_1.length co25, .slice Ao26 l0_2.length co26] 24 (0, 0)) (upO BK308.out) hb); have n4_ := Aside0.mk (below_step (upB HB.out) hb); clear HO304; clear HO307; clear BK297; clear BK308; clear HB; have HO304 := n0_; have HO307 := n1_; have BK297 := n2_; have BK308 := n3_; have HB := n4_; clear n0_ n1_ n2_ n3_ n4_; (try clear hb); (try clear hb2); (try clear hk); (try clear hi)))
  go_ret
  exact ⟨eqE, upB HB.out⟩
end Go.Proofs.J.Print
end
section
namespace Go.Proofs.J.Pure
open Go.RowKit Go.Proofs.J.Print Go.Proofs.PrintWords Go.Proofs.PrintLast Go.Proofs.PrintMore
theorem beyond_loop (l : List S90) (hf : Fits l) (m : Nat) : ∀ (i n : Nat), i + m = l.length → i ≤ n → n ≤ 1048576 → ∃ b, Ev (fun k => pedigreelaw01_BeyondFacts.l0 k l (n : Int) (i : Int)) b ∧ (b = false → l.length ≤ 1048576 ∧ ∀ f ∈ l.drop i, f.f1.length ≤ 1048576) := by
  induction m with
  | zero =>
    intro i n hi h1 h2
    refine ⟨false, Ev.succ (Ev.congr (fun k => by rw [pedigreelaw01_BeyondFacts.l0, if_neg (by omega)]) (Ev.const rfl)), fun _ => ⟨by omega, ?_⟩⟩
    rw [List.drop_of_length_le (by omega)]
    intro f hf
    cases hf
  | succ m ih =>
    intro i n hi h1 h2
    have hlt : i < l.length := by omega
    have hb := (hf.2 _ (rd90_mem l i hlt)).1
    have e1 : wrap64 (wrap64 ((n : Int) + 1) + ((rd_T90 l (i : Int)).f1.length : Int)) = ((n + 1 + (rd_T90 l (i : Int)).f1.length : Nat) : Int) := by
      rw [w64 ((n : Int) + 1) (by omega) (by omega), w64 _ (by omega) (by omega)]
      omega
    by_cases c : n + 1 + (rd_T90 l (i : Int)).f1.length > 1048576
    · exact ⟨true, Ev.succ (Ev.congr (fun k => by rw [pedigreelaw01_BeyondFacts.l0, if_pos (by omega), if_pos (by omega), e1, if_pos (by omega)]) (Ev.const rfl)), fun h => by cases h⟩
    · obtain ⟨b, h3, h4⟩ := ih (i + 1) (n + 1 + (rd_T90 l (i : Int)).f1.length) (by omega) (by omega) (by omega)
      refine ⟨b, Ev.succ (Ev.congr (fun k => by rw [pedigreelaw01_BeyondFacts.l0, if_pos (by omega), if_pos (by omega), e1, if_neg (by omega), w64 ((i : Int) + 1) (by omega) (by omega), show (i : Int) + 1 = ((i + 1 : Nat) : Int) by omega]) h3), fun hb => ⟨(h4 hb).1, ?_⟩⟩
      have ed : l.drop i = rd_T90 l (i : Int) :: l.drop (i + 1) := by
        rw [List.drop_eq_getElem_cons hlt]
        unfold rd_T90
        rw [Int.toNat_natCast, List.getD_eq_getElem?_getD, List.getElem?_eq_getElem hlt]
        rfl
      rw [ed]
      intro f hf
      rcases List.mem_cons.1 hf with rfl | hf
      · omega
      · exact (h4 hb).2 f hf
theorem beyondFacts_ev (l : List S90) (hf : Fits l) : ∃ b, Ev (fun k => pedigreelaw01_BeyondFacts.f k l) b ∧ (b = false → l.length ≤ 1048576 ∧ ∀ f ∈ l, f.f1.length ≤ 1048576) :=
  beyond_loop l hf l.length 0 0 (by omega) (by omega) (by omega)
theorem beyond_ev (n : Int) (a b : List S90) (ha : Fits a) (hb : Fits b) : ∃ r, Ev (fun k => pedigreelaw29_beyond.f k n a b) r ∧ (r = false → (a.length ≤ 1048576 ∧ ∀ f ∈ a, f.f1.length ≤ 1048576) ∧ (b.length ≤ 1048576 ∧ ∀ f ∈ b, f.f1.length ≤ 1048576)) := by
  obtain ⟨x, h1, h2⟩ := beyondFacts_ev a ha
  obtain ⟨y, h3, h4⟩ := beyondFacts_ev b hb
  unfold pedigreelaw29_beyond.f
  cases x with
  | true => exact ⟨true, Ev.bind h1 (Ev.iteT rfl (Ev.const rfl)), fun h => by cases h⟩
  | false => exact ⟨y, Ev.bind h1 (Ev.iteF (by decide) (Ev.bind h3 (Ev.const rfl))), fun h => ⟨h2 rfl, h4 h⟩⟩
theorem encV_le {v : S85} (h : chkB v = true) : (encV v).length ≤ 202 := by
  have h := of_decide_eq_true h
  unfold encV
  rcases h with ⟨h1, _⟩ | ⟨h1, _, h2⟩
  · rw [if_pos h1, List.length_cons, leB_len]
    omega
  · rw [if_neg (by omega), List.length_cons, List.length_append, leB_len, lb_len]
    omega
theorem flat_le {α : Type} (f : α → Bs) (c : Nat) : ∀ l : List α, (∀ x ∈ l, (f x).length ≤ c) → (l.flatMap f).length ≤ l.length * c := by
  intro l
  induction l with
  | nil => intro _; simp
  | cons x l ih =>
    intro h
    have h1 := h x (List.mem_cons_self ..)
    have h2 := ih (fun y hy => h y (List.mem_cons_of_mem _ hy))
    rw [List.flatMap_cons, List.length_append, List.length_cons, Nat.add_mul, Nat.one_mul]
    omega
theorem encF_le {f : S90} (h : mayB f = true) : (encF f).length ≤ 4970 := by
  unfold mayB at h
  simp only [Bool.and_eq_true, decide_eq_true_eq] at h
  obtain ⟨h1, h2, h3⟩ := h
  have h4 := name_len h1
  have h5 := flat_le encV 202 f.f1 (fun v hv => encV_le (List.all_eq_true.1 h3 v hv))
  have h6 : f.f1.length * 202 ≤ 24 * 202 := Nat.mul_le_mul_right _ h2
  unfold encF
  simp only [List.length_append, leB_len, lb_len]
  omega
theorem encFs_le {l : List S90} (h : risB l = true) (hl : l.length ≤ 1048576) : (encFs l).length ≤ 5300000000 := by
  have h1 := (risG_all l none h).1
  have h5 := flat_le encF 4970 l (fun f hf => encF_le (h1 f hf))
  have h6 : l.length * 4970 ≤ 1048576 * 4970 := Nat.mul_le_mul_right _ hl
  unfold encFs
  simp only [List.length_append, leB_len]
  omega
theorem good_le {n : Int} {a b : List S90} (h : goodB n a b = true) (ha : a.length ≤ 1048576) (hb : b.length ≤ 1048576) : (bodyL n a b).length ≤ 140737488351232 := by
  unfold goodB at h
  simp only [Bool.and_eq_true] at h
  have h1 := encFs_le h.2.1 ha
  have h2 := encFs_le h.2.2.1 hb
  unfold bodyL
  simp only [List.length_cons, List.length_append, leB_len]
  omega
theorem JournalEncodes (n : Int) (a b : List S90) (ha : Fits a) (hb : Fits b) : ∃ k, pedigreelaw29_beyond.f k n a b = some true ∨
    (pedigreelaw29_beyond.f k n a b = some false ∧ ((a.length ≤ 1048576 ∧ ∀ f ∈ a, f.f1.length ≤ 1048576) ∧ (b.length ≤ 1048576 ∧ ∀ f ∈ b, f.f1.length ≤ 1048576)) ∧
      ∃ s e, pedigreeref29_Encode.f k n a b = some (s, e) ∧ journal_Encode.f k n a b = some (s, e)) := by
  obtain ⟨r, ⟨K, hK⟩, h2⟩ := beyond_ev n a b ha hb
  cases r with
  | true => exact ⟨K, .inl (hK K (Nat.le_refl _))⟩
  | false =>
    have hs := h2 rfl
    obtain ⟨L, hL⟩ := Encode_ev n a b (goodB n a b) (Good_ev n a b ha hb) (fun g => good_le g hs.1.1 hs.2.1)
    obtain ⟨M, hM⟩ := proEncode_ev n a b ha hb (fun g => good_le g hs.1.1 hs.2.1) ⟨by omega, by omega⟩
    exact ⟨K + L + M, .inr ⟨hK _ (by omega), hs, _, _, hL _ (by omega), hM _ (by omega)⟩⟩
end Go.Proofs.J.Pure
end
section
namespace Go.Proofs.J.Print
open Go.RowKit Go.Proofs.PrintWords Go.Proofs.PrintLast Go.Proofs.PrintMore
theorem fits_rng {l : List S90} (h : ∀ a ∈ l, rng90 a) (hl : l.length ≤ 140737488351232) : Pure.Fits l :=
  ⟨by omega, fun f hf => by have := h f hf; have h1 := this.2.1; have h2 := this.2.2; omega⟩
theorem rd_le {l : List S90} (h : ∀ f ∈ l, f.f1.length ≤ 1048576) (i : Int) : (rd_T90 l i).f1.length ≤ 1048576 := by
  unfold rd_T90
  rw [List.getD_eq_getElem?_getD]
  cases he : l[i.toNat]? with
  | none => exact Nat.zero_le _
  | some f => exact h f (List.mem_of_getElem? he)
theorem itoa_mark : (Lib.itoa 777777).length ≤ 100 := by decide +kernel
theorem encodes_walk (n : Int) (A1 : Option Addr) (c1 : Nat) (l1 : List S90) (A2 : Option Addr) (c2 : Nat) (l2 : List S90) (W : World)
    (h1 : l1.length ≤ c1 ∧ Kd.C k90 W A1 l1.length l1 ∧ (∀ a ∈ l1, rng90 a) ∧ l1.length ≤ 140737488351232) (h2 : l2.length ≤ c2 ∧ Kd.C k90 W A2 l2.length l2 ∧ (∀ a ∈ l2, rng90 a) ∧ l2.length ≤ 140737488351232) (ht : Tab W) :
    Calls Tryz.prog 3 #[.agg #[.int .i64 n, .slice A1 l1.length c1, .slice A2 l2.length c2]] W fun e W' => e = .returned (.bool true) ∧ Below W.heap.size W W' := by
  obtain ⟨k, h | ⟨hb, hs, s, e, hr, hp⟩⟩ := Pure.JournalEncodes n l1 l2 (fits_rng h1.2.2.1 h1.2.2.2) (fits_rng h2.2.2.1 h2.2.2.2)
  · exact encodes_beyond k n A1 c1 l1 A2 c2 l2 W h1.2.1 h1.1 h2.2.1 h2.1 h
  · exact encodes_goes k n A1 c1 l1 A2 c2 l2 s e W h1.2.1 h1.1 h2.2.1 h2.1 ⟨ht, by decide, by decide, itoa_mark⟩ (rd_le hs.1.2) (rd_le hs.2.2) hs.1.1 hs.2.1 hb hr hp
end Go.Proofs.J.Print
end
