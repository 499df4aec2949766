/- On the way to the law 'JournalDecodes': what the functions that it reaches compute, step by step, and the plain law (JPF80 .. JPF213). Each theorem states its own conditions. -/
import Derived.Test.YtcinnankefollaaGreatDoorWc
set_option linter.unusedVariables false
set_option linter.unusedSimpArgs false
section
namespace Go.Proofs.J.Print
open Go.RowKit Go.Proofs.PrintWords Go.Proofs.PrintLast Go.Proofs.PrintMore
mutual
def pedigreeref29_Sum.l0 : Nat → ByteArray → Int → Int → Option (Int)
 | 0, _, _, _ => none
 | k + 1, x0, x3, x4 => if x4 < (wrap64 ((wrap64 (8 * (x0.size : Int))) + 16)) then (if x4 < (wrap64 (8 * (x0.size : Int))) then (if 0 ≤ (wrap64 (Int.tdiv x4 8)) then (if (wrap64 (Int.tdiv x4 8)) < (x0.size : Int) then (if 0 ≤ (wrap64 (7 - (Int.tmod x4 8))) then (pedigreeref29_Sum.j1 k x0 x3 x4 (Go.bits .and .i64 (shr .i64 (wrap64 (bt x0 (wrap64 (Int.tdiv x4 8)))) (wrap64 (7 - (Int.tmod x4 8)))) 1)) else (none)) else (none)) else (none)) else (pedigreeref29_Sum.j1 k x0 x3 x4 0)) else (some (IntKind.u16.wrap (x3)))
def pedigreeref29_Sum.j1 : Nat → ByteArray → Int → Int → Int → Option (Int)
 | 0, _, _, _, _ => none
 | k + 1, x0, x3, x4, x5 => if x4 < 16 then (if (wrap64 ((wrap64 (2 * x3)) + (wrap64 (1 - x5)))) ≥ 65536 then (pedigreeref29_Sum.l0 k x0 (Go.bits .xor .i64 (wrap64 ((wrap64 ((wrap64 (2 * x3)) + (wrap64 (1 - x5)))) - 65536)) 4129) (wrap64 (x4 + 1))) else (pedigreeref29_Sum.l0 k x0 (wrap64 ((wrap64 (2 * x3)) + (wrap64 (1 - x5)))) (wrap64 (x4 + 1)))) else (if (wrap64 ((wrap64 (2 * x3)) + x5)) ≥ 65536 then (pedigreeref29_Sum.l0 k x0 (Go.bits .xor .i64 (wrap64 ((wrap64 ((wrap64 (2 * x3)) + x5)) - 65536)) 4129) (wrap64 (x4 + 1))) else (pedigreeref29_Sum.l0 k x0 (wrap64 ((wrap64 (2 * x3)) + x5)) (wrap64 (x4 + 1))))
end
def pedigreeref29_Sum.f (k : Nat) (a0 : ByteArray) : Option (Int) := pedigreeref29_Sum.l0 k a0 0 0
set_option maxHeartbeats 8000000 in
set_option maxRecDepth 100000 in
theorem pedigreeref29_Sum.calls (k : Nat) (a0 : ByteArray) (r : Int) (w : World) (h : pedigreeref29_Sum.f k a0 = some r) :
  Calls Tryz.prog 80 #[.string a0] w fun e w' => e = .returned (.int .u16 r) ∧ Drawn0 w w' := by
 have H : (pedigreeref29_Sum.l0 k a0 0 0) = some r := h
 clear h
 have H' := Aside0.mk H
 clear H
 go_enter Tryz.func80, Tryz.ntmps80
 go_wp2
 go_loopg [3, 4] k (fun kq v3 v4 w' => ∃ (x3_1 : Int) (x4_1 : Int), v3 = .int .i64 x3_1 ∧ v4 = .int .i64 x4_1 ∧ Aside0 (pedigreeref29_Sum.l0 kq a0 x3_1 x4_1 = some r) ∧ Aside0 (kq ≤ k) ∧ Drawn0 w w')
 case atStart => exact ⟨(0), (0), eqS, eqS, H', ⟨Nat.le_refl _⟩, by repeat (first | exact Drawn0.refl _ | apply Drawn0.step)⟩
 case round =>
  clear H'
  obtain ⟨x3_1, x4_1, rfl, rfl, HA, HK1, ⟨m1, rfl⟩⟩ := hrel
  cases gk with
  | zero => exact absurd HA.out (by simp [pedigreeref29_Sum.l0])
  | succ k1 =>
   have H := HA.out
   clear HA
   simp only [pedigreeref29_Sum.l0] at H
   by_cases c2 : x4_1 < (wrap64 ((wrap64 (8 * (a0.size : Int))) + 16))
   ·rw [if_pos c2] at H
    have c2b0 := decide_eq_true c2
    clear c2
    have HC3 := Aside0.mk H
    clear H
    go_upto_if 18 with (fail)
    go_cut [5] (fun v5 wc => ∃ (kq : Nat) (x5_2 : Int), v5 = .int .i64 x5_2 ∧ Aside0 (pedigreeref29_Sum.j1 kq a0 x3_1 x4_1 x5_2 = some r) ∧ Aside0 (kq ≤ k1) ∧ Drawn0 w wc)
    case first =>
     have H := HC3.out
     clear HC3
     by_cases c4 : x4_1 < (wrap64 (8 * (a0.size : Int)))
     ·rw [if_pos c4] at H
      have c4b0 := decide_eq_true c4
      clear c4
      (first | rw [c4b0] | (simp only [i64_w, i32_w]; rw [c4b0]) | skip)
      obtain ⟨ji5, hji5⟩ : ∃ j_ : Int, (wrap64 (Int.tdiv x4_1 8)) = j_ := ⟨_, rfl⟩
      replace H : (if 0 ≤ (ji5) then (if (ji5) < (a0.size : Int) then (if 0 ≤ (wrap64 (7 - (Int.tmod x4_1 8))) then (pedigreeref29_Sum.j1 k1 a0 x3_1 x4_1 (Go.bits .and .i64 (shr .i64 (wrap64 (bt a0 (ji5))) (wrap64 (7 - (Int.tmod x4_1 8)))) 1)) else (none)) else (none)) else (none)) = some r := by first | (rw [hji5] at H; exact H) | (simp only [hji5] at H ⊢; exact H)
      have hji5w : (IntKind.i64.wrap (Int.tdiv x4_1 8)) = ji5 := (i64_w _).trans hji5
      by_cases c6 : 0 ≤ (ji5)
      ·rw [if_pos c6] at H
       have c6b0 := decide_eq_true c6
       clear c6
       by_cases c7 : (ji5) < (a0.size : Int)
       ·rw [if_pos c7] at H
        have c7b0 := decide_eq_true c7
        clear c7
        obtain ⟨ji9, hji9⟩ : ∃ j_ : Int, (wrap64 (7 - (Int.tmod x4_1 8))) = j_ := ⟨_, rfl⟩
        replace H : (if 0 ≤ (ji9) then (pedigreeref29_Sum.j1 k1 a0 x3_1 x4_1 (Go.bits .and .i64 (shr .i64 (wrap64 (bt a0 (ji5))) (ji9)) 1)) else (none)) = some r := by first | (rw [hji9] at H; exact H) | (simp only [hji9] at H ⊢; exact H)
        have hji9w : (IntKind.i64.wrap (7 - (Int.tmod x4_1 8))) = ji9 := (i64_w _).trans hji9
        by_cases c10 : 0 ≤ (ji9)
        ·rw [if_pos c10] at H
         have c10b0 := eq_true c10
         have c10b1 := decide_eq_true c10
         clear c10
         obtain ⟨ji11, hji11⟩ : ∃ j_ : Int, (shr .i64 (wrap64 (bt a0 (ji5))) (ji9)) = j_ := ⟨_, rfl⟩
         replace H : (pedigreeref29_Sum.j1 k1 a0 x3_1 x4_1 (Go.bits .and .i64 (ji11) 1)) = some r := by first | (rw [hji11] at H; exact H) | (simp only [hji11] at H ⊢; exact H)
         have hji11_ : ((wrap64 (bt a0 (ji5))) / 2 ^ min (ji9).toNat 64) = ji11 := hji11
         have hji11z : (ji9) ≤ 64 → ((wrap64 (bt a0 (ji5))) / 2 ^ (ji9).toNat) = ji11 := shr_small hji11
         have H' := Aside0.mk H
         clear H
         have p8 : 0 ≤ ((ji5) : Int) := of_decide_eq_true byA
         have q8 : (ji5) < (a0.size : Int) := of_decide_eq_true byA
         have hx8 := bt_at a0 (ji5)
         replace p8 := eq_true p8
         replace q8 := eq_true q8
         go_wp2
         go_meet
         case rel => exact ⟨_, (Go.bits .and .i64 (ji11) 1), (by first | rfl | (simp; done) | (simp only [← hji11] <;> (first | rfl | simp)) | (simp [*]; done)), H', ⟨by have := HK1.out; first | omega | exact Nat.le_refl _⟩, by repeat (first | exact Drawn0.refl _ | apply Drawn0.step)⟩
        ·rw [if_neg c10] at H
         exact absurd H (by simp)
       ·rw [if_neg c7] at H
        exact absurd H (by simp)
      ·rw [if_neg c6] at H
       exact absurd H (by simp)
     ·rw [if_neg c4] at H
      have c4b0 := decide_eq_false c4
      clear c4
      (first | rw [c4b0] | (simp only [i64_w, i32_w]; rw [c4b0]) | skip)
      have H' := Aside0.mk H
      clear H
      go_wp2
      go_meet
      case rel => exact ⟨_, (0), eqS, H', ⟨by have := HK1.out; first | omega | exact Nat.le_refl _⟩, by repeat (first | exact Drawn0.refl _ | apply Drawn0.step)⟩
    case rest =>
     clear HC3
     try clear c1
     try clear c2
     try clear c2b0
     try clear p2
     try clear c4
     try clear c4b0
     try clear c6
     try clear c6b0
     try clear p6
     try clear c7
     try clear c7b0
     try clear c8
     try clear p8
     try clear q8
     try clear hx8
     try clear c10
     try clear c10b0
     try clear c10b1
     try clear p8
     try clear q8
     obtain ⟨kq, x5_2, rfl, HA, HJ2, ⟨mc2, rfl⟩⟩ := hcut
     cases kq with
     | zero => exact absurd HA.out (by simp [pedigreeref29_Sum.j1])
     | succ kj2 =>
      have H := HA.out
      clear HA
      simp only [pedigreeref29_Sum.j1] at H
      by_cases c12 : x4_1 < 16
      ·rw [if_pos c12] at H
       have c12b0 := decide_eq_true c12
       clear c12
       by_cases c13 : (wrap64 ((wrap64 (2 * x3_1)) + (wrap64 (1 - x5_2)))) ≥ 65536
       ·rw [if_pos c13] at H
        have c13b0 := decide_eq_true c13
        clear c13
        have H' := Aside0.mk H
        clear H
        go_wp2
        go_roundg kj2
        case measure => have := HK1.out; have := HJ2.out; omega
        case rel => exact ⟨(Go.bits .xor .i64 (wrap64 ((wrap64 ((wrap64 (2 * x3_1)) + (wrap64 (1 - x5_2)))) - 65536)) 4129), (wrap64 (x4_1 + 1)), eqS, eqS, H', ⟨by have := HK1.out; have := HJ2.out; omega⟩, by repeat (first | exact Drawn0.refl _ | apply Drawn0.step)⟩
       ·rw [if_neg c13] at H
        have c13b0 := decide_eq_false c13
        clear c13
        have H' := Aside0.mk H
        clear H
        go_wp2
        go_roundg kj2
        case measure => have := HK1.out; have := HJ2.out; omega
        case rel => exact ⟨(wrap64 ((wrap64 (2 * x3_1)) + (wrap64 (1 - x5_2)))), (wrap64 (x4_1 + 1)), eqS, eqS, H', ⟨by have := HK1.out; have := HJ2.out; omega⟩, by repeat (first | exact Drawn0.refl _ | apply Drawn0.step)⟩
      ·rw [if_neg c12] at H
       have c12b0 := decide_eq_false c12
       clear c12
       by_cases c14 : (wrap64 ((wrap64 (2 * x3_1)) + x5_2)) ≥ 65536
       ·rw [if_pos c14] at H
        have c14b0 := decide_eq_true c14
        clear c14
        have H' := Aside0.mk H
        clear H
        go_wp2
        go_roundg kj2
        case measure => have := HK1.out; have := HJ2.out; omega
        case rel => exact ⟨(Go.bits .xor .i64 (wrap64 ((wrap64 ((wrap64 (2 * x3_1)) + x5_2)) - 65536)) 4129), (wrap64 (x4_1 + 1)), eqS, eqS, H', ⟨by have := HK1.out; have := HJ2.out; omega⟩, by repeat (first | exact Drawn0.refl _ | apply Drawn0.step)⟩
       ·rw [if_neg c14] at H
        have c14b0 := decide_eq_false c14
        clear c14
        have H' := Aside0.mk H
        clear H
        go_wp2
        go_roundg kj2
        case measure => have := HK1.out; have := HJ2.out; omega
        case rel => exact ⟨(wrap64 ((wrap64 (2 * x3_1)) + x5_2)), (wrap64 (x4_1 + 1)), eqS, eqS, H', ⟨by have := HK1.out; have := HJ2.out; omega⟩, by repeat (first | exact Drawn0.refl _ | apply Drawn0.step)⟩
   ·rw [if_neg c2] at H
    have c2b0 := decide_eq_false c2
    clear c2
    obtain rfl := Option.some.inj H
    go_wp2
    go_ret
    exact ⟨eqS, by repeat (first | exact Drawn0.refl _ | apply Drawn0.step)⟩
end Go.Proofs.J.Print
end
section
namespace Go.Proofs.J.Print
open Go.RowKit Go.Proofs.PrintWords Go.Proofs.PrintLast Go.Proofs.PrintMore
def pedigreeref29_Frame.f (k : Nat) (a0 : ByteArray) : Option (ByteArray) := (pedigreeref29_Bytes.f k (IntKind.u64.wrap ((a0.size : Int))) 4).bind fun t136 => ((pedigreeref29_turned.f k t136).bind fun t137 => (if t136.size + t137.size ≤ 9223372036854775807 then (if (t136 ++ t137).size + a0.size ≤ 9223372036854775807 then ((pedigreeref29_Sum.f k a0).bind fun t138 => ((pedigreeref29_Bytes.f k (IntKind.u64.wrap (t138)) 2).bind fun t139 => (if ((t136 ++ t137) ++ a0).size + t139.size ≤ 9223372036854775807 then (some (((t136 ++ t137) ++ a0) ++ t139)) else (none)))) else (none)) else (none)))
set_option maxHeartbeats 8000000 in
set_option maxRecDepth 100000 in
theorem pedigreeref29_Frame.calls (k : Nat) (a0 : ByteArray) (r : ByteArray) (w : World) (h : pedigreeref29_Frame.f k a0 = some r) :
    Calls Tryz.prog 21 #[.string a0] w fun e w' => e = .returned (.string r) ∧ Below w.heap.size w w' := by
  have HB := Aside0.mk (Below.refl w.heap.size w)
  have H : ((pedigreeref29_Bytes.f k (IntKind.u64.wrap ((a0.size : Int))) 4).bind fun t136 => ((pedigreeref29_turned.f k t136).bind fun t137 => (if t136.size + t137.size ≤ 9223372036854775807 then (if (t136 ++ t137).size + a0.size ≤ 9223372036854775807 then ((pedigreeref29_Sum.f k a0).bind fun t138 => ((pedigreeref29_Bytes.f k (IntKind.u64.wrap (t138)) 2).bind fun t139 => (if ((t136 ++ t137) ++ a0).size + t139.size ≤ 9223372036854775807 then (some (((t136 ++ t137) ++ a0) ++ t139)) else (none)))) else (none)) else (none)))) = some r := h
  clear h
  replace H := Option.bind_eq_some_iff.mp H
  obtain ⟨t136, A20, H⟩ := H
  replace H : ((pedigreeref29_turned.f k t136).bind fun t137 => (if t136.size + t137.size ≤ 9223372036854775807 then (if (t136 ++ t137).size + a0.size ≤ 9223372036854775807 then ((pedigreeref29_Sum.f k a0).bind fun t138 => ((pedigreeref29_Bytes.f k (IntKind.u64.wrap (t138)) 2).bind fun t139 => (if ((t136 ++ t137) ++ a0).size + t139.size ≤ 9223372036854775807 then (some (((t136 ++ t137) ++ a0) ++ t139)) else (none)))) else (none)) else (none))) = some r := H
  have A2 := Aside0.mk A20
  clear A20
  replace H := Option.bind_eq_some_iff.mp H
  obtain ⟨t137, A30, H⟩ := H
  replace H : (if t136.size + t137.size ≤ 9223372036854775807 then (if (t136 ++ t137).size + a0.size ≤ 9223372036854775807 then ((pedigreeref29_Sum.f k a0).bind fun t138 => ((pedigreeref29_Bytes.f k (IntKind.u64.wrap (t138)) 2).bind fun t139 => (if ((t136 ++ t137) ++ a0).size + t139.size ≤ 9223372036854775807 then (some (((t136 ++ t137) ++ a0) ++ t139)) else (none)))) else (none)) else (none)) = some r := H
  have A3 := Aside0.mk A30
  clear A30
  by_cases c4 : t136.size + t137.size ≤ 9223372036854775807
  · rw [if_pos c4] at H
    have c4b0 := eq_true c4
    have c4b1 := decide_eq_true c4
    try have c4b2 : (9223372036854775807 < t136.size + t137.size) = False := eq_false (Nat.not_lt.2 c4)
    by_cases c5 : (t136 ++ t137).size + a0.size ≤ 9223372036854775807
    · rw [if_pos c5] at H
      have c5b0 := eq_true c5
      have c5b1 := decide_eq_true c5
      try have c5b2 : (9223372036854775807 < (t136 ++ t137).size + a0.size) = False := eq_false (Nat.not_lt.2 c5)
      replace H := Option.bind_eq_some_iff.mp H
      obtain ⟨t138, A60, H⟩ := H
      replace H : ((pedigreeref29_Bytes.f k (IntKind.u64.wrap (t138)) 2).bind fun t139 => (if ((t136 ++ t137) ++ a0).size + t139.size ≤ 9223372036854775807 then (some (((t136 ++ t137) ++ a0) ++ t139)) else (none))) = some r := H
      have A6 := Aside0.mk A60
      clear A60
      replace H := Option.bind_eq_some_iff.mp H
      obtain ⟨t139, A70, H⟩ := H
      replace H : (if ((t136 ++ t137) ++ a0).size + t139.size ≤ 9223372036854775807 then (some (((t136 ++ t137) ++ a0) ++ t139)) else (none)) = some r := H
      have A7 := Aside0.mk A70
      clear A70
      by_cases c8 : ((t136 ++ t137) ++ a0).size + t139.size ≤ 9223372036854775807
      · rw [if_pos c8] at H
        have c8b0 := eq_true c8
        have c8b1 := decide_eq_true c8
        try have c8b2 : (9223372036854775807 < ((t136 ++ t137) ++ a0).size + t139.size) = False := eq_false (Nat.not_lt.2 c8)
        obtain rfl := Option.some.inj H
        have d5 : decide (t136.size + t137.size + a0.size ≤ 9223372036854775807) = true := decide_eq_true (by rw [ByteArray.size_append] at c5; exact c5)
        have d8 : decide (t136.size + t137.size + a0.size + t139.size ≤ 9223372036854775807) = true := decide_eq_true (by rw [ByteArray.size_append, ByteArray.size_append] at c8; exact c8)
        have e5 : (9223372036854775807 < t136.size + t137.size + a0.size) = False := eq_false (by rw [ByteArray.size_append] at c5; exact Nat.not_lt.2 c5)
        have e8 : (9223372036854775807 < t136.size + t137.size + a0.size + t139.size) = False := eq_false (by rw [ByteArray.size_append, ByteArray.size_append] at c8; exact Nat.not_lt.2 c8)
        clear c5 c5b0 c5b1 c8 c8b0 c8b1
        try clear c5b2
        try clear c8b2
        go_enter Tryz.func21, Tryz.ntmps21
        go_wp2_with (first | ((with_reducible refine gate_callee (f := 19) rfl ?_); refine goesS (some 7) Tryz.func19 #[.int .u64 (IntKind.u64.wrap ((a0.size : Int))), .int .i64 4] ?_; (with_reducible refine (pedigreeref29_Bytes.calls k (IntKind.u64.wrap ((a0.size : Int))) 4 t136 _ A2.out).mono ?_); rintro e w9 ⟨rfl, hb⟩; refine ⟨_, rfl, ?_⟩; have n0_ := Aside0.mk (below_step (upB HB.out) hb); clear HB; have HB := n0_; clear n0_; (try clear hb); (try clear hb2); (try clear hk); (try clear hi)) | ((with_reducible refine gate_callee (f := 79) rfl ?_); refine goesS (some 10) Tryz.func79 #[.string t136] ?_; (with_reducible refine (pedigreeref29_turned.calls k t136 t137 _ A3.out).mono ?_); rintro e w10 ⟨rfl, hb⟩; refine ⟨_, rfl, ?_⟩; have n0_ := Aside0.mk (below_step (upB HB.out) hb); clear HB; have HB := n0_; clear n0_; (try clear hb); (try clear hb2); (try clear hk); (try clear hi)) | ((with_reducible refine gate_callee (f := 80) rfl ?_); refine goesS (some 15) Tryz.func80 #[.string a0] ?_; (with_reducible refine (pedigreeref29_Sum.calls k a0 t138 _ A6.out).mono ?_); rintro e w' ⟨rfl, ⟨nd, rfl⟩⟩; refine ⟨_, rfl, ?_⟩) | ((with_reducible refine gate_callee (f := 19) rfl ?_); refine goesS (some 17) Tryz.func19 #[.int .u64 (IntKind.u64.wrap (t138)), .int .i64 2] ?_; (with_reducible refine (pedigreeref29_Bytes.calls k (IntKind.u64.wrap (t138)) 2 t139 _ A7.out).mono ?_); rintro e w11 ⟨rfl, hb⟩; refine ⟨_, rfl, ?_⟩; have n0_ := Aside0.mk (below_step (upB HB.out) hb); clear HB; have HB := n0_; clear n0_; (try clear hb); (try clear hb2); (try clear hk); (try clear hi)))
        go_ret
        exact ⟨eqE, upB HB.out⟩
      · rw [if_neg c8] at H
        exact absurd H (by simp)
    · rw [if_neg c5] at H
      exact absurd H (by simp)
  · rw [if_neg c4] at H
    exact absurd H (by simp)
end Go.Proofs.J.Print
end
section
namespace Go.Proofs.J.Print
open Go.RowKit Go.Proofs.PrintWords Go.Proofs.PrintLast Go.Proofs.PrintMore
def pedigreeref29_Encode.f (k : Nat) (a0_0 : Int) (l0_1 : List (S90)) (l0_2 : List (S90)) : Option (ByteArray × Int) := (pedigreeref29_Good.f k a0_0 l0_1 l0_2).bind fun t113 => (if t113 = true then ((pedigreeref29_Bytes.f k (IntKind.u64.wrap (a0_0)) 8).bind fun t114 => (if 1 + t114.size ≤ 9223372036854775807 then ((pedigreeref29_Facts.f k l0_1).bind fun t115 => (if ((⟨#[67]⟩ : ByteArray) ++ t114).size + t115.size ≤ 9223372036854775807 then ((pedigreeref29_Facts.f k l0_2).bind fun t116 => (if (((⟨#[67]⟩ : ByteArray) ++ t114) ++ t115).size + t116.size ≤ 9223372036854775807 then (if (((((⟨#[67]⟩ : ByteArray) ++ t114) ++ t115) ++ t116).size : Int) > 16777216 then (some ((⟨#[]⟩ : ByteArray), 30)) else ((pedigreeref29_Frame.f k ((((⟨#[67]⟩ : ByteArray) ++ t114) ++ t115) ++ t116)).bind fun t117 => (some (t117, 0)))) else (none))) else (none))) else (none))) else (some ((⟨#[]⟩ : ByteArray), 1)))
def pedigreeref29_Encode.T3 : Bool × List (List Nat × List Nat) := (true, [([], []), ([0], [0]), ([1], [1]), ([2], [2]), ([3], [3]), ([], []), ([5], [5]), ([6, 3], [6]), ([4, 7], [4, 7]), ([], []), ([9], [9]), ([10, 7], [10]), ([8, 11], [8, 11]), ([12, 11, 0, 1, 2, 3, 4, 5, 6, 7, 8, 9, 10, 11, 12], [12])])
def pedigreeref29_Encode.B3 : List Nat := [0, 1, 3, 7, 15, 0, 32, 111, 255, 0, 512, 1775, 4095, 8191]
theorem pedigreeref29_Encode.tab3 : rtab .any (opsOf Tryz.f7 3) = pedigreeref29_Encode.T3 := by kernel_rfl
theorem pedigreeref29_Encode.bits3 : waitsOk pedigreeref29_Encode.T3.2 pedigreeref29_Encode.B3 = true := by kernel_rfl
set_option maxHeartbeats 8000000 in
set_option maxRecDepth 100000 in
theorem pedigreeref29_Encode.calls (k : Nat) (a0_0 : Int) (A0_1 : Option Addr) (c0_1 : Nat) (l0_1 : List (S90)) (A0_2 : Option Addr) (c0_2 : Nat) (l0_2 : List (S90)) (r1 : ByteArray) (r2 : Int) (w : World) (hr0_1 : Kd.C k90 w A0_1 l0_1.length l0_1) (hc0_1 : l0_1.length ≤ c0_1) (hr0_2 : Kd.C k90 w A0_2 l0_2.length l0_2) (hc0_2 : l0_2.length ≤ c0_2) (h : pedigreeref29_Encode.f k a0_0 l0_1 l0_2 = some (r1, r2)) :
  Calls Tryz.prog 7 #[.agg #[.int .i64 a0_0, .slice A0_1 l0_1.length c0_1, .slice A0_2 l0_2.length c0_2]] w fun e w' => e = .returned (.tuple #[.string r1, .int .i64 r2]) ∧ Below w.heap.size w w' := by
 have hu24 := Tryz.underlying24
 have HR0_1 := Aside0.mk hr0_1
 have HC0_1 := Aside0.mk hc0_1
 clear hr0_1 hc0_1
 have HR0_2 := Aside0.mk hr0_2
 have HC0_2 := Aside0.mk hc0_2
 clear hr0_2 hc0_2
 have HB := Aside0.mk (Below.refl w.heap.size w)
 have H : ((pedigreeref29_Good.f k a0_0 l0_1 l0_2).bind fun t113 => (if t113 = true then ((pedigreeref29_Bytes.f k (IntKind.u64.wrap (a0_0)) 8).bind fun t114 => (if 1 + t114.size ≤ 9223372036854775807 then ((pedigreeref29_Facts.f k l0_1).bind fun t115 => (if ((⟨#[67]⟩ : ByteArray) ++ t114).size + t115.size ≤ 9223372036854775807 then ((pedigreeref29_Facts.f k l0_2).bind fun t116 => (if (((⟨#[67]⟩ : ByteArray) ++ t114) ++ t115).size + t116.size ≤ 9223372036854775807 then (if (((((⟨#[67]⟩ : ByteArray) ++ t114) ++ t115) ++ t116).size : Int) > 16777216 then (some ((⟨#[]⟩ : ByteArray), 30)) else ((pedigreeref29_Frame.f k ((((⟨#[67]⟩ : ByteArray) ++ t114) ++ t115) ++ t116)).bind fun t117 => (some (t117, 0)))) else (none))) else (none))) else (none))) else (some ((⟨#[]⟩ : ByteArray), 1)))) = some (r1, r2) := h
 clear h
 replace H := Option.bind_eq_some_iff.mp H
 obtain ⟨t113, A20, H⟩ := H
 replace H : (if t113 = true then ((pedigreeref29_Bytes.f k (IntKind.u64.wrap (a0_0)) 8).bind fun t114 => (if 1 + t114.size ≤ 9223372036854775807 then ((pedigreeref29_Facts.f k l0_1).bind fun t115 => (if ((⟨#[67]⟩ : ByteArray) ++ t114).size + t115.size ≤ 9223372036854775807 then ((pedigreeref29_Facts.f k l0_2).bind fun t116 => (if (((⟨#[67]⟩ : ByteArray) ++ t114) ++ t115).size + t116.size ≤ 9223372036854775807 then (if (((((⟨#[67]⟩ : ByteArray) ++ t114) ++ t115) ++ t116).size : Int) > 16777216 then (some ((⟨#[]⟩ : ByteArray), 30)) else ((pedigreeref29_Frame.f k ((((⟨#[67]⟩ : ByteArray) ++ t114) ++ t115) ++ t116)).bind fun t117 => (some (t117, 0)))) else (none))) else (none))) else (none))) else (some ((⟨#[]⟩ : ByteArray), 1))) = some (r1, r2) := H
 have A2 := Aside0.mk A20
 clear A20
 by_cases c3 : t113 = true
 ·subst c3
  have H1 : ((pedigreeref29_Bytes.f k (IntKind.u64.wrap (a0_0)) 8).bind fun t114 => (if 1 + t114.size ≤ 9223372036854775807 then ((pedigreeref29_Facts.f k l0_1).bind fun t115 => (if ((⟨#[67]⟩ : ByteArray) ++ t114).size + t115.size ≤ 9223372036854775807 then ((pedigreeref29_Facts.f k l0_2).bind fun t116 => (if (((⟨#[67]⟩ : ByteArray) ++ t114) ++ t115).size + t116.size ≤ 9223372036854775807 then (if (((((⟨#[67]⟩ : ByteArray) ++ t114) ++ t115) ++ t116).size : Int) > 16777216 then (some ((⟨#[]⟩ : ByteArray), 30)) else ((pedigreeref29_Frame.f k ((((⟨#[67]⟩ : ByteArray) ++ t114) ++ t115) ++ t116)).bind fun t117 => (some (t117, 0)))) else (none))) else (none))) else (none))) = some (r1, r2) := by rw [if_pos rfl] at H; exact H
  clear H
  have H := H1
  clear H1
  replace H := Option.bind_eq_some_iff.mp H
  obtain ⟨t114, A40, H⟩ := H
  replace H : (if 1 + t114.size ≤ 9223372036854775807 then ((pedigreeref29_Facts.f k l0_1).bind fun t115 => (if ((⟨#[67]⟩ : ByteArray) ++ t114).size + t115.size ≤ 9223372036854775807 then ((pedigreeref29_Facts.f k l0_2).bind fun t116 => (if (((⟨#[67]⟩ : ByteArray) ++ t114) ++ t115).size + t116.size ≤ 9223372036854775807 then (if (((((⟨#[67]⟩ : ByteArray) ++ t114) ++ t115) ++ t116).size : Int) > 16777216 then (some ((⟨#[]⟩ : ByteArray), 30)) else ((pedigreeref29_Frame.f k ((((⟨#[67]⟩ : ByteArray) ++ t114) ++ t115) ++ t116)).bind fun t117 => (some (t117, 0)))) else (none))) else (none))) else (none)) = some (r1, r2) := H
  have A4 := Aside0.mk A40
  clear A40
  by_cases c5 : 1 + t114.size ≤ 9223372036854775807
  ·rw [if_pos c5] at H
   have c5b0 := eq_true c5
   have c5b1 := decide_eq_true c5
   try have c5b2 : (9223372036854775807 < 1 + t114.size) = False := eq_false (Nat.not_lt.2 c5)
   replace H := Option.bind_eq_some_iff.mp H
   obtain ⟨t115, A60, H⟩ := H
   replace H : (if ((⟨#[67]⟩ : ByteArray) ++ t114).size + t115.size ≤ 9223372036854775807 then ((pedigreeref29_Facts.f k l0_2).bind fun t116 => (if (((⟨#[67]⟩ : ByteArray) ++ t114) ++ t115).size + t116.size ≤ 9223372036854775807 then (if (((((⟨#[67]⟩ : ByteArray) ++ t114) ++ t115) ++ t116).size : Int) > 16777216 then (some ((⟨#[]⟩ : ByteArray), 30)) else ((pedigreeref29_Frame.f k ((((⟨#[67]⟩ : ByteArray) ++ t114) ++ t115) ++ t116)).bind fun t117 => (some (t117, 0)))) else (none))) else (none)) = some (r1, r2) := H
   have A6 := Aside0.mk A60
   clear A60
   by_cases c7 : ((⟨#[67]⟩ : ByteArray) ++ t114).size + t115.size ≤ 9223372036854775807
   ·rw [if_pos c7] at H
    have c7b0 := eq_true c7
    have c7b1 := decide_eq_true c7
    try have c7b2 : (9223372036854775807 < ((⟨#[67]⟩ : ByteArray) ++ t114).size + t115.size) = False := eq_false (Nat.not_lt.2 c7)
    replace H := Option.bind_eq_some_iff.mp H
    obtain ⟨t116, A80, H⟩ := H
    replace H : (if (((⟨#[67]⟩ : ByteArray) ++ t114) ++ t115).size + t116.size ≤ 9223372036854775807 then (if (((((⟨#[67]⟩ : ByteArray) ++ t114) ++ t115) ++ t116).size : Int) > 16777216 then (some ((⟨#[]⟩ : ByteArray), 30)) else ((pedigreeref29_Frame.f k ((((⟨#[67]⟩ : ByteArray) ++ t114) ++ t115) ++ t116)).bind fun t117 => (some (t117, 0)))) else (none)) = some (r1, r2) := H
    have A8 := Aside0.mk A80
    clear A80
    by_cases c9 : (((⟨#[67]⟩ : ByteArray) ++ t114) ++ t115).size + t116.size ≤ 9223372036854775807
    ·rw [if_pos c9] at H
     have c9b0 := eq_true c9
     have c9b1 := decide_eq_true c9
     try have c9b2 : (9223372036854775807 < (((⟨#[67]⟩ : ByteArray) ++ t114) ++ t115).size + t116.size) = False := eq_false (Nat.not_lt.2 c9)
     by_cases c10 : (((((⟨#[67]⟩ : ByteArray) ++ t114) ++ t115) ++ t116).size : Int) > 16777216
     ·rw [if_pos c10] at H
      have c10b0 := decide_eq_true c10
      have c10n0 : (16777216 : Int) < 1 + (t114.size : Int) + (t115.size : Int) + (t116.size : Int) := (by have h_ := c10; simp only [ByteArray.size_append] at h_; have e1_ : (⟨#[67]⟩ : ByteArray).size = 1 := rfl; omega)
      have c10n1 : 16777216 < 1 + t114.size + t115.size + t116.size := by omega
      have c10b1 : decide (16777216 < ((((⟨#[67]⟩ : ByteArray) ++ t114) ++ t115) ++ t116).size) = true := decide_eq_true (by omega)
      clear c10
      simp only [Option.some.injEq, Prod.mk.injEq] at H
      obtain ⟨rfl, rfl⟩ := H
      go_enter Tryz.func7, Tryz.ntmps7
      try go_wp2_with (first | ((with_reducible refine gate_dst (N := 1) rfl ?_); refine boxS 1 #[.int .i64 a0_0, .slice A0_1 l0_1.length c0_1, .slice A0_2 l0_2.length c0_2] 24 ?_; intro gb112 hg w11 hbox hb; have n0_ := Aside0.mk (below_step (upB HB.out) hb); have n1_ := Aside0.mk (hbox); have n2_ := Aside0.mk (geB hg (upB HB.out) : w.heap.size ≤ gb112); have n3_ := Aside0.mk (geB hg (upB HB.out) : w.heap.size ≤ gb112); clear HB; have HB := n0_; have BK112 := n1_; have GW112 := n2_; have GE112 := n3_; clear n0_ n1_ n2_ n3_; clear hb hbox hg; have hcz12_0 : w11.cell? ⟨gb112, 0, none⟩ = some (.int .i64 a0_0) := (blk_cell BK112.out 0).trans rfl; have hcz12_1 : w11.cell? ⟨gb112, 1, none⟩ = some (.slice A0_1 l0_1.length c0_1) := (blk_cell BK112.out 1).trans rfl; have hcz12_2 : w11.cell? ⟨gb112, 2, none⟩ = some (.slice A0_2 l0_2.length c0_2) := (blk_cell BK112.out 2).trans rfl; have hfz12_0 := blk_frozen BK112.out 0; have hfz12_1 := blk_frozen BK112.out 1; have hfz12_2 := blk_frozen BK112.out 2) | ((with_reducible refine gate_callee (f := 15) rfl ?_); refine goesS (some 6) Tryz.func15 #[.agg #[.int .i64 a0_0, .slice A0_1 l0_1.length c0_1, .slice A0_2 l0_2.length c0_2]] ?_; (with_reducible refine (pedigreeref29_Good.calls k a0_0 _ _ l0_1 _ _ l0_2 true _ ?side1 ?side2 ?side3 ?side4 A2.out).mono ?_); (case side1 => exact upC (Kd.C_below HR0_1.out HB.out)); (case side2 => exact HC0_1.out); (case side3 => exact upC (Kd.C_below HR0_2.out HB.out)); (case side4 => exact HC0_2.out); rintro e w13 ⟨rfl, hb⟩; refine ⟨_, rfl, ?_⟩; have n0_ := Aside0.mk (blk_below (g := gb112) (o := .cells #[.int .i64 a0_0, .slice A0_1 l0_1.length c0_1, .slice A0_2 l0_2.length c0_2] 24 (0, 0)) (upO BK112.out) hb); have n1_ := Aside0.mk (below_step (upB HB.out) hb); clear BK112; clear HB; have BK112 := n0_; have HB := n1_; clear n0_ n1_; (try clear hb); (try clear hb2); (try clear hk); (try clear hi)))
      have n0_ := Aside0.mk (blk_drew BK112.out)
      have n1_ := Aside0.mk (below_drew1 HB.out)
      clear BK112
      clear HB
      have BK112 := n0_
      have HB := n1_
      clear n0_ n1_
      try have c9b1f0 : Aside0 (¬ 9223372036854775807 < 1 + t114.size + t115.size + t116.size) := ⟨fitS c9b1⟩
      try have c7b1f1 : Aside0 (¬ 9223372036854775807 < 1 + t114.size + t115.size) := ⟨fitS c7b1⟩
      refine start_ (n := 14) (S := fun w' => w'.cell? ⟨gb112, 0, none⟩ = some (.int .i64 a0_0) ∧ w'.cell? ⟨gb112, 1, none⟩ = some (.slice A0_1 l0_1.length c0_1) ∧ w'.cell? ⟨gb112, 2, none⟩ = some (.slice A0_2 l0_2.length c0_2)) (ds := []) #[false,false,false,false,false,false,false,false,false,false,false,false,false,false] (by kernel_rfl) rfl rfl ⟨(blk_cell BK112.out 0).trans rfl, (blk_cell BK112.out 1).trans rfl, (blk_cell BK112.out 2).trans rfl⟩ (fun hHeld => ?_); refine with_tabW pedigreeref29_Encode.tab3 pedigreeref29_Encode.bits3 (fun HT_ HW_ => ?_)
      generalize w13.drew = w14 at BK112 HB hHeld ⊢
      refine pureS 0 (some 8) HT_ ?_
      refine pureS 5 (some 13) HT_ ?_
      refine pureS 9 (some 17) HT_ ?_
      refine takeS 1 (some 9) HT_ HW_ hHeld ?_
      refine pureS 2 (some 10) HT_ ?_
      refine takeS 6 (some 14) HT_ HW_ hHeld ?_
      refine takeS 10 (some 18) HT_ HW_ hHeld ?_
      refine one_ (i := 3) (N := some 11) #[true, true, true, true, false, true, true, false,false, true, true, false,false,false] rfl rfl (one_of HT_.out (by kernel_rfl)) (by decide) (fun K hK => ?_)
      refine goes_ Tryz.func19 (by kernel_rfl) rfl #[.int .u64 (IntKind.u64.wrap (a0_0)), .int .i64 8] (by rfl) rfl rfl (by (try simp only [List.map_toArray, List.map_cons, List.map_nil]); first | done | rfl | (simp only [List.length_drop, List.length_take]; rfl)) ?_
      with_reducible refine (pedigreeref29_Bytes.calls k (IntKind.u64.wrap (a0_0)) 8 t114 _ A4.out).mono ?_
      rintro e w15 ⟨rfl, hb⟩
      refine ⟨_, rfl, ?_⟩
      have n0_ := Aside0.mk (blk_below (g := gb112) (o := .cells #[.int .i64 a0_0, .slice A0_1 l0_1.length c0_1, .slice A0_2 l0_2.length c0_2] 24 (0, 0)) (upO BK112.out) hb)
      have n1_ := Aside0.mk (below_step (upB HB.out) hb)
      clear BK112
      clear HB
      have BK112 := n0_
      have HB := n1_
      clear n0_ n1_
      (try clear hb)
      (try clear hb2)
      (try clear hk)
      (try clear hi)
      refine hK.out _ _ ⟨(blk_cell BK112.out 0).trans rfl, (blk_cell BK112.out 1).trans rfl, (blk_cell BK112.out 2).trans rfl⟩ (fun hHeld => ?_)
      clear hK K
      refine normS (some 11) ?_
      refine pureS 4 (some 12) HT_ ?_
      refine one_ (i := 7) (N := some 15) #[true, true, true, true, true, true, true, true, false, true, true, false,false,false] rfl rfl (one_of HT_.out (by kernel_rfl)) (by decide) (fun K hK => ?_)
      refine goes_ Tryz.func20 (by kernel_rfl) rfl #[.slice A0_1 l0_1.length c0_1] (by rfl) rfl rfl (by (try simp only [List.map_toArray, List.map_cons, List.map_nil]); first | done | rfl | (simp only [List.length_drop, List.length_take]; rfl)) ?_
      with_reducible refine (pedigreeref29_Facts.calls k _ _ l0_1 t115 _ ?side1 ?side2 A6.out).mono ?_
      (case side1 => exact upC (Kd.C_below HR0_1.out HB.out))
      (case side2 => exact HC0_1.out)
      rintro e w16 ⟨rfl, hb⟩
      refine ⟨_, rfl, ?_⟩
      have n0_ := Aside0.mk (blk_below (g := gb112) (o := .cells #[.int .i64 a0_0, .slice A0_1 l0_1.length c0_1, .slice A0_2 l0_2.length c0_2] 24 (0, 0)) (upO BK112.out) hb)
      have n1_ := Aside0.mk (below_step (upB HB.out) hb)
      clear BK112
      clear HB
      have BK112 := n0_
      have HB := n1_
      clear n0_ n1_
      (try clear hb)
      (try clear hb2)
      (try clear hk)
      (try clear hi)
      refine hK.out _ _ ⟨(blk_cell BK112.out 0).trans rfl, (blk_cell BK112.out 1).trans rfl, (blk_cell BK112.out 2).trans rfl⟩ (fun hHeld => ?_)
      clear hK K
      refine normS (some 15) ?_
      refine pureS 8 (some 16) HT_ ?_
      refine one_ (i := 11) (N := some 19) #[true, true, true, true, true, true, true, true, true, true, true, true, false,false] rfl rfl (one_of HT_.out (by kernel_rfl)) (by decide) (fun K hK => ?_)
      refine goes_ Tryz.func20 (by kernel_rfl) rfl #[.slice A0_2 l0_2.length c0_2] (by rfl) rfl rfl (by (try simp only [List.map_toArray, List.map_cons, List.map_nil]); first | done | rfl | (simp only [List.length_drop, List.length_take]; rfl)) ?_
      with_reducible refine (pedigreeref29_Facts.calls k _ _ l0_2 t116 _ ?side1 ?side2 A8.out).mono ?_
      (case side1 => exact upC (Kd.C_below HR0_2.out HB.out))
      (case side2 => exact HC0_2.out)
      rintro e w17 ⟨rfl, hb⟩
      refine ⟨_, rfl, ?_⟩
      have n0_ := Aside0.mk (blk_below (g := gb112) (o := .cells #[.int .i64 a0_0, .slice A0_1 l0_1.length c0_1, .slice A0_2 l0_2.length c0_2] 24 (0, 0)) (upO BK112.out) hb)
      have n1_ := Aside0.mk (below_step (upB HB.out) hb)
      clear BK112
      clear HB
      have BK112 := n0_
      have HB := n1_
      clear n0_ n1_
      (try clear hb)
      (try clear hb2)
      (try clear hk)
      (try clear hi)
      refine hK.out _ _ ⟨(blk_cell BK112.out 0).trans rfl, (blk_cell BK112.out 1).trans rfl, (blk_cell BK112.out 2).trans rfl⟩ (fun hHeld => ?_)
      clear hK K
      refine normS (some 19) ?_
      refine pureS 12 (some 20) HT_ ?_
      refine pureS 13 (some 4) HT_ ?_
      refine done_ (done_of HT_.out (by kernel_rfl)) ?_
      try go_wp2
      go_ret2
      exact ⟨eqE, upB HB.out⟩
     ·rw [if_neg c10] at H
      have c10b0 := decide_eq_false c10
      have c10n0 : ¬ (16777216 : Int) < 1 + (t114.size : Int) + (t115.size : Int) + (t116.size : Int) := (by have h_ := c10; simp only [ByteArray.size_append] at h_; have e1_ : (⟨#[67]⟩ : ByteArray).size = 1 := rfl; omega)
      have c10n1 : ¬ 16777216 < 1 + t114.size + t115.size + t116.size := by omega
      have c10b1 : decide (16777216 < ((((⟨#[67]⟩ : ByteArray) ++ t114) ++ t115) ++ t116).size) = false := decide_eq_false (by omega)
      clear c10
      replace H := Option.bind_eq_some_iff.mp H
      obtain ⟨t117, A180, H⟩ := H
      replace H : (some (t117, 0)) = some (r1, r2) := H
      have A18 := Aside0.mk A180
      clear A180
      simp only [Option.some.injEq, Prod.mk.injEq] at H
      obtain ⟨rfl, rfl⟩ := H
      go_enter Tryz.func7, Tryz.ntmps7
      try go_wp2_with (first | ((with_reducible refine gate_dst (N := 1) rfl ?_); refine boxS 1 #[.int .i64 a0_0, .slice A0_1 l0_1.length c0_1, .slice A0_2 l0_2.length c0_2] 24 ?_; intro gb112 hg w19 hbox hb; have n0_ := Aside0.mk (below_step (upB HB.out) hb); have n1_ := Aside0.mk (hbox); have n2_ := Aside0.mk (geB hg (upB HB.out) : w.heap.size ≤ gb112); have n3_ := Aside0.mk (geB hg (upB HB.out) : w.heap.size ≤ gb112); clear HB; have HB := n0_; have BK112 := n1_; have GW112 := n2_; have GE112 := n3_; clear n0_ n1_ n2_ n3_; clear hb hbox hg; have hcz20_0 : w19.cell? ⟨gb112, 0, none⟩ = some (.int .i64 a0_0) := (blk_cell BK112.out 0).trans rfl; have hcz20_1 : w19.cell? ⟨gb112, 1, none⟩ = some (.slice A0_1 l0_1.length c0_1) := (blk_cell BK112.out 1).trans rfl; have hcz20_2 : w19.cell? ⟨gb112, 2, none⟩ = some (.slice A0_2 l0_2.length c0_2) := (blk_cell BK112.out 2).trans rfl; have hfz20_0 := blk_frozen BK112.out 0; have hfz20_1 := blk_frozen BK112.out 1; have hfz20_2 := blk_frozen BK112.out 2) | ((with_reducible refine gate_callee (f := 15) rfl ?_); refine goesS (some 6) Tryz.func15 #[.agg #[.int .i64 a0_0, .slice A0_1 l0_1.length c0_1, .slice A0_2 l0_2.length c0_2]] ?_; (with_reducible refine (pedigreeref29_Good.calls k a0_0 _ _ l0_1 _ _ l0_2 true _ ?side1 ?side2 ?side3 ?side4 A2.out).mono ?_); (case side1 => exact upC (Kd.C_below HR0_1.out HB.out)); (case side2 => exact HC0_1.out); (case side3 => exact upC (Kd.C_below HR0_2.out HB.out)); (case side4 => exact HC0_2.out); rintro e w21 ⟨rfl, hb⟩; refine ⟨_, rfl, ?_⟩; have n0_ := Aside0.mk (blk_below (g := gb112) (o := .cells #[.int .i64 a0_0, .slice A0_1 l0_1.length c0_1, .slice A0_2 l0_2.length c0_2] 24 (0, 0)) (upO BK112.out) hb); have n1_ := Aside0.mk (below_step (upB HB.out) hb); clear BK112; clear HB; have BK112 := n0_; have HB := n1_; clear n0_ n1_; (try clear hb); (try clear hb2); (try clear hk); (try clear hi)))
      have n0_ := Aside0.mk (blk_drew BK112.out)
      have n1_ := Aside0.mk (below_drew1 HB.out)
      clear BK112
      clear HB
      have BK112 := n0_
      have HB := n1_
      clear n0_ n1_
      try have c9b1f0 : Aside0 (¬ 9223372036854775807 < 1 + t114.size + t115.size + t116.size) := ⟨fitS c9b1⟩
      try have c7b1f1 : Aside0 (¬ 9223372036854775807 < 1 + t114.size + t115.size) := ⟨fitS c7b1⟩
      refine start_ (n := 14) (S := fun w' => w'.cell? ⟨gb112, 0, none⟩ = some (.int .i64 a0_0) ∧ w'.cell? ⟨gb112, 1, none⟩ = some (.slice A0_1 l0_1.length c0_1) ∧ w'.cell? ⟨gb112, 2, none⟩ = some (.slice A0_2 l0_2.length c0_2)) (ds := []) #[false,false,false,false,false,false,false,false,false,false,false,false,false,false] (by kernel_rfl) rfl rfl ⟨(blk_cell BK112.out 0).trans rfl, (blk_cell BK112.out 1).trans rfl, (blk_cell BK112.out 2).trans rfl⟩ (fun hHeld => ?_); refine with_tabW pedigreeref29_Encode.tab3 pedigreeref29_Encode.bits3 (fun HT_ HW_ => ?_)
      generalize w21.drew = w22 at BK112 HB hHeld ⊢
      refine pureS 0 (some 8) HT_ ?_
      refine pureS 5 (some 13) HT_ ?_
      refine pureS 9 (some 17) HT_ ?_
      refine takeS 1 (some 9) HT_ HW_ hHeld ?_
      refine pureS 2 (some 10) HT_ ?_
      refine takeS 6 (some 14) HT_ HW_ hHeld ?_
      refine takeS 10 (some 18) HT_ HW_ hHeld ?_
      refine one_ (i := 3) (N := some 11) #[true, true, true, true, false, true, true, false,false, true, true, false,false,false] rfl rfl (one_of HT_.out (by kernel_rfl)) (by decide) (fun K hK => ?_)
      refine goes_ Tryz.func19 (by kernel_rfl) rfl #[.int .u64 (IntKind.u64.wrap (a0_0)), .int .i64 8] (by rfl) rfl rfl (by (try simp only [List.map_toArray, List.map_cons, List.map_nil]); first | done | rfl | (simp only [List.length_drop, List.length_take]; rfl)) ?_
      with_reducible refine (pedigreeref29_Bytes.calls k (IntKind.u64.wrap (a0_0)) 8 t114 _ A4.out).mono ?_
      rintro e w23 ⟨rfl, hb⟩
      refine ⟨_, rfl, ?_⟩
      have n0_ := Aside0.mk (blk_below (g := gb112) (o := .cells #[.int .i64 a0_0, .slice A0_1 l0_1.length c0_1, .slice A0_2 l0_2.length c0_2] 24 (0, 0)) (upO BK112.out) hb)
      have n1_ := Aside0.mk (below_step (upB HB.out) hb)
      clear BK112
      clear HB
      have BK112 := n0_
      have HB := n1_
      clear n0_ n1_
      (try clear hb)
      (try clear hb2)
      (try clear hk)
      (try clear hi)
      refine hK.out _ _ ⟨(blk_cell BK112.out 0).trans rfl, (blk_cell BK112.out 1).trans rfl, (blk_cell BK112.out 2).trans rfl⟩ (fun hHeld => ?_)
      clear hK K
      refine normS (some 11) ?_
      refine pureS 4 (some 12) HT_ ?_
      refine one_ (i := 7) (N := some 15) #[true, true, true, true, true, true, true, true, false, true, true, false,false,false] rfl rfl (one_of HT_.out (by kernel_rfl)) (by decide) (fun K hK => ?_)
      refine goes_ Tryz.func20 (by kernel_rfl) rfl #[.slice A0_1 l0_1.length c0_1] (by rfl) rfl rfl (by (try simp only [List.map_toArray, List.map_cons, List.map_nil]); first | done | rfl | (simp only [List.length_drop, List.length_take]; rfl)) ?_
      with_reducible refine (pedigreeref29_Facts.calls k _ _ l0_1 t115 _ ?side1 ?side2 A6.out).mono ?_
      (case side1 => exact upC (Kd.C_below HR0_1.out HB.out))
      (case side2 => exact HC0_1.out)
      rintro e w24 ⟨rfl, hb⟩
      refine ⟨_, rfl, ?_⟩
      have n0_ := Aside0.mk (blk_below (g := gb112) (o := .cells #[.int .i64 a0_0, .slice A0_1 l0_1.length c0_1, .slice A0_2 l0_2.length c0_2] 24 (0, 0)) (upO BK112.out) hb)
      have n1_ := Aside0.mk (below_step (upB HB.out) hb)
      clear BK112
      clear HB
      have BK112 := n0_
      have HB := n1_
      clear n0_ n1_
      (try clear hb)
      (try clear hb2)
      (try clear hk)
      (try clear hi)
      refine hK.out _ _ ⟨(blk_cell BK112.out 0).trans rfl, (blk_cell BK112.out 1).trans rfl, (blk_cell BK112.out 2).trans rfl⟩ (fun hHeld => ?_)
      clear hK K
      refine normS (some 15) ?_
      refine pureS 8 (some 16) HT_ ?_
      refine one_ (i := 11) (N := some 19) #[true, true, true, true, true, true, true, true, true, true, true, true, false,false] rfl rfl (one_of HT_.out (by kernel_rfl)) (by decide) (fun K hK => ?_)
      refine goes_ Tryz.func20 (by kernel_rfl) rfl #[.slice A0_2 l0_2.length c0_2] (by rfl) rfl rfl (by (try simp only [List.map_toArray, List.map_cons, List.map_nil]); first | done | rfl | (simp only [List.length_drop, List.length_take]; rfl)) ?_
      with_reducible refine (pedigreeref29_Facts.calls k _ _ l0_2 t116 _ ?side1 ?side2 A8.out).mono ?_
      (case side1 => exact upC (Kd.C_below HR0_2.out HB.out))
      (case side2 => exact HC0_2.out)
      rintro e w25 ⟨rfl, hb⟩
      refine ⟨_, rfl, ?_⟩
      have n0_ := Aside0.mk (blk_below (g := gb112) (o := .cells #[.int .i64 a0_0, .slice A0_1 l0_1.length c0_1, .slice A0_2 l0_2.length c0_2] 24 (0, 0)) (upO BK112.out) hb)
      have n1_ := Aside0.mk (below_step (upB HB.out) hb)
      clear BK112
      clear HB
      have BK112 := n0_
      have HB := n1_
      clear n0_ n1_
      (try clear hb)
      (try clear hb2)
      (try clear hk)
      (try clear hi)
      refine hK.out _ _ ⟨(blk_cell BK112.out 0).trans rfl, (blk_cell BK112.out 1).trans rfl, (blk_cell BK112.out 2).trans rfl⟩ (fun hHeld => ?_)
      clear hK K
      refine normS (some 19) ?_
      refine pureS 12 (some 20) HT_ ?_
      refine pureS 13 (some 4) HT_ ?_
      refine done_ (done_of HT_.out (by kernel_rfl)) ?_
      try go_wp2_with (first | ((with_reducible refine gate_callee (f := 21) rfl ?_); refine goesS (some 25) Tryz.func21 #[.string ((((⟨#[67]⟩ : ByteArray) ++ t114) ++ t115) ++ t116)] ?_; (with_reducible refine (pedigreeref29_Frame.calls k ((((⟨#[67]⟩ : ByteArray) ++ t114) ++ t115) ++ t116) t117 _ A18.out).mono ?_); rintro e w26 ⟨rfl, hb⟩; refine ⟨_, rfl, ?_⟩; have n0_ := Aside0.mk (blk_below (g := gb112) (o := .cells #[.int .i64 a0_0, .slice A0_1 l0_1.length c0_1, .slice A0_2 l0_2.length c0_2] 24 (0, 0)) (upO BK112.out) hb); have n1_ := Aside0.mk (below_step (upB HB.out) hb); clear BK112; clear HB; have BK112 := n0_; have HB := n1_; clear n0_ n1_; (try clear hb); (try clear hb2); (try clear hk); (try clear hi)))
      go_ret2
      exact ⟨eqE, upB HB.out⟩
    ·rw [if_neg c9] at H
     exact absurd H (by simp)
   ·rw [if_neg c7] at H
    exact absurd H (by simp)
  ·rw [if_neg c5] at H
   exact absurd H (by simp)
 ·replace c3 := Bool.eq_false_iff.mpr c3
  subst c3
  have H1 : (some ((⟨#[]⟩ : ByteArray), 1)) = some (r1, r2) := by rw [if_neg (show ¬ (false = true) by decide)] at H; exact H
  clear H
  have H := H1
  clear H1
  simp only [Option.some.injEq, Prod.mk.injEq] at H
  obtain ⟨rfl, rfl⟩ := H
  go_enter Tryz.func7, Tryz.ntmps7
  go_wp2_with (first | ((with_reducible refine gate_dst (N := 1) rfl ?_); refine boxS 1 #[.int .i64 a0_0, .slice A0_1 l0_1.length c0_1, .slice A0_2 l0_2.length c0_2] 24 ?_; intro gb112 hg w27 hbox hb; have n0_ := Aside0.mk (below_step (upB HB.out) hb); have n1_ := Aside0.mk (hbox); have n2_ := Aside0.mk (geB hg (upB HB.out) : w.heap.size ≤ gb112); have n3_ := Aside0.mk (geB hg (upB HB.out) : w.heap.size ≤ gb112); clear HB; have HB := n0_; have BK112 := n1_; have GW112 := n2_; have GE112 := n3_; clear n0_ n1_ n2_ n3_; clear hb hbox hg; have hcz28_0 : w27.cell? ⟨gb112, 0, none⟩ = some (.int .i64 a0_0) := (blk_cell BK112.out 0).trans rfl; have hcz28_1 : w27.cell? ⟨gb112, 1, none⟩ = some (.slice A0_1 l0_1.length c0_1) := (blk_cell BK112.out 1).trans rfl; have hcz28_2 : w27.cell? ⟨gb112, 2, none⟩ = some (.slice A0_2 l0_2.length c0_2) := (blk_cell BK112.out 2).trans rfl; have hfz28_0 := blk_frozen BK112.out 0; have hfz28_1 := blk_frozen BK112.out 1; have hfz28_2 := blk_frozen BK112.out 2) | ((with_reducible refine gate_callee (f := 15) rfl ?_); refine goesS (some 6) Tryz.func15 #[.agg #[.int .i64 a0_0, .slice A0_1 l0_1.length c0_1, .slice A0_2 l0_2.length c0_2]] ?_; (with_reducible refine (pedigreeref29_Good.calls k a0_0 _ _ l0_1 _ _ l0_2 false _ ?side1 ?side2 ?side3 ?side4 A2.out).mono ?_); (case side1 => exact upC (Kd.C_below HR0_1.out HB.out)); (case side2 => exact HC0_1.out); (case side3 => exact upC (Kd.C_below HR0_2.out HB.out)); (case side4 => exact HC0_2.out); rintro e w29 ⟨rfl, hb⟩; refine ⟨_, rfl, ?_⟩; have n0_ := Aside0.mk (blk_below (g := gb112) (o := .cells #[.int .i64 a0_0, .slice A0_1 l0_1.length c0_1, .slice A0_2 l0_2.length c0_2] 24 (0, 0)) (upO BK112.out) hb); have n1_ := Aside0.mk (below_step (upB HB.out) hb); clear BK112; clear HB; have BK112 := n0_; have HB := n1_; clear n0_ n1_; (try clear hb); (try clear hb2); (try clear hk); (try clear hi)))
  go_ret2
  exact ⟨eqE, upB HB.out⟩
end Go.Proofs.J.Print
end
section
namespace Go.Proofs.J.Print
open Go.RowKit Go.Proofs.PrintWords Go.Proofs.PrintLast Go.Proofs.PrintMore
def pedigreeref29_Number.l0 : Nat → ByteArray → Int → Int → Option (Int)
 | 0, _, _, _ => none
 | k + 1, x0, x3, x4 => if x4 ≥ 0 then (if 0 ≤ x4 then (if x4 < (x0.size : Int) then (pedigreeref29_Number.l0 k x0 (IntKind.u64.wrap ((IntKind.u64.wrap (256 * x3)) + (IntKind.u64.wrap (bt x0 x4)))) (wrap64 (x4 - 1))) else (none)) else (none)) else (some x3)
def pedigreeref29_Number.f (k : Nat) (a0 : ByteArray) : Option (Int) := pedigreeref29_Number.l0 k a0 0 (wrap64 ((a0.size : Int) - 1))
set_option maxHeartbeats 8000000 in
set_option maxRecDepth 100000 in
theorem pedigreeref29_Number.calls (k : Nat) (a0 : ByteArray) (r : Int) (w : World) (h : pedigreeref29_Number.f k a0 = some r) :
  Calls Tryz.prog 35 #[.string a0] w fun e w' => e = .returned (.int .u64 r) ∧ Drawn0 w w' := by
 have H : (pedigreeref29_Number.l0 k a0 0 (wrap64 ((a0.size : Int) - 1))) = some r := h
 clear h
 have H' := Aside0.mk H
 clear H
 go_enter Tryz.func35, Tryz.ntmps35
 go_wp2
 go_loopg [3, 4] k (fun kq v3 v4 w' => ∃ (x3_1 : Int) (x4_1 : Int), v3 = .int .u64 x3_1 ∧ v4 = .int .i64 x4_1 ∧ Aside0 (pedigreeref29_Number.l0 kq a0 x3_1 x4_1 = some r) ∧ Aside0 (kq ≤ k) ∧ Drawn0 w w')
 case atStart => exact ⟨(0), (wrap64 ((a0.size : Int) - 1)), eqS, eqS, H', ⟨Nat.le_refl _⟩, by repeat (first | exact Drawn0.refl _ | apply Drawn0.step)⟩
 case round =>
  clear H'
  obtain ⟨x3_1, x4_1, rfl, rfl, HA, HK1, ⟨m1, rfl⟩⟩ := hrel
  cases gk with
  | zero => exact absurd HA.out (by simp [pedigreeref29_Number.l0])
  | succ k1 =>
   have H := HA.out
   clear HA
   simp only [pedigreeref29_Number.l0] at H
   by_cases c2 : x4_1 ≥ 0
   ·rw [if_pos c2] at H
    have c2b0 := decide_eq_true c2
    clear c2
    by_cases c3 : 0 ≤ x4_1
    ·rw [if_pos c3] at H
     have c3b0 := decide_eq_true c3
     clear c3
     by_cases c4 : x4_1 < (a0.size : Int)
     ·rw [if_pos c4] at H
      have c4b0 := decide_eq_true c4
      clear c4
      have H' := Aside0.mk H
      clear H
      have p5 : 0 ≤ (x4_1 : Int) := of_decide_eq_true byA
      have q5 : x4_1 < (a0.size : Int) := of_decide_eq_true byA
      have hx5 := bt_at a0 x4_1
      replace p5 := eq_true p5
      replace q5 := eq_true q5
      go_wp2
      go_roundg k1
      case measure => have := HK1.out; omega
      case rel => exact ⟨(IntKind.u64.wrap ((IntKind.u64.wrap (256 * x3_1)) + (IntKind.u64.wrap (bt a0 x4_1)))), (wrap64 (x4_1 - 1)), eqS, eqS, H', ⟨by have := HK1.out; omega⟩, by repeat (first | exact Drawn0.refl _ | apply Drawn0.step)⟩
     ·rw [if_neg c4] at H
      exact absurd H (by simp)
    ·rw [if_neg c3] at H
     exact absurd H (by simp)
   ·rw [if_neg c2] at H
    have c2b0 := decide_eq_false c2
    clear c2
    obtain rfl := Option.some.inj H
    go_wp2
    go_ret
    exact ⟨eqS, by repeat (first | exact Drawn0.refl _ | apply Drawn0.step)⟩
end Go.Proofs.J.Print
end
section
namespace Go.Proofs.J.Print
open Go.RowKit Go.Proofs.PrintWords Go.Proofs.PrintLast Go.Proofs.PrintMore
mutual
def pedigreeref29_Body.j0 : Nat → ByteArray → Bool → Option (ByteArray × Bool)
 | 0, _, _ => none
 | k + 1, x0, x16 => if x16 = true then (some ((⟨#[]⟩ : ByteArray), false)) else (if 0 ≤ 4 then (if 4 ≤ (x0.size : Int) then ((pedigreeref29_Number.f k (x0.extract 0 4)).bind fun t122 => (if (wrap64 (t122)) > 16777216 then (pedigreeref29_Body.j1 k x0 (wrap64 (t122)) true) else (pedigreeref29_Body.j1 k x0 (wrap64 (t122)) (decide ((x0.size : Int) < (wrap64 (10 + (wrap64 (t122))))))))) else (none)) else (none))
def pedigreeref29_Body.j1 : Nat → ByteArray → Int → Bool → Option (ByteArray × Bool)
 | 0, _, _, _ => none
 | k + 1, x0, x4, x29 => if x29 = true then (some ((⟨#[]⟩ : ByteArray), false)) else (if 8 ≤ (wrap64 (8 + x4)) then (if (wrap64 (8 + x4)) ≤ (x0.size : Int) then ((pedigreeref29_Sum.f k (x0.extract 8 ((wrap64 (8 + x4)) : Int).toNat)).bind fun t123 => ((pedigreeref29_Bytes.f k (IntKind.u64.wrap (t123)) 2).bind fun t124 => (if 0 ≤ (wrap64 (8 + x4)) then (if (wrap64 (8 + x4)) ≤ (wrap64 (10 + x4)) then (if (wrap64 (10 + x4)) ≤ (x0.size : Int) then (if t124.toList = (x0.extract ((wrap64 (8 + x4)) : Int).toNat ((wrap64 (10 + x4)) : Int).toNat).toList then (some (x0.extract 8 ((wrap64 (8 + x4)) : Int).toNat, true)) else (some ((⟨#[]⟩ : ByteArray), false))) else (none)) else (none)) else (none)))) else (none)) else (none))
end
def pedigreeref29_Body.f (k : Nat) (a0 : ByteArray) : Option (ByteArray × Bool) := if (a0.size : Int) < 10 then (pedigreeref29_Body.j0 k a0 true) else (if 0 ≤ 4 then (if 4 ≤ (a0.size : Int) then ((pedigreeref29_turned.f k (a0.extract 0 4)).bind fun t121 => (if 4 ≤ 8 then (if 8 ≤ (a0.size : Int) then (pedigreeref29_Body.j0 k a0 (t121.toList != (a0.extract 4 8).toList)) else (none)) else (none))) else (none)) else (none))
def pedigreeref29_Body.T1 : Bool × List (List Nat × List Nat) := (true, [([], []), ([0], [0]), ([1], [1]), ([2], [2]), ([3], [3]), ([4, 3], [3, 4]), ([5, 3, 3], [3, 5]), ([3], [3]), ([7, 3], [3, 7]), ([6, 8, 3], [3, 6, 8]), ([3, 9], [3, 9])])
def pedigreeref29_Body.B1 : List Nat := [0, 1, 3, 7, 15, 31, 63, 15, 143, 511, 1023]
theorem pedigreeref29_Body.tab1 : rtab .any (opsOf Tryz.f33 1) = pedigreeref29_Body.T1 := by kernel_rfl
theorem pedigreeref29_Body.bits1 : waitsOk pedigreeref29_Body.T1.2 pedigreeref29_Body.B1 = true := by kernel_rfl
def pedigreeref29_Body.T7 : Bool × List (List Nat × List Nat) := (true, [([], []), ([0], [0]), ([1], [1]), ([2, 1], [2]), ([], []), ([], []), ([5], [5]), ([], []), ([7], [7]), ([4, 6, 8], [4, 6, 8]), ([3, 9], [3, 9])])
def pedigreeref29_Body.B7 : List Nat := [0, 1, 3, 7, 0, 0, 32, 0, 128, 496, 1023]
theorem pedigreeref29_Body.tab7 : rtab .any (opsOf Tryz.f33 7) = pedigreeref29_Body.T7 := by kernel_rfl
theorem pedigreeref29_Body.bits7 : waitsOk pedigreeref29_Body.T7.2 pedigreeref29_Body.B7 = true := by kernel_rfl
set_option maxHeartbeats 8000000 in
set_option maxRecDepth 100000 in
theorem pedigreeref29_Body.calls (k : Nat) (a0 : ByteArray) (r1 : ByteArray) (r2 : Bool) (w : World) (h : pedigreeref29_Body.f k a0 = some (r1, r2)) :
  Calls Tryz.prog 33 #[.string a0] w fun e w' => e = .returned (.tuple #[.string r1, .bool r2]) ∧ Below w.heap.size w w' := by
 have HB := Aside0.mk (Below.refl w.heap.size w)
 have H : (if (a0.size : Int) < 10 then (pedigreeref29_Body.j0 k a0 true) else (if 0 ≤ 4 then (if 4 ≤ (a0.size : Int) then ((pedigreeref29_turned.f k (a0.extract 0 4)).bind fun t121 => (if 4 ≤ 8 then (if 8 ≤ (a0.size : Int) then (pedigreeref29_Body.j0 k a0 (t121.toList != (a0.extract 4 8).toList)) else (none)) else (none))) else (none)) else (none))) = some (r1, r2) := h
 clear h
 have HC2 := Aside0.mk H
 clear H
 go_enter Tryz.func33, Tryz.ntmps33
 go_upto_region 1 with (fail)
 go_cut [16] (fun v16 wc => ∃ (kq : Nat) (x16_1 : Bool), v16 = .bool x16_1 ∧ Aside0 (pedigreeref29_Body.j0 kq a0 x16_1 = some (r1, r2)) ∧ Aside0 (kq ≤ k) ∧ Aside0 (Below w.heap.size w wc))
 case first =>
  have H := HC2.out
  clear HC2
  by_cases c3 : (a0.size : Int) < 10
  ·rw [if_pos c3] at H
   have c3b0 := decide_eq_true c3
   have c3b1 : decide (a0.size < 10) = true := decide_eq_true (by omega)
   clear c3
   (first | rw [c3b0] | (simp only [i64_w, i32_w]; rw [c3b0]) | skip)
   have H' := Aside0.mk H
   clear H
   try go_wp2
   have n0_ := Aside0.mk (below_drew1 HB.out)
   clear HB
   have HB := n0_
   clear n0_
   refine start_ (n := 11) (S := fun w' => True) (ds := []) #[false,false,false,false,false,false,false,false,false,false,false] (by kernel_rfl) rfl rfl trivial (fun hHeld => ?_); refine with_tabW pedigreeref29_Body.tab1 pedigreeref29_Body.bits1 (fun HT_ HW_ => ?_)
   generalize w.drew = w4 at HB hHeld ⊢
   refine pureS 0 (some 6) HT_ ?_
   refine pureS 1 (some 7) HT_ ?_
   refine pureS 2 (some 8) HT_ ?_
   refine pureS 3 (some 9) HT_ ?_
   refine pure_ (i := 4) (N := some 10) (v := undef) (a' := ?_) #[true, true, true, true, true, false,false,false,false,false,false] rfl rfl (any_of HT_.out (by kernel_rfl)) (fun _ _ _ h => h) (Or.inr ⟨by rfl, rfl⟩) ?_ ?_
   rotate_left
   ·simp only [Act.put, List.setIfInBounds_toArray, List.set_cons_zero, List.set_cons_succ, i64_w, i32_w]
    rfl
   refine pure_ (i := 5) (N := some 11) (v := undef) (a' := ?_) #[true, true, true, true, true, true, false,false,false,false,false] rfl rfl (any_of HT_.out (by kernel_rfl)) (fun _ _ _ h => h) (Or.inr ⟨by rfl, rfl⟩) ?_ ?_
   rotate_left
   ·simp only [Act.put, List.setIfInBounds_toArray, List.set_cons_zero, List.set_cons_succ, i64_w, i32_w]
    rfl
   refine pure_ (i := 6) (N := some 12) (v := undef) (a' := ?_) #[true, true, true, true, true, true, true, false,false,false,false] rfl rfl (any_of HT_.out (by kernel_rfl)) (fun _ _ _ h => h) (Or.inr ⟨by rfl, rfl⟩) ?_ ?_
   rotate_left
   ·simp only [Act.put, List.setIfInBounds_toArray, List.set_cons_zero, List.set_cons_succ, i64_w, i32_w]
    rfl
   refine pure_ (i := 7) (N := some 13) (v := undef) (a' := ?_) #[true, true, true, true, true, true, true, true, false,false,false] rfl rfl (any_of HT_.out (by kernel_rfl)) (fun _ _ _ h => h) (Or.inr ⟨by rfl, rfl⟩) ?_ ?_
   rotate_left
   ·simp only [Act.put, List.setIfInBounds_toArray, List.set_cons_zero, List.set_cons_succ, i64_w, i32_w]
    rfl
   refine pure_ (i := 8) (N := some 14) (v := undef) (a' := ?_) #[true, true, true, true, true, true, true, true, true, false,false] rfl rfl (any_of HT_.out (by kernel_rfl)) (fun _ _ _ h => h) (Or.inr ⟨by rfl, rfl⟩) ?_ ?_
   rotate_left
   ·simp only [Act.put, List.setIfInBounds_toArray, List.set_cons_zero, List.set_cons_succ, i64_w, i32_w]
    rfl
   refine pure_ (i := 9) (N := some 15) (v := undef) (a' := ?_) #[true, true, true, true, true, true, true, true, true, true, false] rfl rfl (any_of HT_.out (by kernel_rfl)) (fun _ _ _ h => h) (Or.inr ⟨by rfl, rfl⟩) ?_ ?_
   rotate_left
   ·simp only [Act.put, List.setIfInBounds_toArray, List.set_cons_zero, List.set_cons_succ, i64_w, i32_w]
    rfl
   refine pureS 10 (some 16) HT_ ?_
   refine done_ (done_of HT_.out (by kernel_rfl)) ?_
   try go_wp2
   go_meet
   case rel => exact ⟨_, (true), eqS, H', ⟨by first | omega | exact Nat.le_refl _⟩, ⟨upB HB.out⟩⟩
  ·rw [if_neg c3] at H
   have c3b0 := decide_eq_false c3
   have c3b1 : decide (a0.size < 10) = false := decide_eq_false (by omega)
   clear c3
   (first | rw [c3b0] | (simp only [i64_w, i32_w]; rw [c3b0]) | skip)
   by_cases c5 : 0 ≤ 4
   ·rw [if_pos c5] at H
    have c5b0 := eq_true c5
    have c5b1 := decide_eq_true c5
    clear c5
    by_cases c6 : 4 ≤ (a0.size : Int)
    ·rw [if_pos c6] at H
     have c6b0 := eq_true c6
     have c6b1 := decide_eq_true c6
     clear c6
     replace H := Option.bind_eq_some_iff.mp H
     obtain ⟨t121, A70, H⟩ := H
     replace H : (if 4 ≤ 8 then (if 8 ≤ (a0.size : Int) then (pedigreeref29_Body.j0 k a0 (t121.toList != (a0.extract 4 8).toList)) else (none)) else (none)) = some (r1, r2) := H
     have A7 := Aside0.mk A70
     clear A70
     by_cases c8 : 4 ≤ 8
     ·rw [if_pos c8] at H
      have c8b0 := eq_true c8
      have c8b1 := decide_eq_true c8
      clear c8
      by_cases c9 : 8 ≤ (a0.size : Int)
      ·rw [if_pos c9] at H
       have c9b0 := eq_true c9
       have c9b1 := decide_eq_true c9
       clear c9
       have H' := Aside0.mk H
       clear H
       try go_wp2
       have n0_ := Aside0.mk (below_drew1 HB.out)
       clear HB
       have HB := n0_
       clear n0_
       refine start_ (n := 11) (S := fun w' => True) (ds := []) #[false,false,false,false,false,false,false,false,false,false,false] (by kernel_rfl) rfl rfl trivial (fun hHeld => ?_); refine with_tabW pedigreeref29_Body.tab1 pedigreeref29_Body.bits1 (fun HT_ HW_ => ?_)
       generalize w.drew = w10 at HB hHeld ⊢
       refine pureS 0 (some 6) HT_ ?_
       refine pureS 1 (some 7) HT_ ?_
       refine pureS 2 (some 8) HT_ ?_
       refine pureS 3 (some 9) HT_ ?_
       refine pureS 4 (some 10) HT_ ?_
       refine pureS 5 (some 11) HT_ ?_
       refine pureS 7 (some 13) HT_ ?_
       refine pureS 8 (some 14) HT_ ?_
       refine one_ (i := 6) (N := some 12) #[true, true, true, true, true, true, true, true, true, false,false] rfl rfl (one_of HT_.out (by kernel_rfl)) (by decide) (fun K hK => ?_)
       refine goes_ Tryz.func79 (by kernel_rfl) rfl #[.string (a0.extract 0 4)] (by rfl) rfl rfl (by (try simp only [List.map_toArray, List.map_cons, List.map_nil]); first | done | rfl | (simp only [List.length_drop, List.length_take]; rfl)) ?_
       with_reducible refine (pedigreeref29_turned.calls k (a0.extract 0 4) t121 _ A7.out).mono ?_
       rintro e w11 ⟨rfl, hb⟩
       refine ⟨_, rfl, ?_⟩
       have n0_ := Aside0.mk (below_step (upB HB.out) hb)
       clear HB
       have HB := n0_
       clear n0_
       (try clear hb)
       (try clear hb2)
       (try clear hk)
       (try clear hi)
       refine hK.out _ _ trivial (fun hHeld => ?_)
       clear hK K
       refine normS (some 12) ?_
       refine pureS 9 (some 15) HT_ ?_
       refine pureS 10 (some 16) HT_ ?_
       refine done_ (done_of HT_.out (by kernel_rfl)) ?_
       try go_wp2
       go_meet
       case rel => exact ⟨_, ((t121.toList != (a0.extract 4 8).toList)), eqS, H', ⟨by first | omega | exact Nat.le_refl _⟩, ⟨upB HB.out⟩⟩
      ·rw [if_neg c9] at H
       exact absurd H (by simp)
     ·rw [if_neg c8] at H
      exact absurd H (by simp)
    ·rw [if_neg c6] at H
     exact absurd H (by simp)
   ·rw [if_neg c5] at H
    exact absurd H (by simp)
 case rest =>
  clear HC2
  try clear p2
  try clear c3
  try clear c3b0
  try clear c3b1
  try clear c5
  try clear c5b0
  try clear c5b1
  try clear c6
  try clear c6b0
  try clear c6b1
  try clear c7
  try clear c8
  try clear c8b0
  try clear c8b1
  try clear c9
  try clear c9b0
  try clear c9b1
  obtain ⟨kq, x16_1, rfl, HA, HJ1, HB⟩ := hcut
  cases kq with
  | zero => exact absurd HA.out (by simp [pedigreeref29_Body.j0])
  | succ kj1 =>
   have H := HA.out
   clear HA
   simp only [pedigreeref29_Body.j0] at H
   by_cases c12 : x16_1 = true
   ·subst c12
    have H1 : (some ((⟨#[]⟩ : ByteArray), false)) = some (r1, r2) := by rw [if_pos rfl] at H; exact H
    clear H
    have H := H1
    clear H1
    simp only [Option.some.injEq, Prod.mk.injEq] at H
    obtain ⟨rfl, rfl⟩ := H
    go_wp2
    go_ret2
    exact ⟨eqE, upB HB.out⟩
   ·replace c12 := Bool.eq_false_iff.mpr c12
    subst c12
    have H1 : (if 0 ≤ 4 then (if 4 ≤ (a0.size : Int) then ((pedigreeref29_Number.f kj1 (a0.extract 0 4)).bind fun t122 => (if (wrap64 (t122)) > 16777216 then (pedigreeref29_Body.j1 kj1 a0 (wrap64 (t122)) true) else (pedigreeref29_Body.j1 kj1 a0 (wrap64 (t122)) (decide ((a0.size : Int) < (wrap64 (10 + (wrap64 (t122))))))))) else (none)) else (none)) = some (r1, r2) := by rw [if_neg (show ¬ (false = true) by decide)] at H; exact H
    clear H
    have H := H1
    clear H1
    by_cases c13 : 0 ≤ 4
    ·rw [if_pos c13] at H
     have c13b0 := eq_true c13
     have c13b1 := decide_eq_true c13
     clear c13
     by_cases c14 : 4 ≤ (a0.size : Int)
     ·rw [if_pos c14] at H
      have c14b0 := eq_true c14
      have c14b1 := decide_eq_true c14
      clear c14
      replace H := Option.bind_eq_some_iff.mp H
      obtain ⟨t122, A150, H⟩ := H
      replace H : (if (wrap64 (t122)) > 16777216 then (pedigreeref29_Body.j1 kj1 a0 (wrap64 (t122)) true) else (pedigreeref29_Body.j1 kj1 a0 (wrap64 (t122)) (decide ((a0.size : Int) < (wrap64 (10 + (wrap64 (t122)))))))) = some (r1, r2) := H
      have A15 := Aside0.mk A150
      clear A150
      have HC16 := Aside0.mk H
      clear H
      go_upto_region 4 with (first | ((with_reducible refine gate_callee (f := 35) rfl ?_); refine goesS (some 19) Tryz.func35 #[.string (a0.extract 0 4)] ?_; (with_reducible refine (pedigreeref29_Number.calls kj1 (a0.extract 0 4) t122 _ A15.out).mono ?_); rintro e w' ⟨rfl, ⟨nd, rfl⟩⟩; refine ⟨_, rfl, ?_⟩))
      (try simp only [Act.put, List.setIfInBounds_toArray, List.set_cons_zero, List.set_cons_succ])
      go_cut [29] (fun v29 wc => ∃ (kq : Nat) (x29_15 : Bool), v29 = .bool x29_15 ∧ Aside0 (pedigreeref29_Body.j1 kq a0 (wrap64 (t122)) x29_15 = some (r1, r2)) ∧ Aside0 (kq ≤ kj1) ∧ Aside0 (Below w.heap.size w wc))
      case first =>
       have H := HC16.out
       clear HC16
       by_cases c17 : (wrap64 (t122)) > 16777216
       ·rw [if_pos c17] at H
        have c17b0 := decide_eq_true c17
        clear c17
        (first | rw [c17b0] | (simp only [i64_w, i32_w]; rw [c17b0]) | skip)
        have H' := Aside0.mk H
        clear H
        go_wp2
        go_meet
        case rel => exact ⟨_, (true), eqS, H', ⟨by have := HJ1.out; first | omega | exact Nat.le_refl _⟩, ⟨upB HB.out⟩⟩
       ·rw [if_neg c17] at H
        have c17b0 := decide_eq_false c17
        clear c17
        (first | rw [c17b0] | (simp only [i64_w, i32_w]; rw [c17b0]) | skip)
        have H' := Aside0.mk H
        clear H
        go_wp2
        go_meet
        case rel => exact ⟨_, (decide ((a0.size : Int) < (wrap64 (10 + (wrap64 (t122)))))), eqS, H', ⟨by have := HJ1.out; first | omega | exact Nat.le_refl _⟩, ⟨upB HB.out⟩⟩
      case rest =>
       clear HC16
       try clear c1
       try clear p2
       try clear c3
       try clear c3b0
       try clear c3b1
       try clear c5
       try clear c5b0
       try clear c5b1
       try clear c6
       try clear c6b0
       try clear c6b1
       try clear p6
       try clear c7
       try clear c8
       try clear c8b0
       try clear c8b1
       try clear c9
       try clear c9b0
       try clear c9b1
       try clear c12
       try clear c13
       try clear c13b0
       try clear c13b1
       try clear c14
       try clear c14b0
       try clear c14b1
       try clear c17
       try clear c17b0
       try clear p2
       obtain ⟨kq, x29_15, rfl, HA, HJ15, HB⟩ := hcut
       cases kq with
       | zero => exact absurd HA.out (by simp [pedigreeref29_Body.j1])
       | succ kj15 =>
        have H := HA.out
        clear HA
        simp only [pedigreeref29_Body.j1] at H
        by_cases c18 : x29_15 = true
        ·subst c18
         have H1 : (some ((⟨#[]⟩ : ByteArray), false)) = some (r1, r2) := by rw [if_pos rfl] at H; exact H
         clear H
         have H := H1
         clear H1
         simp only [Option.some.injEq, Prod.mk.injEq] at H
         obtain ⟨rfl, rfl⟩ := H
         go_wp2
         go_ret2
         exact ⟨eqE, upB HB.out⟩
        ·replace c18 := Bool.eq_false_iff.mpr c18
         subst c18
         have H1 : (if 8 ≤ (wrap64 (8 + (wrap64 (t122)))) then (if (wrap64 (8 + (wrap64 (t122)))) ≤ (a0.size : Int) then ((pedigreeref29_Sum.f kj15 (a0.extract 8 ((wrap64 (8 + (wrap64 (t122)))) : Int).toNat)).bind fun t123 => ((pedigreeref29_Bytes.f kj15 (IntKind.u64.wrap (t123)) 2).bind fun t124 => (if 0 ≤ (wrap64 (8 + (wrap64 (t122)))) then (if (wrap64 (8 + (wrap64 (t122)))) ≤ (wrap64 (10 + (wrap64 (t122)))) then (if (wrap64 (10 + (wrap64 (t122)))) ≤ (a0.size : Int) then (if t124.toList = (a0.extract ((wrap64 (8 + (wrap64 (t122)))) : Int).toNat ((wrap64 (10 + (wrap64 (t122)))) : Int).toNat).toList then (some (a0.extract 8 ((wrap64 (8 + (wrap64 (t122)))) : Int).toNat, true)) else (some ((⟨#[]⟩ : ByteArray), false))) else (none)) else (none)) else (none)))) else (none)) else (none)) = some (r1, r2) := by rw [if_neg (show ¬ (false = true) by decide)] at H; exact H
         clear H
         have H := H1
         clear H1
         by_cases c19 : 8 ≤ (wrap64 (8 + (wrap64 (t122))))
         ·rw [if_pos c19] at H
          have c19b0 := eq_true c19
          have c19b1 := decide_eq_true c19
          by_cases c20 : (wrap64 (8 + (wrap64 (t122)))) ≤ (a0.size : Int)
          ·rw [if_pos c20] at H
           have c20b0 := eq_true c20
           have c20b1 := decide_eq_true c20
           replace H := Option.bind_eq_some_iff.mp H
           obtain ⟨t123, A210, H⟩ := H
           replace H : ((pedigreeref29_Bytes.f kj15 (IntKind.u64.wrap (t123)) 2).bind fun t124 => (if 0 ≤ (wrap64 (8 + (wrap64 (t122)))) then (if (wrap64 (8 + (wrap64 (t122)))) ≤ (wrap64 (10 + (wrap64 (t122)))) then (if (wrap64 (10 + (wrap64 (t122)))) ≤ (a0.size : Int) then (if t124.toList = (a0.extract ((wrap64 (8 + (wrap64 (t122)))) : Int).toNat ((wrap64 (10 + (wrap64 (t122)))) : Int).toNat).toList then (some (a0.extract 8 ((wrap64 (8 + (wrap64 (t122)))) : Int).toNat, true)) else (some ((⟨#[]⟩ : ByteArray), false))) else (none)) else (none)) else (none))) = some (r1, r2) := H
           have A21 := Aside0.mk A210
           clear A210
           replace H := Option.bind_eq_some_iff.mp H
           obtain ⟨t124, A220, H⟩ := H
           replace H : (if 0 ≤ (wrap64 (8 + (wrap64 (t122)))) then (if (wrap64 (8 + (wrap64 (t122)))) ≤ (wrap64 (10 + (wrap64 (t122)))) then (if (wrap64 (10 + (wrap64 (t122)))) ≤ (a0.size : Int) then (if t124.toList = (a0.extract ((wrap64 (8 + (wrap64 (t122)))) : Int).toNat ((wrap64 (10 + (wrap64 (t122)))) : Int).toNat).toList then (some (a0.extract 8 ((wrap64 (8 + (wrap64 (t122)))) : Int).toNat, true)) else (some ((⟨#[]⟩ : ByteArray), false))) else (none)) else (none)) else (none)) = some (r1, r2) := H
           have A22 := Aside0.mk A220
           clear A220
           obtain ⟨ji23, hji23⟩ : ∃ j_ : Int, (wrap64 (8 + (wrap64 (t122)))) = j_ := ⟨_, rfl⟩
           replace H : (if 0 ≤ (ji23) then (if (ji23) ≤ (wrap64 (10 + (wrap64 (t122)))) then (if (wrap64 (10 + (wrap64 (t122)))) ≤ (a0.size : Int) then (if t124.toList = (a0.extract ((ji23) : Int).toNat ((wrap64 (10 + (wrap64 (t122)))) : Int).toNat).toList then (some (a0.extract 8 ((ji23) : Int).toNat, true)) else (some ((⟨#[]⟩ : ByteArray), false))) else (none)) else (none)) else (none)) = some (r1, r2) := by first | (rw [hji23] at H; exact H) | (simp only [hji23] at H ⊢; exact H)
           (try rw [hji23] at c19b0)
           (try rw [hji23] at c19b1)
           (try rw [hji23] at c19)
           (try rw [hji23] at c20b0)
           (try rw [hji23] at c20b1)
           (try rw [hji23] at c20)
           (try rw [hji23] at A21)
           (try rw [hji23] at A22)
           have hji23w : (IntKind.i64.wrap (8 + (wrap64 (t122)))) = ji23 := (i64_w _).trans hji23
           by_cases c24 : 0 ≤ (ji23)
           ·rw [if_pos c24] at H
            have c24b0 := eq_true c24
            have c24b1 := decide_eq_true c24
            clear c24
            by_cases c25 : (ji23) ≤ (wrap64 (10 + (wrap64 (t122))))
            ·rw [if_pos c25] at H
             have c25b0 := eq_true c25
             have c25b1 := decide_eq_true c25
             by_cases c26 : (wrap64 (10 + (wrap64 (t122)))) ≤ (a0.size : Int)
             ·rw [if_pos c26] at H
              have c26b0 := eq_true c26
              have c26b1 := decide_eq_true c26
              by_cases c27 : t124.toList = (a0.extract ((ji23) : Int).toNat ((wrap64 (10 + (wrap64 (t122)))) : Int).toNat).toList
              ·rw [if_pos c27] at H
               have c27b0 : (t124.toList == (a0.extract ((ji23) : Int).toNat ((wrap64 (10 + (wrap64 (t122)))) : Int).toNat).toList) = true := beq_iff_eq.mpr c27
               have c27b1 : (t124.toList != (a0.extract ((ji23) : Int).toNat ((wrap64 (10 + (wrap64 (t122)))) : Int).toNat).toList) = false := bne_eq_false_iff_eq.mpr c27
               clear c27
               simp only [Option.some.injEq, Prod.mk.injEq] at H
               obtain ⟨rfl, rfl⟩ := H
               try go_wp2
               have n0_ := Aside0.mk (below_drew1 HB.out)
               clear HB
               have HB := n0_
               clear n0_
               refine start_ (n := 11) (S := fun w' => True) (ds := []) #[false,false,false,false,false,false,false,false,false,false,false] (by kernel_rfl) rfl rfl trivial (fun hHeld => ?_); refine with_tabW pedigreeref29_Body.tab7 pedigreeref29_Body.bits7 (fun HT_ HW_ => ?_)
               generalize wc.drew = w28 at HB hHeld ⊢
               refine pureS 0 (some 34) HT_ ?_
               refine pureS 4 (some 38) HT_ ?_
               refine pureS 5 (some 39) HT_ ?_
               refine pureS 6 (some 40) HT_ ?_
               refine pureS 7 (some 41) HT_ ?_
               refine pureS 8 (some 42) HT_ ?_
               refine pureS 9 (some 43) HT_ ?_
               refine one_ (i := 1) (N := some 35) #[true, true, false,false, true, true, true, true, true, true, false] rfl rfl (one_of HT_.out (by kernel_rfl)) (by decide) (fun K hK => ?_)
               refine goes_ Tryz.func80 (by kernel_rfl) rfl #[.string (a0.extract 8 ((ji23) : Int).toNat)] (by rfl) rfl rfl (by (try simp only [List.map_toArray, List.map_cons, List.map_nil]); first | done | (simp only [hji23]; rfl) | rfl | (simp only [List.length_drop, List.length_take]; rfl)) ?_
               with_reducible refine (pedigreeref29_Sum.calls kj15 (a0.extract 8 ((ji23) : Int).toNat) t123 _ A21.out).mono ?_
               rintro e w' ⟨rfl, ⟨nd, rfl⟩⟩
               refine ⟨_, rfl, ?_⟩
               refine hK.out _ _ trivial (fun hHeld => ?_)
               clear hK K
               refine normS (some 35) ?_
               refine pureS 2 (some 36) HT_ ?_
               refine one_ (i := 3) (N := some 37) #[true, true, true, true, true, true, true, true, true, true, false] rfl rfl (one_of HT_.out (by kernel_rfl)) (by decide) (fun K hK => ?_)
               refine goes_ Tryz.func19 (by kernel_rfl) rfl #[.int .u64 (IntKind.u64.wrap (t123)), .int .i64 2] (by rfl) rfl rfl (by (try simp only [List.map_toArray, List.map_cons, List.map_nil]); first | done | rfl | (simp only [List.length_drop, List.length_take]; rfl)) ?_
               with_reducible refine (pedigreeref29_Bytes.calls kj15 (IntKind.u64.wrap (t123)) 2 t124 _ A22.out).mono ?_
               rintro e w29 ⟨rfl, hb⟩
               refine ⟨_, rfl, ?_⟩
               have n0_ := Aside0.mk (below_step (upB HB.out) hb)
               clear HB
               have HB := n0_
               clear n0_
               (try clear hb)
               (try clear hb2)
               (try clear hk)
               (try clear hi)
               refine hK.out _ _ trivial (fun hHeld => ?_)
               clear hK K
               refine normS (some 37) ?_
               refine pureS 10 (some 44) HT_ ?_
               refine done_ (done_of HT_.out (by kernel_rfl)) ?_
               try go_wp2
               go_ret2
               exact ⟨by first | rfl | (simp [errW_none, errW_some] <;> rfl) | (simp only [← hji23]; first | rfl | (simp [errW_none, errW_some] <;> rfl)) | (simp [*, errW_none, errW_some] <;> rfl), upB HB.out⟩
              ·rw [if_neg c27] at H
               have c27b0 : (t124.toList == (a0.extract ((ji23) : Int).toNat ((wrap64 (10 + (wrap64 (t122)))) : Int).toNat).toList) = false := beq_eq_false_iff_ne.mpr c27
               have c27b1 : (t124.toList != (a0.extract ((ji23) : Int).toNat ((wrap64 (10 + (wrap64 (t122)))) : Int).toNat).toList) = true := bne_iff_ne.mpr c27
               simp only [Option.some.injEq, Prod.mk.injEq] at H
               obtain ⟨rfl, rfl⟩ := H
               try go_wp2
               have n0_ := Aside0.mk (below_drew1 HB.out)
               clear HB
               have HB := n0_
               clear n0_
               refine start_ (n := 11) (S := fun w' => True) (ds := []) #[false,false,false,false,false,false,false,false,false,false,false] (by kernel_rfl) rfl rfl trivial (fun hHeld => ?_); refine with_tabW pedigreeref29_Body.tab7 pedigreeref29_Body.bits7 (fun HT_ HW_ => ?_)
               generalize wc.drew = w30 at HB hHeld ⊢
               refine pureS 0 (some 34) HT_ ?_
               refine pureS 4 (some 38) HT_ ?_
               refine pureS 5 (some 39) HT_ ?_
               refine pureS 6 (some 40) HT_ ?_
               refine pureS 7 (some 41) HT_ ?_
               refine pureS 8 (some 42) HT_ ?_
               refine pureS 9 (some 43) HT_ ?_
               refine one_ (i := 1) (N := some 35) #[true, true, false,false, true, true, true, true, true, true, false] rfl rfl (one_of HT_.out (by kernel_rfl)) (by decide) (fun K hK => ?_)
               refine goes_ Tryz.func80 (by kernel_rfl) rfl #[.string (a0.extract 8 ((ji23) : Int).toNat)] (by rfl) rfl rfl (by (try simp only [List.map_toArray, List.map_cons, List.map_nil]); first | done | (simp only [hji23]; rfl) | rfl | (simp only [List.length_drop, List.length_take]; rfl)) ?_
               with_reducible refine (pedigreeref29_Sum.calls kj15 (a0.extract 8 ((ji23) : Int).toNat) t123 _ A21.out).mono ?_
               rintro e w' ⟨rfl, ⟨nd, rfl⟩⟩
               refine ⟨_, rfl, ?_⟩
               refine hK.out _ _ trivial (fun hHeld => ?_)
               clear hK K
               refine normS (some 35) ?_
               refine pureS 2 (some 36) HT_ ?_
               refine one_ (i := 3) (N := some 37) #[true, true, true, true, true, true, true, true, true, true, false] rfl rfl (one_of HT_.out (by kernel_rfl)) (by decide) (fun K hK => ?_)
               refine goes_ Tryz.func19 (by kernel_rfl) rfl #[.int .u64 (IntKind.u64.wrap (t123)), .int .i64 2] (by rfl) rfl rfl (by (try simp only [List.map_toArray, List.map_cons, List.map_nil]); first | done | rfl | (simp only [List.length_drop, List.length_take]; rfl)) ?_
               with_reducible refine (pedigreeref29_Bytes.calls kj15 (IntKind.u64.wrap (t123)) 2 t124 _ A22.out).mono ?_
               rintro e w31 ⟨rfl, hb⟩
               refine ⟨_, rfl, ?_⟩
               have n0_ := Aside0.mk (below_step (upB HB.out) hb)
               clear HB
               have HB := n0_
               clear n0_
               (try clear hb)
               (try clear hb2)
               (try clear hk)
               (try clear hi)
               refine hK.out _ _ trivial (fun hHeld => ?_)
               clear hK K
               refine normS (some 37) ?_
               refine pureS 10 (some 44) HT_ ?_
               refine done_ (done_of HT_.out (by kernel_rfl)) ?_
               try go_wp2
               go_ret2
               exact ⟨by first | rfl | (simp [errW_none, errW_some] <;> rfl) | (simp only [← hji23]; first | rfl | (simp [errW_none, errW_some] <;> rfl)) | (simp [*, errW_none, errW_some] <;> rfl), upB HB.out⟩
             ·rw [if_neg c26] at H
              exact absurd H (by simp)
            ·rw [if_neg c25] at H
             exact absurd H (by simp)
           ·rw [if_neg c24] at H
            exact absurd H (by simp)
          ·rw [if_neg c20] at H
           exact absurd H (by simp)
         ·rw [if_neg c19] at H
          exact absurd H (by simp)
     ·rw [if_neg c14] at H
      exact absurd H (by simp)
    ·rw [if_neg c13] at H
     exact absurd H (by simp)
end Go.Proofs.J.Print
end
section
namespace Go.Proofs.J.Print
open Go.RowKit Go.Proofs.PrintWords Go.Proofs.PrintLast Go.Proofs.PrintMore
def pedigreeref29_take.f (a0 : ByteArray) (a1 : Int) : Option (ByteArray × ByteArray × Bool) := if a1 > (a0.size : Int) then (some ((⟨#[]⟩ : ByteArray), (⟨#[]⟩ : ByteArray), false)) else (if 0 ≤ a1 then (if a1 ≤ (a0.size : Int) then (some (a0.extract 0 (a1 : Int).toNat, a0.extract (a1 : Int).toNat a0.size, true)) else (none)) else (none))
set_option maxHeartbeats 8000000 in
set_option maxRecDepth 100000 in
theorem pedigreeref29_take.calls (a0 : ByteArray) (a1 : Int) (r1 : ByteArray) (r2 : ByteArray) (r3 : Bool) (w : World) (h : pedigreeref29_take.f a0 a1 = some (r1, r2, r3)) :
  Calls Tryz.prog 94 #[.string a0, .int .i64 a1] w fun e w' => e = .returned (.tuple #[.string r1, .string r2, .bool r3]) ∧ Drawn0 w w' := by
 have H : (if a1 > (a0.size : Int) then (some ((⟨#[]⟩ : ByteArray), (⟨#[]⟩ : ByteArray), false)) else (if 0 ≤ a1 then (if a1 ≤ (a0.size : Int) then (some (a0.extract 0 (a1 : Int).toNat, a0.extract (a1 : Int).toNat a0.size, true)) else (none)) else (none))) = some (r1, r2, r3) := h
 clear h
 by_cases c3 : a1 > (a0.size : Int)
 ·rw [if_pos c3] at H
  have c3b0 := decide_eq_true c3
  clear c3
  simp only [Option.some.injEq, Prod.mk.injEq] at H
  obtain ⟨rfl, rfl, rfl⟩ := H
  go_enter Tryz.func94, Tryz.ntmps94
  go_wp2
  repeat (go_quiet (fail); try go_wp2)
  go_ret3
  exact ⟨eqS, by repeat (first | exact Drawn0.refl _ | apply Drawn0.step)⟩
 ·rw [if_neg c3] at H
  have c3b0 := decide_eq_false c3
  clear c3
  by_cases c4 : 0 ≤ a1
  ·rw [if_pos c4] at H
   have c4b0 := eq_true c4
   have c4b1 := decide_eq_true c4
   clear c4
   by_cases c5 : a1 ≤ (a0.size : Int)
   ·rw [if_pos c5] at H
    have c5b0 := eq_true c5
    have c5b1 := decide_eq_true c5
    clear c5
    have c6b0 := eq_true (of_decide_eq_true byA : 0 ≤ a1)
    have c7b0 := eq_true (of_decide_eq_true byA : a1 ≤ (a0.size : Int))
    simp only [Option.some.injEq, Prod.mk.injEq] at H
    obtain ⟨rfl, rfl, rfl⟩ := H
    go_enter Tryz.func94, Tryz.ntmps94
    go_wp2
    repeat (go_quiet (fail); try go_wp2)
    go_ret3
    exact ⟨eqS, by repeat (first | exact Drawn0.refl _ | apply Drawn0.step)⟩
   ·rw [if_neg c5] at H
    exact absurd H (by simp)
  ·rw [if_neg c4] at H
   exact absurd H (by simp)
end Go.Proofs.J.Print
end
section
namespace Go.Proofs.J.Print
open Go.RowKit Go.Proofs.PrintWords Go.Proofs.PrintLast Go.Proofs.PrintMore
def pedigreeref29_readValue.j0 : Nat → ByteArray → ByteArray → Int → Option (Int × Int × ByteArray × ByteArray × Bool)
 | 0, _, _, _ => none
 | k + 1, x0, x5, x7 => (pedigreeref29_take.f x0 x7).bind fun bt132 => (if x5.toList = ([84] : List UInt8) then (some (2, 0, bt132.1, bt132.2.1, bt132.2.2)) else ((pedigreeref29_Number.f k bt132.1).bind fun t135 => (some (1, wrap64 (t135), (⟨#[]⟩ : ByteArray), bt132.2.1, bt132.2.2))))
def pedigreeref29_readValue.f (k : Nat) (a0 : ByteArray) : Option (Int × Int × ByteArray × ByteArray × Bool) := (pedigreeref29_take.f a0 1).bind fun bt126 => (if bt126.2.2 = true then (if bt126.1.toList = ([84] : List UInt8) then ((pedigreeref29_take.f bt126.2.1 1).bind fun bt129 => (if bt129.2.2 = true then (if 0 < (bt129.1.size : Int) then (pedigreeref29_readValue.j0 k bt129.2.1 (⟨#[84]⟩ : ByteArray) (wrap64 (bt bt129.1 0))) else (none)) else (some (0, 0, (⟨#[]⟩ : ByteArray), (⟨#[]⟩ : ByteArray), false)))) else (pedigreeref29_readValue.j0 k bt126.2.1 bt126.1 8)) else (some (0, 0, (⟨#[]⟩ : ByteArray), (⟨#[]⟩ : ByteArray), false)))
set_option maxHeartbeats 8000000 in
set_option maxRecDepth 100000 in
theorem pedigreeref29_readValue.calls (k : Nat) (a0 : ByteArray) (r1 : Int) (r2 : Int) (r3 : ByteArray) (r4 : ByteArray) (r5 : Bool) (w : World) (h : pedigreeref29_readValue.f k a0 = some (r1, r2, r3, r4, r5)) :
  Calls Tryz.prog 213 #[.string a0] w fun e w' => e = .returned (.tuple #[.agg #[.int .i8 r1, .int .i64 r2, .string r3], .string r4, .bool r5]) ∧ Below w.heap.size w w' := by
 have hu85 := Tryz.underlying85
 have HB := Aside0.mk (Below.refl w.heap.size w)
 have H : ((pedigreeref29_take.f a0 1).bind fun bt126 => (if bt126.2.2 = true then (if bt126.1.toList = ([84] : List UInt8) then ((pedigreeref29_take.f bt126.2.1 1).bind fun bt129 => (if bt129.2.2 = true then (if 0 < (bt129.1.size : Int) then (pedigreeref29_readValue.j0 k bt129.2.1 (⟨#[84]⟩ : ByteArray) (wrap64 (bt bt129.1 0))) else (none)) else (some (0, 0, (⟨#[]⟩ : ByteArray), (⟨#[]⟩ : ByteArray), false)))) else (pedigreeref29_readValue.j0 k bt126.2.1 bt126.1 8)) else (some (0, 0, (⟨#[]⟩ : ByteArray), (⟨#[]⟩ : ByteArray), false)))) = some (r1, r2, r3, r4, r5) := h
 clear h
 replace H := Option.bind_eq_some_iff.mp H
 obtain ⟨⟨t126, t127, t128⟩, A20, H⟩ := H
 replace H : (if t128 = true then (if t126.toList = ([84] : List UInt8) then ((pedigreeref29_take.f t127 1).bind fun bt129 => (if bt129.2.2 = true then (if 0 < (bt129.1.size : Int) then (pedigreeref29_readValue.j0 k bt129.2.1 (⟨#[84]⟩ : ByteArray) (wrap64 (bt bt129.1 0))) else (none)) else (some (0, 0, (⟨#[]⟩ : ByteArray), (⟨#[]⟩ : ByteArray), false)))) else (pedigreeref29_readValue.j0 k t127 t126 8)) else (some (0, 0, (⟨#[]⟩ : ByteArray), (⟨#[]⟩ : ByteArray), false))) = some (r1, r2, r3, r4, r5) := H
 have A2 := Aside0.mk A20
 clear A20
 by_cases c3 : t128 = true
 ·subst c3
  have H1 : (if t126.toList = ([84] : List UInt8) then ((pedigreeref29_take.f t127 1).bind fun bt129 => (if bt129.2.2 = true then (if 0 < (bt129.1.size : Int) then (pedigreeref29_readValue.j0 k bt129.2.1 (⟨#[84]⟩ : ByteArray) (wrap64 (bt bt129.1 0))) else (none)) else (some (0, 0, (⟨#[]⟩ : ByteArray), (⟨#[]⟩ : ByteArray), false)))) else (pedigreeref29_readValue.j0 k t127 t126 8)) = some (r1, r2, r3, r4, r5) := by rw [if_pos rfl] at H; exact H
  clear H
  have H := H1
  clear H1
  have HC4 := Aside0.mk H
  clear H
  go_enter Tryz.func213, Tryz.ntmps213
  go_upto_if 19 with (first | ((with_reducible refine gate_dst (N := 2) rfl ?_); refine boxS 2 #[.int .i8 0, .int .i64 0, .string (⟨#[]⟩ : ByteArray)] 85 ?_; intro gb125 hg w5 hbox hb; have n0_ := Aside0.mk (below_step (upB HB.out) hb); have n1_ := Aside0.mk (hbox); have n2_ := Aside0.mk (geB hg (upB HB.out) : w.heap.size ≤ gb125); have n3_ := Aside0.mk (geB hg (upB HB.out) : w.heap.size ≤ gb125); clear HB; have HB := n0_; have BK125 := n1_; have GW125 := n2_; have GE125 := n3_; clear n0_ n1_ n2_ n3_; clear hb hbox hg) | ((with_reducible refine gate_callee (f := 94) rfl ?_); refine goesS (some 11) Tryz.func94 #[.string a0, .int .i64 1] ?_; (with_reducible refine (pedigreeref29_take.calls a0 1 t126 t127 true _ A2.out).mono ?_); rintro e w' ⟨rfl, ⟨nd, rfl⟩⟩; refine ⟨_, rfl, ?_⟩))
  (try simp only [Act.put, List.setIfInBounds_toArray, List.set_cons_zero, List.set_cons_succ])
  go_cut [0, 5, 7] (fun v0 v5 v7 wc => ∃ (kq : Nat) (x0_3 : ByteArray) (x5_3 : ByteArray) (x7_3 : Int) (x126000_3 : Int) (x126001_3 : Int) (x126002_3 : ByteArray), v0 = .string x0_3 ∧ v5 = .string x5_3 ∧ v7 = .int .i64 x7_3 ∧ Aside0 (pedigreeref29_readValue.j0 kq x0_3 x5_3 x7_3 = some (r1, r2, r3, r4, r5)) ∧ Aside0 (kq ≤ k) ∧ Aside0 (wc.heap[gb125]? = some (.cells #[.int .i8 x126000_3, .int .i64 x126001_3, .string x126002_3] 85 (0, 0))) ∧ Aside0 (Below w.heap.size w wc))
  case first =>
   have H := HC4.out
   clear HC4
   by_cases c6 : t126.toList = ([84] : List UInt8)
   ·rw [if_pos c6] at H
    have c6b0 : (t126.toList == ([84] : List UInt8)) = true := beq_iff_eq.mpr c6
    have c6b1 : (t126.toList != ([84] : List UInt8)) = false := bne_eq_false_iff_eq.mpr c6
    clear c6
    (first | rw [c6b0] | (simp only [i64_w, i32_w]; rw [c6b0]) | skip)
    replace H := Option.bind_eq_some_iff.mp H
    obtain ⟨⟨t129, t130, t131⟩, A70, H⟩ := H
    replace H : (if t131 = true then (if 0 < (t129.size : Int) then (pedigreeref29_readValue.j0 k t130 (⟨#[84]⟩ : ByteArray) (wrap64 (bt t129 0))) else (none)) else (some (0, 0, (⟨#[]⟩ : ByteArray), (⟨#[]⟩ : ByteArray), false))) = some (r1, r2, r3, r4, r5) := H
    have A7 := Aside0.mk A70
    clear A70
    by_cases c8 : t131 = true
    ·subst c8
     have H1 : (if 0 < (t129.size : Int) then (pedigreeref29_readValue.j0 k t130 (⟨#[84]⟩ : ByteArray) (wrap64 (bt t129 0))) else (none)) = some (r1, r2, r3, r4, r5) := by rw [if_pos rfl] at H; exact H
     clear H
     have H := H1
     clear H1
     by_cases c9 : 0 < (t129.size : Int)
     ·rw [if_pos c9] at H
      have c9b0 := decide_eq_true c9
      have c9b1 : decide (0 < t129.size) = true := decide_eq_true (by omega)
      clear c9
      have H' := Aside0.mk H
      clear H
      go_wp2_with (first | ((with_reducible refine gate_callee (f := 94) rfl ?_); refine goesS (some 22) Tryz.func94 #[.string t127, .int .i64 1] ?_; (with_reducible refine (pedigreeref29_take.calls t127 1 t129 t130 true _ A7.out).mono ?_); rintro e w' ⟨rfl, ⟨nd, rfl⟩⟩; refine ⟨_, rfl, ?_⟩; have p10 : 0 ≤ (0 : Int) := (by omega); have q10 : 0 < t129.size := (by have : (0 : Int) < (t129.size : Int) := of_decide_eq_true byA; omega); have hx10 : ∀ h : 0 < t129.size, ((t129[0]'h).toNat : Int) = bt t129 0 := bt_at t129 0; clear p10; have qi10 : (0 < (t129.size : Int)) = True := eq_true (of_decide_eq_true byA); replace q10 := eq_true q10))
      go_meet
      case rel => exact ⟨_, (t130), ((⟨#[84]⟩ : ByteArray)), (wrap64 (bt t129 0)), (0), (0), ((⟨#[]⟩ : ByteArray)), eqS, eqS, eqS, H', ⟨by first | omega | exact Nat.le_refl _⟩, ⟨upO BK125.out⟩, ⟨upB HB.out⟩⟩
     ·rw [if_neg c9] at H
      exact absurd H (by simp)
    ·replace c8 := Bool.eq_false_iff.mpr c8
     subst c8
     have H1 : (some (0, 0, (⟨#[]⟩ : ByteArray), (⟨#[]⟩ : ByteArray), false)) = some (r1, r2, r3, r4, r5) := by rw [if_neg (show ¬ (false = true) by decide)] at H; exact H
     clear H
     have H := H1
     clear H1
     simp only [Option.some.injEq, Prod.mk.injEq] at H
     obtain ⟨rfl, rfl, rfl, rfl, rfl⟩ := H
     go_wp2_with (first | ((with_reducible refine gate_callee (f := 94) rfl ?_); refine goesS (some 22) Tryz.func94 #[.string t127, .int .i64 1] ?_; (with_reducible refine (pedigreeref29_take.calls t127 1 t129 t130 false _ A7.out).mono ?_); rintro e w' ⟨rfl, ⟨nd, rfl⟩⟩; refine ⟨_, rfl, ?_⟩; (try (rw [drewN_self w5]; generalize hq_ : World.drewN w5 _ = w5; have n0_ : Aside0 (w5.heap[gb125]? = some (.cells #[.int .i8 0, .int .i64 0, .string (⟨#[]⟩ : ByteArray)] 85 (0, 0))) := ⟨by rw [← hq_]; exact (upO BK125.out)⟩; have n1_ : Aside0 (Below w.heap.size w w5) := ⟨by rw [← hq_]; exact (upB HB.out)⟩; clear BK125 HB hq_; have BK125 := n0_; have HB := n1_; clear n0_ n1_)); have hcz11_0 : w5.cell? ⟨gb125, 0, none⟩ = some (.int .i8 0) := (blk_cell BK125.out 0).trans rfl; have hcz11_1 : w5.cell? ⟨gb125, 1, none⟩ = some (.int .i64 0) := (blk_cell BK125.out 1).trans rfl; have hcz11_2 : w5.cell? ⟨gb125, 2, none⟩ = some (.string (⟨#[]⟩ : ByteArray)) := (blk_cell BK125.out 2).trans rfl; have hfz11_0 := blk_frozen BK125.out 0; have hfz11_1 := blk_frozen BK125.out 1; have hfz11_2 := blk_frozen BK125.out 2))
     refine bodyPost_ret (results_ctt rfl _ _ gb125 85 #[.int .i8 0, .int .i64 0, .string (⟨#[]⟩ : ByteArray)] (0, 0) _ rfl (by refine upO ?_; refine blk_put (cs := #[.int .i8 0, .int .i64 0, .string (⟨#[]⟩ : ByteArray)]) ?_ 2 _ rfl; refine upO ?_; refine blk_put (cs := #[.int .i8 0, .int .i64 0, .string (⟨#[]⟩ : ByteArray)]) ?_ 1 _ rfl; refine upO ?_; refine blk_put (cs := #[.int .i8 0, .int .i64 0, .string (⟨#[]⟩ : ByteArray)]) ?_ 0 _ rfl; exact upO BK125.out) Tryz.underlying85 rfl (by kernel_rfl)) rfl ?_
     exact ⟨eqE, upB HB.out⟩
   ·rw [if_neg c6] at H
    have c6b0 : (t126.toList == ([84] : List UInt8)) = false := beq_eq_false_iff_ne.mpr c6
    have c6b1 : (t126.toList != ([84] : List UInt8)) = true := bne_iff_ne.mpr c6
    (first | rw [c6b0] | (simp only [i64_w, i32_w]; rw [c6b0]) | skip)
    have H' := Aside0.mk H
    clear H
    go_wp2
    go_meet
    case rel => exact ⟨_, (t127), (t126), (8), (0), (0), ((⟨#[]⟩ : ByteArray)), eqS, eqS, eqS, H', ⟨by first | omega | exact Nat.le_refl _⟩, ⟨upO BK125.out⟩, ⟨upB HB.out⟩⟩
  case rest =>
   clear HC4
   try clear p1
   try clear q1
   try clear hx1
   try clear qi1
   try clear c2
   try clear p2
   try clear c3
   try clear c6
   try clear c6b0
   try clear c6b1
   try clear p6
   try clear c8
   try clear c9
   try clear c9b0
   try clear c9b1
   try clear p10
   try clear q10
   try clear hx10
   try clear qi10
   try clear hcz11_0
   try clear hcz11_1
   try clear hcz11_2
   try clear hfz11_0
   try clear hfz11_1
   try clear hfz11_2
   try clear p10
   try clear q10
   obtain ⟨kq, x0_3, x5_3, x7_3, x126000_3, x126001_3, x126002_3, rfl, rfl, rfl, HA, HJ3, BK125, HB⟩ := hcut
   cases kq with
   | zero => exact absurd HA.out (by simp [pedigreeref29_readValue.j0])
   | succ kj3 =>
    have H := HA.out
    clear HA
    simp only [pedigreeref29_readValue.j0] at H
    replace H := Option.bind_eq_some_iff.mp H
    obtain ⟨⟨t132, t133, t134⟩, A120, H⟩ := H
    replace H : (if x5_3.toList = ([84] : List UInt8) then (some (2, 0, t132, t133, t134)) else ((pedigreeref29_Number.f kj3 t132).bind fun t135 => (some (1, wrap64 (t135), (⟨#[]⟩ : ByteArray), t133, t134)))) = some (r1, r2, r3, r4, r5) := H
    have A12 := Aside0.mk A120
    clear A120
    by_cases c13 : x5_3.toList = ([84] : List UInt8)
    ·rw [if_pos c13] at H
     have c13b0 : (x5_3.toList == ([84] : List UInt8)) = true := beq_iff_eq.mpr c13
     have c13b1 : (x5_3.toList != ([84] : List UInt8)) = false := bne_eq_false_iff_eq.mpr c13
     clear c13
     simp only [Option.some.injEq, Prod.mk.injEq] at H
     obtain ⟨rfl, rfl, rfl, rfl, rfl⟩ := H
     go_wp2_with (first | ((with_reducible refine gate_callee (f := 94) rfl ?_); refine goesS (some 35) Tryz.func94 #[.string x0_3, .int .i64 x7_3] ?_; (with_reducible refine (pedigreeref29_take.calls x0_3 x7_3 t132 t133 t134 _ A12.out).mono ?_); rintro e w' ⟨rfl, ⟨nd, rfl⟩⟩; refine ⟨_, rfl, ?_⟩; (try (rw [drewN_self wc]; generalize hq_ : World.drewN wc _ = wc; have n0_ : Aside0 (wc.heap[gb125]? = some (.cells #[.int .i8 x126000_3, .int .i64 x126001_3, .string x126002_3] 85 (0, 0))) := ⟨by rw [← hq_]; exact (upO BK125.out)⟩; have n1_ : Aside0 (Below w.heap.size w wc) := ⟨by rw [← hq_]; exact (upB HB.out)⟩; clear BK125 HB hq_; have BK125 := n0_; have HB := n1_; clear n0_ n1_)); have hcz14_0 : wc.cell? ⟨gb125, 0, none⟩ = some (.int .i8 x126000_3) := (blk_cell BK125.out 0).trans rfl; have hcz14_1 : wc.cell? ⟨gb125, 1, none⟩ = some (.int .i64 x126001_3) := (blk_cell BK125.out 1).trans rfl; have hcz14_2 : wc.cell? ⟨gb125, 2, none⟩ = some (.string x126002_3) := (blk_cell BK125.out 2).trans rfl; have hfz14_0 := blk_frozen BK125.out 0; have hfz14_1 := blk_frozen BK125.out 1; have hfz14_2 := blk_frozen BK125.out 2))
     refine bodyPost_ret (results_ctt rfl _ _ gb125 85 #[.int .i8 2, .int .i64 0, .string t132] (0, 0) _ rfl (by refine upO ?_; refine blk_put (cs := #[.int .i8 2, .int .i64 0, .string x126002_3]) ?_ 2 _ rfl; refine upO ?_; refine blk_put (cs := #[.int .i8 2, .int .i64 x126001_3, .string x126002_3]) ?_ 1 _ rfl; refine upO ?_; refine blk_put (cs := #[.int .i8 x126000_3, .int .i64 x126001_3, .string x126002_3]) ?_ 0 _ rfl; exact upO BK125.out) Tryz.underlying85 rfl (by kernel_rfl)) rfl ?_
     exact ⟨eqE, upB HB.out⟩
    ·rw [if_neg c13] at H
     have c13b0 : (x5_3.toList == ([84] : List UInt8)) = false := beq_eq_false_iff_ne.mpr c13
     have c13b1 : (x5_3.toList != ([84] : List UInt8)) = true := bne_iff_ne.mpr c13
     replace H := Option.bind_eq_some_iff.mp H
     obtain ⟨t135, A150, H⟩ := H
     replace H : (some (1, wrap64 (t135), (⟨#[]⟩ : ByteArray), t133, t134)) = some (r1, r2, r3, r4, r5) := H
     have A15 := Aside0.mk A150
     clear A150
     simp only [Option.some.injEq, Prod.mk.injEq] at H
     obtain ⟨rfl, rfl, rfl, rfl, rfl⟩ := H
     go_wp2_with (first | ((with_reducible refine gate_callee (f := 94) rfl ?_); refine goesS (some 35) Tryz.func94 #[.string x0_3, .int .i64 x7_3] ?_; (with_reducible refine (pedigreeref29_take.calls x0_3 x7_3 t132 t133 t134 _ A12.out).mono ?_); rintro e w' ⟨rfl, ⟨nd, rfl⟩⟩; refine ⟨_, rfl, ?_⟩; (try (rw [drewN_self wc]; generalize hq_ : World.drewN wc _ = wc; have n0_ : Aside0 (wc.heap[gb125]? = some (.cells #[.int .i8 x126000_3, .int .i64 x126001_3, .string x126002_3] 85 (0, 0))) := ⟨by rw [← hq_]; exact (upO BK125.out)⟩; have n1_ : Aside0 (Below w.heap.size w wc) := ⟨by rw [← hq_]; exact (upB HB.out)⟩; clear BK125 HB hq_; have BK125 := n0_; have HB := n1_; clear n0_ n1_))) | ((with_reducible refine gate_callee (f := 35) rfl ?_); refine goesS (some 46) Tryz.func35 #[.string t132] ?_; (with_reducible refine (pedigreeref29_Number.calls kj3 t132 t135 _ A15.out).mono ?_); rintro e w' ⟨rfl, ⟨nd, rfl⟩⟩; refine ⟨_, rfl, ?_⟩; (try (rw [drewN_self wc]; generalize hq_ : World.drewN wc _ = wc; have n0_ : Aside0 (wc.heap[gb125]? = some (.cells #[.int .i8 x126000_3, .int .i64 x126001_3, .string x126002_3] 85 (0, 0))) := ⟨by rw [← hq_]; exact (upO BK125.out)⟩; have n1_ : Aside0 (Below w.heap.size w wc) := ⟨by rw [← hq_]; exact (upB HB.out)⟩; clear BK125 HB hq_; have BK125 := n0_; have HB := n1_; clear n0_ n1_)); have hcz16_0 : wc.cell? ⟨gb125, 0, none⟩ = some (.int .i8 x126000_3) := (blk_cell BK125.out 0).trans rfl; have hcz16_1 : wc.cell? ⟨gb125, 1, none⟩ = some (.int .i64 x126001_3) := (blk_cell BK125.out 1).trans rfl; have hcz16_2 : wc.cell? ⟨gb125, 2, none⟩ = some (.string x126002_3) := (blk_cell BK125.out 2).trans rfl; have hfz16_0 := blk_frozen BK125.out 0; have hfz16_1 := blk_frozen BK125.out 1; have hfz16_2 := blk_frozen BK125.out 2))
     refine bodyPost_ret (results_ctt rfl _ _ gb125 85 #[.int .i8 1, .int .i64 (wrap64 (t135)), .string (⟨#[]⟩ : ByteArray)] (0, 0) _ rfl (by refine upO ?_; refine blk_put (cs := #[.int .i8 1, .int .i64 (wrap64 (t135)), .string x126002_3]) ?_ 2 _ rfl; refine upO ?_; refine blk_put (cs := #[.int .i8 1, .int .i64 x126001_3, .string x126002_3]) ?_ 1 _ rfl; refine upO ?_; refine blk_put (cs := #[.int .i8 x126000_3, .int .i64 x126001_3, .string x126002_3]) ?_ 0 _ rfl; exact upO BK125.out) Tryz.underlying85 rfl (by kernel_rfl)) rfl ?_
     exact ⟨eqE, upB HB.out⟩
 ·replace c3 := Bool.eq_false_iff.mpr c3
  subst c3
  have H1 : (some (0, 0, (⟨#[]⟩ : ByteArray), (⟨#[]⟩ : ByteArray), false)) = some (r1, r2, r3, r4, r5) := by rw [if_neg (show ¬ (false = true) by decide)] at H; exact H
  clear H
  have H := H1
  clear H1
  simp only [Option.some.injEq, Prod.mk.injEq] at H
  obtain ⟨rfl, rfl, rfl, rfl, rfl⟩ := H
  go_enter Tryz.func213, Tryz.ntmps213
  go_wp2_with (first | ((with_reducible refine gate_dst (N := 2) rfl ?_); refine boxS 2 #[.int .i8 0, .int .i64 0, .string (⟨#[]⟩ : ByteArray)] 85 ?_; intro gb125 hg w17 hbox hb; have n0_ := Aside0.mk (below_step (upB HB.out) hb); have n1_ := Aside0.mk (hbox); have n2_ := Aside0.mk (geB hg (upB HB.out) : w.heap.size ≤ gb125); have n3_ := Aside0.mk (geB hg (upB HB.out) : w.heap.size ≤ gb125); clear HB; have HB := n0_; have BK125 := n1_; have GW125 := n2_; have GE125 := n3_; clear n0_ n1_ n2_ n3_; clear hb hbox hg) | ((with_reducible refine gate_callee (f := 94) rfl ?_); refine goesS (some 11) Tryz.func94 #[.string a0, .int .i64 1] ?_; (with_reducible refine (pedigreeref29_take.calls a0 1 t126 t127 false _ A2.out).mono ?_); rintro e w' ⟨rfl, ⟨nd, rfl⟩⟩; refine ⟨_, rfl, ?_⟩; (try (rw [drewN_self w17]; generalize hq_ : World.drewN w17 _ = w17; have n0_ : Aside0 (w17.heap[gb125]? = some (.cells #[.int .i8 0, .int .i64 0, .string (⟨#[]⟩ : ByteArray)] 85 (0, 0))) := ⟨by rw [← hq_]; exact (upO BK125.out)⟩; have n1_ : Aside0 (Below w.heap.size w w17) := ⟨by rw [← hq_]; exact (upB HB.out)⟩; clear BK125 HB hq_; have BK125 := n0_; have HB := n1_; clear n0_ n1_)); have hcz18_0 : w17.cell? ⟨gb125, 0, none⟩ = some (.int .i8 0) := (blk_cell BK125.out 0).trans rfl; have hcz18_1 : w17.cell? ⟨gb125, 1, none⟩ = some (.int .i64 0) := (blk_cell BK125.out 1).trans rfl; have hcz18_2 : w17.cell? ⟨gb125, 2, none⟩ = some (.string (⟨#[]⟩ : ByteArray)) := (blk_cell BK125.out 2).trans rfl; have hfz18_0 := blk_frozen BK125.out 0; have hfz18_1 := blk_frozen BK125.out 1; have hfz18_2 := blk_frozen BK125.out 2))
  refine bodyPost_ret (results_ctt rfl _ _ gb125 85 #[.int .i8 0, .int .i64 0, .string (⟨#[]⟩ : ByteArray)] (0, 0) _ rfl (by refine upO ?_; refine blk_put (cs := #[.int .i8 0, .int .i64 0, .string (⟨#[]⟩ : ByteArray)]) ?_ 2 _ rfl; refine upO ?_; refine blk_put (cs := #[.int .i8 0, .int .i64 0, .string (⟨#[]⟩ : ByteArray)]) ?_ 1 _ rfl; refine upO ?_; refine blk_put (cs := #[.int .i8 0, .int .i64 0, .string (⟨#[]⟩ : ByteArray)]) ?_ 0 _ rfl; exact upO BK125.out) Tryz.underlying85 rfl (by kernel_rfl)) rfl ?_
  exact ⟨eqE, upB HB.out⟩
end Go.Proofs.J.Print
end
