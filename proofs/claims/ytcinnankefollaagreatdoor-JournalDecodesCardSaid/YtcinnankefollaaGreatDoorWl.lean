/- On the way to the law 'JournalDecodes': what the functions that it reaches compute, step by step, and the plain law (JSa .. JSh). Each theorem states its own conditions. -/
import Derived.Test.YtcinnankefollaaGreatDoorWk
import Derived.Laws.BitsLemmas
import Derived.Lib.Strings
set_option linter.unusedVariables false
set_option linter.unusedSimpArgs false
section
namespace Go.Proofs.J.Pure
open Go.RowKit Go.Proofs.J.Print Go.Proofs.PrintWords Go.Proofs.PrintLast Go.Proofs.PrintMore
theorem bx_lc (a b c : BitVec 16) : a ^^^ (b ^^^ c) = b ^^^ (a ^^^ c) := by rw [← BitVec.xor_assoc, BitVec.xor_comm a b, BitVec.xor_assoc]
theorem bx_self (a b : BitVec 16) : a ^^^ (a ^^^ b) = b := by rw [← BitVec.xor_assoc]; simp
def stU (s : BitVec 16) : BitVec 16 := (s <<< 1) ^^^ (if s.msb then 4129#16 else 0#16)
theorem stU_xor (a b : BitVec 16) : stU (a ^^^ b) = stU a ^^^ stU b := by
  unfold stU
  rw [BitVec.msb_xor, BitVec.shiftLeft_xor_distrib]
  cases a.msb <;> cases b.msb <;> simp [BitVec.xor_assoc, BitVec.xor_comm, bx_lc, bx_self]
def stV : Nat → BitVec 16 → BitVec 16
  | 0, s => s
  | n + 1, s => stU (stV n s)
theorem stV_xor : ∀ (n : Nat) (a b : BitVec 16), stV n (a ^^^ b) = stV n a ^^^ stV n b
  | 0, _, _ => rfl
  | n + 1, a, b => by simp only [stV]; rw [stV_xor n, stU_xor]
theorem stV_add : ∀ (m n : Nat) (a : BitVec 16), stV (m + n) a = stV m (stV n a)
  | 0, n, a => by rw [Nat.zero_add]; rfl
  | m + 1, n, a => by rw [Nat.succ_add]; simp only [stV]; rw [stV_add m]
theorem stV_byte : ∀ b : Nat, b < 256 → stV 8 (BitVec.ofNat 16 b) = BitVec.ofNat 16 (b * 256) := by decide +kernel
theorem st_bit : ∀ b : Nat, b < 256 → ∀ j : Nat, j < 8 → stU (BitVec.ofNat 16 (b >>> (8 - j))) ^^^ BitVec.ofNat 16 (b >>> (7 - j) % 2) = BitVec.ofNat 16 (b >>> (7 - j)) := by decide +kernel
def stX (n : Nat) (B : Nat → Nat) (t : Nat) : Nat := if t < 8 * n then B (t / 8) >>> (7 - t % 8) % 2 else 0
def stM (n : Nat) (B : Nat → Nat) : Nat → BitVec 16
  | 0 => 0
  | t + 1 => stU (stM n B t) ^^^ BitVec.ofNat 16 (stX n B t)
def stI : Nat → BitVec 16
  | 0 => 0
  | t + 1 => stU (stI t) ^^^ (if t < 16 then 1#16 else 0#16)
def stR (n : Nat) (B : Nat → Nat) : Nat → BitVec 16
  | 0 => 0
  | t + 1 => stU (stR n B t) ^^^ BitVec.ofNat 16 (if t < 16 then 1 - stX n B t else stX n B t)
def stP (B : Nat → Nat) : Nat → BitVec 16
  | 0 => 65535#16
  | i + 1 => stV 8 (stP B i ^^^ BitVec.ofNat 16 (B i * 256))
theorem stX_le (n : Nat) (B : Nat → Nat) (t : Nat) : stX n B t ≤ 1 := by
  unfold stX
  split
  · have := Nat.mod_lt (B (t / 8) >>> (7 - t % 8)) (show 0 < 2 by decide)
    omega
  · omega
theorem stR_eq (n : Nat) (B : Nat → Nat) : ∀ t, stR n B t = stM n B t ^^^ stI t
  | 0 => by simp [stR, stM, stI]
  | t + 1 => by
    simp only [stR, stM, stI]
    rw [stR_eq n B t, stU_xor]
    have hx := stX_le n B t
    have h01 : stX n B t = 0 ∨ stX n B t = 1 := by omega
    by_cases h : t < 16
    · rw [if_pos h, if_pos h]
      rcases h01 with e | e <;> rw [e] <;> simp [BitVec.xor_assoc, BitVec.xor_comm, bx_lc, bx_self]
    · rw [if_neg h, if_neg h]
      rcases h01 with e | e <;> rw [e] <;> simp [BitVec.xor_assoc, BitVec.xor_comm, bx_lc, bx_self]
theorem stI_16 : stI 16 = 65535#16 := by decide +kernel
theorem stI_add : ∀ m, stI (16 + m) = stV m 65535#16
  | 0 => stI_16
  | m + 1 => by
    rw [← Nat.add_assoc]
    simp only [stI, stV]
    rw [stI_add m, if_neg (by omega)]
    simp
theorem stM_bits (n : Nat) (B : Nat → Nat) (hB : ∀ i, B i < 256) (i : Nat) (hi : i < n) : ∀ j, j ≤ 8 → stM n B (8 * i + j) = stV j (stM n B (8 * i)) ^^^ BitVec.ofNat 16 (B i >>> (8 - j))
  | 0, _ => by
    have : B i >>> 8 = 0 := by rw [Nat.shiftRight_eq_div_pow]; have := hB i; omega
    simp [stV, this]
  | j + 1, hj => by
    rw [← Nat.add_assoc]
    simp only [stM, stV]
    rw [stM_bits n B hB i hi j (by omega), stU_xor, BitVec.xor_assoc]
    have ex : stX n B (8 * i + j) = B i >>> (7 - j) % 2 := by
      unfold stX
      rw [if_pos (by omega), show (8 * i + j) / 8 = i by omega, show (8 * i + j) % 8 = j by omega]
    rw [ex, st_bit (B i) (hB i) j (by omega), show 8 - (j + 1) = 7 - j by omega]
theorem stM_byte (n : Nat) (B : Nat → Nat) (hB : ∀ i, B i < 256) (i : Nat) (hi : i < n) : stM n B (8 * (i + 1)) = stV 8 (stM n B (8 * i)) ^^^ BitVec.ofNat 16 (B i) := by
  have h := stM_bits n B hB i hi 8 (by omega)
  rw [show 8 * (i + 1) = 8 * i + 8 by omega, h]
  simp
theorem stM_end (n : Nat) (B : Nat → Nat) : ∀ m, stM n B (8 * n + m) = stV m (stM n B (8 * n))
  | 0 => rfl
  | m + 1 => by
    rw [← Nat.add_assoc]
    simp only [stM, stV]
    rw [stM_end n B m]
    unfold stX
    rw [if_neg (by omega)]
    simp
theorem stP_eq (n : Nat) (B : Nat → Nat) (hB : ∀ i, B i < 256) : ∀ i, i ≤ n → stP B i = stV 16 (stM n B (8 * i)) ^^^ stV (8 * i) 65535#16
  | 0, _ => by
    have : stV 16 0#16 = 0#16 := by decide +kernel
    simp [stP, stM, stV, this]
    show _ = stV 16 0#16 ^^^ _
    rw [this]
    simp
  | i + 1, hi => by
    simp only [stP]
    rw [stP_eq n B hB i (by omega), stM_byte n B hB i (by omega), stV_xor, stV_xor, stV_xor, ← stV_add, ← stV_add, ← stV_add]
    rw [show (16 + 8 : Nat) = 8 + 16 by omega]
    rw [show stV 16 (BitVec.ofNat 16 (B i)) = stV 8 (BitVec.ofNat 16 (B i * 256)) by exact (stV_add 8 8 _).trans (by rw [stV_byte _ (hB i)])]
    rw [show 8 * (i + 1) = 8 + 8 * i by omega]
    simp [BitVec.xor_assoc, BitVec.xor_comm, bx_lc, bx_self]
theorem st_one (n : Nat) (B : Nat → Nat) (hB : ∀ i, B i < 256) : stR n B (8 * n + 16) = stP B n := by
  rw [stR_eq, stM_end, stP_eq n B hB n (Nat.le_refl _), show 8 * n + 16 = 16 + 8 * n by omega, stI_add]
end Go.Proofs.J.Pure
end
section
namespace Go.Proofs.J.Pure
open Go.RowKit Go.Proofs.J.Print Go.Proofs.PrintWords Go.Proofs.PrintLast Go.Proofs.PrintMore
theorem bits_xor_nat (k : IntKind) (j : Nat) (hj : j ≤ k.bits) (hk : ∀ n : Int, 0 ≤ n → n < 2 ^ j → k.wrap n = n) (a b : Nat) (ha : a < 2 ^ j) (hb : b < 2 ^ j) :
    Go.bits .xor k a b = ((a ^^^ b : Nat) : Int) := by
  have hp : 2 ^ j ≤ 2 ^ k.bits := Nat.pow_le_pow_right (by decide) hj
  have ha' : a % 2 ^ k.bits = a := Nat.mod_eq_of_lt (Nat.lt_of_lt_of_le ha hp)
  have hb' : b % 2 ^ k.bits = b := Nat.mod_eq_of_lt (Nat.lt_of_lt_of_le hb hp)
  simp only [Go.bits, BitVec.ofInt_natCast, BitVec.toNat_xor, BitVec.toNat_ofNat, ha', hb']
  exact hk _ (Int.natCast_nonneg _) (by exact_mod_cast Nat.xor_lt_two_pow ha hb)
theorem wraps_u16 (n : Int) (h₀ : 0 ≤ n) (h₁ : n < 2 ^ 16) : IntKind.u16.wrap n = n := by
  have : IntKind.u16.wrap n = n % 65536 := by simp [IntKind.wrap, IntKind.bits, IntKind.signed]
  rw [this]; omega
theorem wrap_u16 (n : Int) : IntKind.u16.wrap n = n % 65536 := by simp [IntKind.wrap, IntKind.bits, IntKind.signed]
theorem wrap_u64 (n : Int) : IntKind.u64.wrap n = n % 18446744073709551616 := by simp [IntKind.wrap, IntKind.bits, IntKind.signed]
theorem wraps_i64 (n : Int) (h₀ : 0 ≤ n) (h₁ : n < 2 ^ 63) : IntKind.i64.wrap n = n := by rw [IntKind.wrap_i64]; omega
theorem w64 (n : Int) (h₀ : -9223372036854775808 ≤ n) (h₁ : n ≤ 9223372036854775807) : wrap64 n = n := by unfold wrap64; omega
theorem st_lt (s : BitVec 16) : s.toNat < 65536 := s.isLt
theorem ex_one (q : Nat) : 2 * q ^^^ 1 = 2 * q + 1 := by
  apply Nat.eq_of_testBit_eq
  intro i
  cases i with
  | zero => simp [Nat.testBit_zero]
  | succ i =>
    rw [Nat.testBit_xor, Nat.testBit_succ, Nat.testBit_succ, Nat.testBit_succ]
    rw [show 2 * q / 2 = q by omega, show 1 / 2 = 0 by omega, show (2 * q + 1) / 2 = q by omega]
    simp
theorem stU_toNat (s : BitVec 16) : (stU s).toNat = if s.toNat < 32768 then 2 * s.toNat else (2 * s.toNat - 65536) ^^^ 4129 := by
  have hs := st_lt s
  unfold stU
  rw [BitVec.toNat_xor, BitVec.toNat_shiftLeft, BitVec.msb_eq_decide, Nat.shiftLeft_eq]
  by_cases h : s.toNat < 32768
  · rw [if_pos h, if_neg (by simp; omega)]
    rw [Nat.mod_eq_of_lt (by omega)]
    simp
    omega
  · rw [if_neg h, if_pos (by simp; omega)]
    rw [show s.toNat * 2 ^ 1 % 2 ^ 16 = 2 * s.toNat - 65536 by omega]
    rfl
theorem stU_bit (s : BitVec 16) (b : Nat) (hb : b ≤ 1) : (stU s ^^^ BitVec.ofNat 16 b).toNat = if 2 * s.toNat + b < 65536 then 2 * s.toNat + b else (2 * s.toNat + b - 65536) ^^^ 4129 := by
  have hs := st_lt s
  rw [BitVec.toNat_xor, stU_toNat, BitVec.toNat_ofNat, Nat.mod_eq_of_lt (by omega)]
  have h01 : b = 0 ∨ b = 1 := by omega
  by_cases h : s.toNat < 32768
  · rw [if_pos h, if_pos (by omega)]
    rcases h01 with rfl | rfl
    · simp
    · exact ex_one _
  · rw [if_neg h, if_neg (by omega)]
    rcases h01 with rfl | rfl
    · simp
    · rw [show 2 * s.toNat - 65536 = 2 * (s.toNat - 32768) by omega, show 2 * s.toNat + 1 - 65536 = 2 * (s.toNat - 32768) + 1 by omega, ← ex_one, Nat.xor_assoc, Nat.xor_assoc, Nat.xor_comm 1 4129]
def byt (b : ByteArray) (i : Nat) : Nat := (bt b i).toNat
theorem bt_byt (b : ByteArray) (i : Nat) : bt b (i : Int) = (byt b i : Int) := by
  have := (bt_range b i).1
  unfold byt; omega
theorem byt_lt (b : ByteArray) (i : Nat) : byt b i < 256 := by
  have := bt_range b i
  unfold byt; omega
theorem sum_step (b : ByteArray) (s : BitVec 16) (n i : Int) (j : Nat) (hj : j < 8) (v : Int)
    (h : Ev (fun k => journal_Sum.l1 k b ((stU s).toNat : Int) n i ((j + 1 : Nat) : Int)) v) : Ev (fun k => journal_Sum.l1 k b (s.toNat : Int) n i (j : Int)) v := by
  have hs := st_lt s
  refine Ev.succ (Ev.congr (fun k => ?_) h)
  rw [journal_Sum.l1, if_pos (by omega)]
  have e1 : Go.bits .and .u16 (s.toNat : Int) 32768 = ((s.toNat &&& 32768 : Nat) : Int) := (bits_nat .u16 16 (by decide) wraps_u16 s.toNat 32768 hs (by decide)).1
  have e2 : wrap64 ((j : Int) + 1) = ((j + 1 : Nat) : Int) := by rw [w64] <;> omega
  have e3 : s.toNat &&& 32768 = if s.toNat < 32768 then 0 else 32768 := by
    apply Nat.eq_of_testBit_eq
    intro i
    have hp : Nat.testBit 32768 i = decide (15 = i) := by rw [show (32768 : Nat) = 2 ^ 15 by decide, Nat.testBit_two_pow]
    rw [Nat.testBit_and, hp]
    by_cases e : 15 = i
    · subst e
      by_cases h : s.toNat < 32768
      · rw [if_pos h, Nat.testBit_eq_decide_div_mod_eq, show s.toNat / 2 ^ 15 % 2 = 0 by omega]; rfl
      · rw [if_neg h, Nat.testBit_eq_decide_div_mod_eq, show s.toNat / 2 ^ 15 % 2 = 1 by omega]; rfl
    · by_cases h : s.toNat < 32768
      · rw [if_pos h]; simp [e]
      · rw [if_neg h, hp]; simp [e]
  rw [e1, e2, e3, wrap_u16, stU_toNat]
  by_cases h : s.toNat < 32768
  · rw [if_pos h, if_pos h, if_pos (by rfl)]
    congr 1
    omega
  · rw [if_neg h, if_neg h, if_neg (by decide)]
    have e4 : (s.toNat : Int) * 2 % 65536 = ((2 * s.toNat - 65536 : Nat) : Int) := by omega
    rw [e4, show (4129 : Int) = ((4129 : Nat) : Int) from rfl, bits_xor_nat .u16 16 (by decide) wraps_u16 _ _ (by omega) (by decide)]
theorem sum_eight (b : ByteArray) (s : BitVec 16) (n i v : Int) (h : Ev (fun k => journal_Sum.l0 k b ((stV 8 s).toNat : Int) n (wrap64 (i + 1))) v) : Ev (fun k => journal_Sum.l1 k b (s.toNat : Int) n i 0) v := by
  refine sum_step b s n i 0 (by omega) v ?_
  refine sum_step b (stV 1 s) n i 1 (by omega) v ?_
  refine sum_step b (stV 2 s) n i 2 (by omega) v ?_
  refine sum_step b (stV 3 s) n i 3 (by omega) v ?_
  refine sum_step b (stV 4 s) n i 4 (by omega) v ?_
  refine sum_step b (stV 5 s) n i 5 (by omega) v ?_
  refine sum_step b (stV 6 s) n i 6 (by omega) v ?_
  refine sum_step b (stV 7 s) n i 7 (by omega) v ?_
  refine Ev.succ (Ev.congr (fun k => ?_) h)
  rw [journal_Sum.l1, if_neg (by omega)]
  rfl
theorem sum_round (b : ByteArray) (hb : b.size ≤ 140737488355328) (v : Int) : ∀ (m i : Nat), i + m = b.size → v = (stP (byt b) b.size).toNat → Ev (fun k => journal_Sum.l0 k b ((stP (byt b) i).toNat : Int) (b.size : Int) (i : Int)) v
  | 0, i, hi, hv => by
    refine Ev.succ (Ev.congr (fun k => ?_) (Ev.const (o := some v) rfl))
    rw [journal_Sum.l0, if_neg (by omega), hv, show i = b.size by omega]
  | m + 1, i, hi, hv => by
    have ih := sum_round b hb v m (i + 1) (by omega) hv
    have hs := st_lt (stP (byt b) i)
    have hB := byt_lt b i
    refine Ev.succ (Ev.congr (fun k => ?_) (sum_eight b (stP (byt b) i ^^^ BitVec.ofNat 16 (byt b i * 256)) (b.size : Int) (i : Int) v (by
      rw [show wrap64 ((i : Int) + 1) = ((i + 1 : Nat) : Int) by rw [w64] <;> omega]
      exact ih)))
    rw [journal_Sum.l0, if_pos (by omega), if_pos (by omega), if_pos (by omega)]
    rw [bt_byt, wraps_u16 (byt b i : Int) (by omega) (by omega), wraps_u16 ((byt b i : Int) * 256) (by omega) (by omega)]
    rw [show (byt b i : Int) * 256 = ((byt b i * 256 : Nat) : Int) by omega, bits_xor_nat .u16 16 (by decide) wraps_u16 _ _ hs (by omega)]
    rw [BitVec.toNat_xor, BitVec.toNat_ofNat, Nat.mod_eq_of_lt (by omega)]
theorem journal_Sum_ev (b : ByteArray) (hb : b.size ≤ 140737488355328) : Ev (fun k => journal_Sum.f k b) ((stP (byt b) b.size).toNat : Int) := by
  have h := sum_round b hb _ b.size 0 (by omega) rfl
  exact h
theorem ref_bit (b : ByteArray) (hb : b.size ≤ 140737488355328) (t : Nat) (ht : t < 8 * b.size) :
    Go.bits .and .i64 (shr .i64 (wrap64 (bt b (wrap64 (Int.tdiv (t : Int) 8)))) (wrap64 (7 - (Int.tmod (t : Int) 8)))) 1 = ((stX b.size (byt b) t : Nat) : Int) := by
  have e1 : Int.tdiv (t : Int) 8 = ((t / 8 : Nat) : Int) := by rw [Int.tdiv_eq_ediv_of_nonneg (by omega)]; omega
  have e2 : Int.tmod (t : Int) 8 = ((t % 8 : Nat) : Int) := by rw [Int.tmod_eq_emod_of_nonneg (by omega)]; omega
  have hB := byt_lt b (t / 8)
  rw [e1, e2, w64 ((t / 8 : Nat) : Int) (by omega) (by omega), bt_byt, w64 (byt b (t / 8) : Int) (by omega) (by omega), w64 (7 - ((t % 8 : Nat) : Int)) (by omega) (by omega)]
  unfold stX
  rw [if_pos ht, show (7 - ((t % 8 : Nat) : Int)) = ((7 - t % 8 : Nat) : Int) by omega]
  unfold shr
  rw [Int.toNat_natCast, show min (7 - t % 8) IntKind.i64.bits = 7 - t % 8 by show min (7 - t % 8) 64 = _; omega]
  rw [show ((byt b (t / 8) : Nat) : Int) / 2 ^ (7 - t % 8) = ((byt b (t / 8) >>> (7 - t % 8) : Nat) : Int) by rw [Nat.shiftRight_eq_div_pow]; push_cast; rfl]
  have hlt : byt b (t / 8) >>> (7 - t % 8) < 2 ^ 63 := by
    rw [Nat.shiftRight_eq_div_pow]
    exact Nat.lt_of_le_of_lt (Nat.div_le_self _ _) (by omega)
  have := (bits_nat .i64 63 (by decide) wraps_i64 (byt b (t / 8) >>> (7 - t % 8)) 1 hlt (by decide)).1
  rw [Nat.and_one_is_mod] at this
  exact this
theorem ref_step (b : ByteArray) (hb : b.size ≤ 140737488355328) (t : Nat) (ht : t < 8 * b.size + 16) (v : Int)
    (h : Ev (fun k => pedigreeref29_Sum.l0 k b ((stR b.size (byt b) (t + 1)).toNat : Int) ((t + 1 : Nat) : Int)) v) :
    Ev (fun k => pedigreeref29_Sum.j1 k b ((stR b.size (byt b) t).toNat : Int) (t : Int) ((stX b.size (byt b) t : Nat) : Int)) v := by
  have hs := st_lt (stR b.size (byt b) t)
  have hx := stX_le b.size (byt b) t
  have e1 : wrap64 ((t : Int) + 1) = ((t + 1 : Nat) : Int) := by rw [w64] <;> omega
  have e2 : wrap64 (2 * ((stR b.size (byt b) t).toNat : Int)) = ((2 * (stR b.size (byt b) t).toNat : Nat) : Int) := by rw [w64] <;> omega
  refine Ev.succ (Ev.congr (fun k => ?_) h)
  rw [pedigreeref29_Sum.j1, e1, e2]
  by_cases c : t < 16
  · have e3 : (stR b.size (byt b) (t + 1)) = stU (stR b.size (byt b) t) ^^^ BitVec.ofNat 16 (1 - stX b.size (byt b) t) := by simp only [stR]; rw [if_pos c]
    rw [if_pos (by omega), e3, stU_bit _ _ (by omega)]
    rw [show wrap64 (((2 * (stR b.size (byt b) t).toNat : Nat) : Int) + wrap64 (1 - ((stX b.size (byt b) t : Nat) : Int))) = ((2 * (stR b.size (byt b) t).toNat + (1 - stX b.size (byt b) t) : Nat) : Int) by rw [w64 (1 - _) (by omega) (by omega), w64] <;> omega]
    by_cases d : 2 * (stR b.size (byt b) t).toNat + (1 - stX b.size (byt b) t) < 65536
    · rw [if_pos d, if_neg (by omega)]
    · rw [if_neg d, if_pos (by omega)]
      rw [show wrap64 (((2 * (stR b.size (byt b) t).toNat + (1 - stX b.size (byt b) t) : Nat) : Int) - 65536) = ((2 * (stR b.size (byt b) t).toNat + (1 - stX b.size (byt b) t) - 65536 : Nat) : Int) by rw [w64] <;> omega]
      rw [show (4129 : Int) = ((4129 : Nat) : Int) from rfl, bits_xor_nat .i64 63 (by decide) wraps_i64 _ _ (by omega) (by decide)]
  · have e3 : (stR b.size (byt b) (t + 1)) = stU (stR b.size (byt b) t) ^^^ BitVec.ofNat 16 (stX b.size (byt b) t) := by simp only [stR]; rw [if_neg c]
    rw [if_neg (by omega), e3, stU_bit _ _ (by omega)]
    rw [show wrap64 (((2 * (stR b.size (byt b) t).toNat : Nat) : Int) + ((stX b.size (byt b) t : Nat) : Int)) = ((2 * (stR b.size (byt b) t).toNat + stX b.size (byt b) t : Nat) : Int) by rw [w64] <;> omega]
    by_cases d : 2 * (stR b.size (byt b) t).toNat + stX b.size (byt b) t < 65536
    · rw [if_pos d, if_neg (by omega)]
    · rw [if_neg d, if_pos (by omega)]
      rw [show wrap64 (((2 * (stR b.size (byt b) t).toNat + stX b.size (byt b) t : Nat) : Int) - 65536) = ((2 * (stR b.size (byt b) t).toNat + stX b.size (byt b) t - 65536 : Nat) : Int) by rw [w64] <;> omega]
      rw [show (4129 : Int) = ((4129 : Nat) : Int) from rfl, bits_xor_nat .i64 63 (by decide) wraps_i64 _ _ (by omega) (by decide)]
theorem ref_round (b : ByteArray) (hb : b.size ≤ 140737488355328) (v : Int) : ∀ (m t : Nat), t + m = 8 * b.size + 16 → v = (stR b.size (byt b) (8 * b.size + 16)).toNat → Ev (fun k => pedigreeref29_Sum.l0 k b ((stR b.size (byt b) t).toNat : Int) (t : Int)) v
  | 0, t, ht, hv => by
    refine Ev.succ (Ev.congr (fun k => ?_) (Ev.const (o := some v) rfl))
    have hs := st_lt (stR b.size (byt b) t)
    rw [pedigreeref29_Sum.l0, w64 (8 * (b.size : Int)) (by omega) (by omega), w64 _ (by omega) (by omega), if_neg (by omega), hv, wraps_u16 _ (by omega) (by omega), show t = 8 * b.size + 16 by omega]
  | m + 1, t, ht, hv => by
    have ih := ref_round b hb v m (t + 1) (by omega) hv
    refine Ev.succ (Ev.congr (fun k => ?_) (ref_step b hb t (by omega) v ih))
    rw [pedigreeref29_Sum.l0, w64 (8 * (b.size : Int)) (by omega) (by omega), w64 (8 * (b.size : Int) + 16) (by omega) (by omega), if_pos (by omega)]
    by_cases c : t < 8 * b.size
    · have e1 : Int.tdiv (t : Int) 8 = ((t / 8 : Nat) : Int) := by rw [Int.tdiv_eq_ediv_of_nonneg (by omega)]; omega
      have e2 : Int.tmod (t : Int) 8 = ((t % 8 : Nat) : Int) := by rw [Int.tmod_eq_emod_of_nonneg (by omega)]; omega
      rw [if_pos (by omega), ref_bit b hb t c, e1, e2, w64 ((t / 8 : Nat) : Int) (by omega) (by omega), w64 (7 - ((t % 8 : Nat) : Int)) (by omega) (by omega), if_pos (by omega), if_pos (by omega), if_pos (by omega)]
    · rw [if_neg (by omega)]
      unfold stX
      rw [if_neg c]
      rfl
theorem ref_Sum_ev (b : ByteArray) (hb : b.size ≤ 140737488355328) : Ev (fun k => pedigreeref29_Sum.f k b) ((stP (byt b) b.size).toNat : Int) := by
  have h := ref_round b hb _ (8 * b.size + 16) 0 (by omega) rfl
  rw [st_one b.size (byt b) (byt_lt b)] at h
  exact h
end Go.Proofs.J.Pure
end
section
namespace Go.Proofs.J.Pure
open Go.RowKit Go.Proofs.J.Print Go.Proofs.PrintWords Go.Proofs.PrintLast Go.Proofs.PrintMore
abbrev Bs := List UInt8
def lb (s : ByteArray) : Bs := s.data.toList
def ob (l : Bs) : ByteArray := ⟨l.toArray⟩
theorem lb_ob (l : Bs) : lb (ob l) = l := rfl
theorem ob_lb (s : ByteArray) : ob (lb s) = s := rfl
theorem lb_inj {a b : ByteArray} (h : lb a = lb b) : a = b := by rw [← ob_lb a, ← ob_lb b, h]
theorem lb_len (s : ByteArray) : (lb s).length = s.size := data_length s
theorem lb_append (a b : ByteArray) : lb (a ++ b) = lb a ++ lb b := by unfold lb; rw [ByteArray.data_append, Array.toList_append]
theorem lb_toList (s : ByteArray) : s.toList = lb s := Lib.toList_data s
theorem lb_extract (s : ByteArray) (a b : Nat) : lb (s.extract a b) = ((lb s).drop a).take (b - a) := Lib.extract_data s a b
theorem lb_take (s : ByteArray) (n : Nat) : lb (s.extract 0 n) = (lb s).take n := by rw [lb_extract]; rfl
theorem lb_drop (s : ByteArray) (n : Nat) : lb (s.extract n s.size) = (lb s).drop n := by
  rw [lb_extract, List.take_of_length_le (by rw [List.length_drop, lb_len]; omega)]
theorem lb_nil : lb (⟨#[]⟩ : ByteArray) = [] := rfl
theorem byt_lb (s : ByteArray) (i : Nat) : byt s i = ((lb s).getD i 0).toNat := by
  unfold byt bt lb
  by_cases h : i < s.size
  · rw [dif_pos (by simpa using h)]
    have h2 : i < s.data.toList.length := by rw [data_length]; exact h
    rw [List.getD_eq_getElem?_getD, List.getElem?_eq_getElem h2]
    simp
    rfl
  · rw [dif_neg (by simpa using h)]
    rw [List.getD_eq_getElem?_getD, List.getElem?_eq_none (by rw [data_length]; omega)]
    rfl
theorem lb_nums (xs : List Int) : lb (strOfNums xs) = xs.map fun n => UInt8.ofNat n.toNat := rfl
def leN : Bs → Nat
  | [] => 0
  | x :: l => x.toNat + 256 * leN l
theorem leN_lt : ∀ l : Bs, leN l < 256 ^ l.length
  | [] => by decide
  | x :: l => by
    have h := leN_lt l
    have hx := x.toNat_lt
    simp only [leN, List.length_cons, Nat.pow_succ]
    omega
theorem leN_append : ∀ a b : Bs, leN (a ++ b) = leN a + 256 ^ a.length * leN b
  | [], b => by simp [leN]
  | x :: a, b => by
    simp only [List.cons_append, leN, List.length_cons, Nat.pow_succ]
    rw [leN_append a b, Nat.mul_add, ← Nat.mul_assoc, Nat.mul_comm 256 (256 ^ a.length)]
    omega
def leB : Nat → Nat → Bs
  | 0, _ => []
  | n + 1, x => UInt8.ofNat (x % 256) :: leB n (x / 256)
theorem leB_len : ∀ n x, (leB n x).length = n
  | 0, _ => rfl
  | n + 1, x => by simp [leB, leB_len n]
theorem leN_leB : ∀ n x, leN (leB n x) = x % 256 ^ n
  | 0, x => by simp [leB, leN, Nat.mod_one]
  | n + 1, x => by
    simp only [leB, leN]
    rw [leN_leB n, Nat.pow_succ, Nat.mul_comm (256 ^ n) 256, Nat.mod_mul]
    have : (UInt8.ofNat (x % 256)).toNat = x % 256 := by rw [UInt8.toNat_ofNat']; omega
    rw [this]
theorem leB_leN : ∀ l : Bs, leB l.length (leN l) = l
  | [] => rfl
  | x :: l => by
    have hx := x.toNat_lt
    simp only [List.length_cons, leB, leN]
    rw [show (x.toNat + 256 * leN l) % 256 = x.toNat by omega, show (x.toNat + 256 * leN l) / 256 = leN l by omega, leB_leN l]
    simp
theorem pow256_le {n : Nat} (h : n ≤ 8) : 256 ^ n ≤ 18446744073709551616 := by
  have := Nat.pow_le_pow_right (show 0 < 256 by decide) h
  simpa using this
theorem drop_cons (l : Bs) (i : Nat) (h : i < l.length) : l.drop i = l.getD i 0 :: l.drop (i + 1) := by
  rw [List.drop_eq_getElem_cons h, List.getD_eq_getElem?_getD, List.getElem?_eq_getElem h]
  rfl
theorem number_round (s : ByteArray) (h8 : s.size ≤ 8) : ∀ i : Nat, i ≤ s.size → Ev (fun k => pedigreeref29_Number.l0 k s (leN ((lb s).drop i) : Int) ((i : Int) - 1)) (leN (lb s) : Int)
  | 0, _ => by
    refine Ev.succ (Ev.congr (fun k => ?_) (Ev.const (o := some _) rfl))
    rw [pedigreeref29_Number.l0, if_neg (by omega), List.drop_zero]
  | i + 1, hi => by
    have ih := number_round s h8 i (by omega)
    refine Ev.succ (Ev.congr (fun k => ?_) ih)
    have hl := lb_len s
    have hd := drop_cons (lb s) i (by omega)
    have hlt := leN_lt ((lb s).drop i)
    have hp := pow256_le (n := ((lb s).drop i).length) (by rw [List.length_drop]; omega)
    have hB := byt_lt s i
    rw [hd] at hlt
    rw [← hd] at hlt
    have e : leN ((lb s).drop i) = byt s i + 256 * leN ((lb s).drop (i + 1)) := by rw [hd, byt_lb]; rfl
    rw [pedigreeref29_Number.l0, if_pos (by omega), if_pos (by omega), if_pos (by omega)]
    rw [show (((i + 1 : Nat) : Int) - 1) = (i : Int) by omega, bt_byt, wrap_u64, wrap_u64, wrap_u64, w64 ((i : Int) - 1) (by omega) (by omega)]
    congr 1
    omega
theorem Number_ev (s : ByteArray) (h8 : s.size ≤ 8) : Ev (fun k => pedigreeref29_Number.f k s) (leN (lb s) : Int) := by
  have h := number_round s h8 s.size (Nat.le_refl _)
  rw [List.drop_of_length_le (by rw [lb_len]; omega)] at h
  refine Ev.congr (fun k => ?_) h
  unfold pedigreeref29_Number.f
  rw [w64 _ (by omega) (by omega)]
  rfl
theorem take_succ (l : Bs) (i : Nat) (h : i < l.length) : l.take (i + 1) = l.take i ++ [l.getD i 0] := by
  rw [List.take_succ_eq_append_getElem h, List.getD_eq_getElem?_getD, List.getElem?_eq_getElem h]
  rfl
theorem wraps_u64 (n : Int) (h₀ : 0 ≤ n) (h₁ : n < 2 ^ 64) : IntKind.u64.wrap n = n := by rw [wrap_u64]; omega
theorem get_or (s : ByteArray) (h8 : s.size ≤ 8) (i : Nat) (hi : i < s.size) :
    Go.bits .or .u64 (leN ((lb s).take i) : Int) (shl .u64 (IntKind.u64.wrap (bt s (i : Int))) (wrap64 (8 * (i : Int)))) = (leN ((lb s).take (i + 1)) : Int) := by
  have hl := lb_len s
  have hB := byt_lt s i
  have e1 : leN ((lb s).take (i + 1)) = leN ((lb s).take i) + 256 ^ i * byt s i := by
    rw [take_succ _ _ (by omega), leN_append, List.length_take, Nat.min_eq_left (by omega), byt_lb]
    simp [leN]
  have h1 := leN_lt ((lb s).take i)
  have h2 := leN_lt ((lb s).take (i + 1))
  rw [List.length_take, Nat.min_eq_left (by omega)] at h1 h2
  have p1 := pow256_le (n := i + 1) (by omega)
  have p0 := pow256_le (n := i) (by omega)
  rw [bt_byt, wraps_u64 (byt s i : Int) (by omega) (by omega), w64 (8 * (i : Int)) (by omega) (by omega)]
  unfold shl
  rw [show (8 * (i : Int)).toNat = 8 * i by omega, show min (8 * i) IntKind.u64.bits = 8 * i by show min (8 * i) 64 = _; omega]
  have e2 : (2 : Nat) ^ (8 * i) = 256 ^ i := by rw [Nat.pow_mul]
  have e3 : ((byt s i : Nat) : Int) * 2 ^ (8 * i) = ((256 ^ i * byt s i : Nat) : Int) := by
    rw [← e2]; push_cast; exact Int.mul_comm _ _
  rw [e3, wraps_u64 _ (by omega) (by omega)]
  rw [(bits_nat .u64 64 (by decide) wraps_u64 _ _ (by omega) (by omega)).2, e1, Nat.or_comm, ← e2, ← Nat.two_pow_add_eq_or_of_lt (by omega), Nat.add_comm]
theorem get64_round (s : ByteArray) (h8 : s.size ≤ 8) (n : Nat) (hn : n ≤ s.size) : ∀ m i : Nat, i + m = n → Ev (fun k => journal_get_uint64.l0 k s (leN ((lb s).take i) : Int) (n : Int) (i : Int)) (leN ((lb s).take n) : Int)
  | 0, i, hi => by
    refine Ev.succ (Ev.congr (fun k => ?_) (Ev.const (o := some _) rfl))
    rw [journal_get_uint64.l0, if_neg (by omega), show i = n by omega]
  | m + 1, i, hi => by
    refine Ev.succ (Ev.congr (fun k => ?_) (get64_round s h8 n hn m (i + 1) (by omega)))
    rw [journal_get_uint64.l0, if_pos (by omega), if_pos (by omega), if_pos (by omega), if_pos (by rw [w64] <;> omega), get_or s h8 i (by omega), w64 ((i : Int) + 1) (by omega) (by omega)]
    rfl
theorem get32_round (s : ByteArray) (h8 : s.size ≤ 8) (n : Nat) (hn : n ≤ s.size) : ∀ m i : Nat, i + m = n → Ev (fun k => journal_get_uint32.l0 k s (leN ((lb s).take i) : Int) (n : Int) (i : Int)) ((leN ((lb s).take n) : Int) % 4294967296)
  | 0, i, hi => by
    refine Ev.succ (Ev.congr (fun k => ?_) (Ev.const (o := some _) rfl))
    rw [journal_get_uint32.l0, if_neg (by omega), show i = n by omega]
  | m + 1, i, hi => by
    refine Ev.succ (Ev.congr (fun k => ?_) (get32_round s h8 n hn m (i + 1) (by omega)))
    rw [journal_get_uint32.l0, if_pos (by omega), if_pos (by omega), if_pos (by omega), if_pos (by rw [w64] <;> omega), get_or s h8 i (by omega), w64 ((i : Int) + 1) (by omega) (by omega)]
    rfl
theorem get16_round (s : ByteArray) (h8 : s.size ≤ 8) (n : Nat) (hn : n ≤ s.size) : ∀ m i : Nat, i + m = n → Ev (fun k => journal_get_uint16.l0 k s (leN ((lb s).take i) : Int) (n : Int) (i : Int)) (IntKind.u16.wrap (leN ((lb s).take n) : Int))
  | 0, i, hi => by
    refine Ev.succ (Ev.congr (fun k => ?_) (Ev.const (o := some _) rfl))
    rw [journal_get_uint16.l0, if_neg (by omega), show i = n by omega]
  | m + 1, i, hi => by
    refine Ev.succ (Ev.congr (fun k => ?_) (get16_round s h8 n hn m (i + 1) (by omega)))
    rw [journal_get_uint16.l0, if_pos (by omega), if_pos (by omega), if_pos (by omega), if_pos (by rw [w64] <;> omega), get_or s h8 i (by omega), w64 ((i : Int) + 1) (by omega) (by omega)]
    rfl
theorem get64_ev (s : ByteArray) (h : s.size = 8) : Ev (fun k => journal_get_uint64.f k s 8) (leN (lb s) : Int) := by
  have h0 := get64_round s (by omega) 8 (by omega) 8 0 (by omega)
  have ht : (lb s).take 8 = lb s := List.take_of_length_le (by rw [lb_len]; omega)
  rw [ht] at h0
  exact h0
theorem get32_ev (s : ByteArray) (h : s.size = 4) : Ev (fun k => journal_get_uint32.f k s 4) (leN (lb s) : Int) := by
  have h0 := get32_round s (by omega) 4 (by omega) 4 0 (by omega)
  have ht : (lb s).take 4 = lb s := List.take_of_length_le (by rw [lb_len]; omega)
  have hl := leN_lt (lb s)
  rw [lb_len, h] at hl
  rw [ht, Int.emod_eq_of_lt (by omega) (by omega)] at h0
  exact h0
theorem get16_ev (s : ByteArray) (h : s.size = 2) : Ev (fun k => journal_get_uint16.f k s 2) (leN (lb s) : Int) := by
  have h0 := get16_round s (by omega) 2 (by omega) 2 0 (by omega)
  have ht : (lb s).take 2 = lb s := List.take_of_length_le (by rw [lb_len]; omega)
  have hl := leN_lt (lb s)
  rw [lb_len, h] at hl
  rw [ht, wraps_u16 _ (by omega) (by omega)] at h0
  exact h0
theorem bytes_round (n : Nat) (hn : n ≤ 8) : ∀ (m i x : Nat) (s : ByteArray), i + m = n → s.size = i → x < 18446744073709551616 → Ev (fun k => pedigreeref29_Bytes.l0 k (x : Int) (n : Int) s (i : Int)) (s ++ ob (leB m x))
  | 0, i, x, s, hi, hs, hx => by
    refine Ev.succ (Ev.congr (fun k => ?_) (Ev.const (o := some _) rfl))
    rw [pedigreeref29_Bytes.l0, if_neg (by omega)]
    congr 1
    apply lb_inj
    simp [lb_append, lb_ob, leB]
  | m + 1, i, x, s, hi, hs, hx => by
    have e1 : Int.tmod (x : Int) 256 % 256 = ((x % 256 : Nat) : Int) := by rw [Int.tmod_eq_emod_of_nonneg (by omega)]; omega
    have e2 : IntKind.u64.wrap (Int.tdiv (x : Int) 256) = ((x / 256 : Nat) : Int) := by rw [Int.tdiv_eq_ediv_of_nonneg (by omega), wraps_u64 _ (by omega) (by omega)]; omega
    have es : (strOfNums [((x % 256 : Nat) : Int)]).size = 1 := rfl
    have ih := bytes_round n hn m (i + 1) (x / 256) (s ++ strOfNums [((x % 256 : Nat) : Int)]) (by omega) (by rw [ByteArray.size_append, es]; omega) (by omega)
    have e3 : s ++ strOfNums [((x % 256 : Nat) : Int)] ++ ob (leB m (x / 256)) = s ++ ob (leB (m + 1) x) := by
      apply lb_inj
      have : ((x : Int) % 256).toNat = x % 256 := by omega
      simp [lb_append, lb_ob, leB, lb_nums, this]
    rw [e3] at ih
    refine Ev.succ (Ev.congr (fun k => ?_) ih)
    rw [pedigreeref29_Bytes.l0, if_pos (by omega), Option.bind_some, e1, e2, es, if_pos (by omega), w64 ((i : Int) + 1) (by omega) (by omega)]
    rfl
theorem Bytes_ev (x n : Nat) (hn : n ≤ 8) (hx : x < 18446744073709551616) : Ev (fun k => pedigreeref29_Bytes.f k (x : Int) (n : Int)) (ob (leB n x)) := by
  have h := bytes_round n hn n 0 x (⟨#[]⟩ : ByteArray) (by omega) rfl hx
  have e : (⟨#[]⟩ : ByteArray) ++ ob (leB n x) = ob (leB n x) := by apply lb_inj; simp [lb_append, lb_nil]
  rw [e] at h
  exact h
def tur (l : Bs) : Bs := l.map fun x => UInt8.ofNat (255 - x.toNat)
theorem turned_round (s : ByteArray) (hs : s.size ≤ 140737488355328) : ∀ (m i : Nat) (o : ByteArray), i + m = s.size → o.size = i → Ev (fun k => pedigreeref29_turned.l0 k s o (i : Int)) (o ++ ob (tur ((lb s).drop i)))
  | 0, i, o, hi, ho => by
    refine Ev.succ (Ev.congr (fun k => ?_) (Ev.const (o := some _) rfl))
    rw [pedigreeref29_turned.l0, if_neg (by omega), List.drop_of_length_le (by rw [lb_len]; omega)]
    congr 1
    apply lb_inj
    simp [lb_append, lb_ob, tur]
  | m + 1, i, o, hi, ho => by
    have hB := byt_lt s i
    have hl := lb_len s
    have e1 : (255 - bt s (i : Int)) % 256 = ((255 - byt s i : Nat) : Int) := by rw [bt_byt]; omega
    have es : (strOfNums [((255 - byt s i : Nat) : Int)]).size = 1 := rfl
    have ih := turned_round s hs m (i + 1) (o ++ strOfNums [((255 - byt s i : Nat) : Int)]) (by omega) (by rw [ByteArray.size_append, es]; omega)
    have e3 : o ++ strOfNums [((255 - byt s i : Nat) : Int)] ++ ob (tur ((lb s).drop (i + 1))) = o ++ ob (tur ((lb s).drop i)) := by
      apply lb_inj
      rw [drop_cons (lb s) i (by omega)]
      simp [lb_append, lb_ob, lb_nums, tur, byt_lb]
    rw [e3] at ih
    refine Ev.succ (Ev.congr (fun k => ?_) ih)
    rw [pedigreeref29_turned.l0, if_pos (by omega), if_pos (by omega), Option.bind_some, e1, es, if_pos (by omega), w64 ((i : Int) + 1) (by omega) (by omega)]
    rfl
theorem turned_ev (s : ByteArray) (hs : s.size ≤ 140737488355328) : Ev (fun k => pedigreeref29_turned.f k s) (ob (tur (lb s))) := by
  have h := turned_round s hs s.size 0 (⟨#[]⟩ : ByteArray) (by omega) rfl
  have e : (⟨#[]⟩ : ByteArray) ++ ob (tur ((lb s).drop 0)) = ob (tur (lb s)) := by apply lb_inj; simp [lb_append, lb_nil]
  rw [e] at h
  exact h
theorem tur_len (l : Bs) : (tur l).length = l.length := by simp [tur]
theorem leN_tur : ∀ l : Bs, leN (tur l) = 256 ^ l.length - 1 - leN l
  | [] => rfl
  | x :: l => by
    have hx := x.toNat_lt
    have hl := leN_lt l
    have ih := leN_tur l
    simp only [tur, List.map_cons, leN, List.length_cons, Nat.pow_succ] at *
    rw [ih]
    have : (UInt8.ofNat (255 - x.toNat)).toNat = 255 - x.toNat := by rw [UInt8.toNat_ofNat']; omega
    rw [this]
    omega
theorem leN_inj : ∀ {a b : Bs}, a.length = b.length → leN a = leN b → a = b
  | a, b, h, e => by rw [← leB_leN a, ← leB_leN b, h, e]
end Go.Proofs.J.Pure
end
section
namespace Go.Proofs.J.Pure
open Go.RowKit Go.Proofs.J.Print Go.Proofs.PrintWords Go.Proofs.PrintLast Go.Proofs.PrintMore
def crcL (l : Bs) : Nat := (stP (fun i => (l.getD i 0).toNat) l.length).toNat
theorem crc_lb (s : ByteArray) : (stP (byt s) s.size).toNat = crcL (lb s) := by
  unfold crcL
  rw [lb_len, show byt s = fun i => ((lb s).getD i 0).toNat from funext fun i => byt_lb s i]
theorem crc_lt (l : Bs) : crcL l < 65536 := st_lt _
theorem Sum_ev1 (s : ByteArray) (h : s.size ≤ 140737488355328) : Ev (fun k => journal_Sum.f k s) (crcL (lb s) : Int) := by rw [← crc_lb]; exact journal_Sum_ev s h
theorem Sum_ev2 (s : ByteArray) (h : s.size ≤ 140737488355328) : Ev (fun k => pedigreeref29_Sum.f k s) (crcL (lb s) : Int) := by rw [← crc_lb]; exact ref_Sum_ev s h
def bodyOf (l : Bs) : Option Bs :=
  if 10 ≤ l.length then if tur (l.take 4) = (l.drop 4).take 4 then if leN (l.take 4) ≤ 16777216 then if 10 + leN (l.take 4) ≤ l.length then
    if leB 2 (crcL ((l.drop 8).take (leN (l.take 4)))) = (l.drop (8 + leN (l.take 4))).take 2 then some ((l.drop 8).take (leN (l.take 4))) else none else none else none else none else none
def refBody (o : Option Bs) : ByteArray × Bool := match o with | none => (⟨#[]⟩, false) | some x => (ob x, true)
theorem refBody_ev (b : ByteArray) (hb : b.size ≤ 140737488351232) : Ev (fun k => pedigreeref29_Body.f k b) (refBody (bodyOf (lb b))) := by
  have hl := lb_len b
  have hj : ∀ x, Ev (fun k => pedigreeref29_Body.j0 k x true) (refBody none) := fun x => Ev.succ (Ev.congr (fun k => by rw [pedigreeref29_Body.j0, if_pos rfl]; rfl) (Ev.const (o := some (refBody none)) rfl))
  have hj1 : ∀ x y, Ev (fun k => pedigreeref29_Body.j1 k x y true) (refBody none) := fun x y => Ev.succ (Ev.congr (fun k => by rw [pedigreeref29_Body.j1, if_pos rfl]; rfl) (Ev.const (o := some (refBody none)) rfl))
  unfold pedigreeref29_Body.f bodyOf
  by_cases c1 : 10 ≤ (lb b).length
  · rw [if_pos c1]
    have s04 : (b.extract 0 4).size = 4 := by rw [← lb_len, lb_take, List.length_take]; omega
    refine Ev.iteF (by omega) (Ev.iteT (by omega) (Ev.iteT (by omega) (Ev.bind (turned_ev (b.extract 0 4) (by omega)) (Ev.iteT (by omega) (Ev.iteT (by omega) ?_)))))
    rw [lb_toList, lb_toList, lb_ob, lb_take, show lb (b.extract 4 8) = ((lb b).drop 4).take 4 from lb_extract b 4 8]
    by_cases c2 : tur ((lb b).take 4) = ((lb b).drop 4).take 4
    · rw [if_pos c2, c2]
      have hne : ((((lb b).drop 4).take 4) != (((lb b).drop 4).take 4)) = false := by simp
      simp only [hne]
      refine Ev.succ (Ev.congr (fun k => by rw [pedigreeref29_Body.j0, if_neg (by decide)]) ?_)
      have hN := Number_ev (b.extract 0 4) (by omega)
      have hlt := leN_lt ((lb b).take 4)
      rw [List.length_take, Nat.min_eq_left (by omega)] at hlt
      rw [lb_take] at hN
      refine Ev.iteT (by omega) (Ev.iteT (by omega) (Ev.bind hN ?_))
      rw [w64 (leN ((lb b).take 4) : Int) (by omega) (by omega)]
      by_cases c3 : leN ((lb b).take 4) ≤ 16777216
      · rw [if_pos c3]
        refine Ev.iteF (by omega) ?_
        rw [w64 (10 + (leN ((lb b).take 4) : Int)) (by omega) (by omega)]
        by_cases c4 : 10 + leN ((lb b).take 4) ≤ (lb b).length
        · rw [if_pos c4, decide_eq_false (by omega)]
          refine Ev.succ (Ev.congr (fun k => by rw [pedigreeref29_Body.j1, if_neg (by decide)]) ?_)
          rw [w64 (8 + (leN ((lb b).take 4) : Int)) (by omega) (by omega), w64 (10 + (leN ((lb b).take 4) : Int)) (by omega) (by omega)]
          refine Ev.iteT (by omega) (Ev.iteT (by omega) ?_)
          rw [show (8 + (leN ((lb b).take 4) : Int)).toNat = 8 + leN ((lb b).take 4) by omega, show (10 + (leN ((lb b).take 4) : Int)).toNat = 10 + leN ((lb b).take 4) by omega]
          have eb : b.extract 8 (8 + leN ((lb b).take 4)) = ob (((lb b).drop 8).take (leN ((lb b).take 4))) := by
            apply lb_inj; rw [lb_extract, lb_ob, show 8 + leN ((lb b).take 4) - 8 = leN ((lb b).take 4) by omega]
          have et : lb (b.extract (8 + leN ((lb b).take 4)) (10 + leN ((lb b).take 4))) = ((lb b).drop (8 + leN ((lb b).take 4))).take 2 := by
            rw [lb_extract, show 10 + leN ((lb b).take 4) - (8 + leN ((lb b).take 4)) = 2 by omega]
          have hS := Sum_ev2 (b.extract 8 (8 + leN ((lb b).take 4))) (by rw [← lb_len, lb_extract, List.length_take, List.length_drop]; omega)
          rw [eb] at hS
          rw [lb_ob] at hS
          have hc := crc_lt (((lb b).drop 8).take (leN ((lb b).take 4)))
          rw [eb]
          refine Ev.bind hS ?_
          rw [wraps_u64 _ (by omega) (by omega)]
          refine Ev.bind (Bytes_ev (crcL (((lb b).drop 8).take (leN ((lb b).take 4)))) 2 (by omega) (by omega)) ?_
          refine Ev.iteT (by omega) (Ev.iteT (by omega) (Ev.iteT (by omega) ?_))
          rw [lb_toList, lb_toList, lb_ob, et]
          by_cases c5 : leB 2 (crcL (((lb b).drop 8).take (leN ((lb b).take 4)))) = ((lb b).drop (8 + leN ((lb b).take 4))).take 2
          · rw [if_pos c5, if_pos c5]
            exact Ev.const rfl
          · rw [if_neg c5, if_neg c5]
            exact Ev.const rfl
        · rw [if_neg c4, decide_eq_true (by omega)]
          exact hj1 _ _
      · rw [if_neg c3]
        exact Ev.iteT (by omega) (hj1 _ _)
    · rw [if_neg c2]
      have hne : (tur ((lb b).take 4) != ((lb b).drop 4).take 4) = true := by simp [c2]
      simp only [hne]
      exact hj _
  · rw [if_neg c1]
    exact Ev.iteT (by omega) (hj _)
theorem not_u32 (n : Nat) (hn : n < 4294967296) : Go.bits .xor .u32 4294967295 (n : Int) = ((4294967295 - n : Nat) : Int) := by
  have e : (BitVec.ofInt 32 4294967295 ^^^ BitVec.ofInt 32 (n : Int)) = ~~~ (BitVec.ofNat 32 n) := by
    rw [BitVec.ofInt_natCast, ← BitVec.allOnes_xor]
    congr 1
  show IntKind.u32.wrap ((BitVec.ofInt 32 4294967295 ^^^ BitVec.ofInt 32 (n : Int)).toNat : Int) = _
  rw [e, BitVec.toNat_not, BitVec.toNat_ofNat, Nat.mod_eq_of_lt (by omega), IntKind.wrap_u32]
  omega
def proBody (l : Bs) (o : Option Bs) : Option (ByteArray × ByteArray) := match o with | none => none | some x => some (ob x, ob (l.drop (10 + x.length)))
theorem tk_ob (s : ByteArray) (n : Nat) (h : n ≤ s.size) : tk s n = some (ob ((lb s).take n), ob ((lb s).drop n)) := by
  unfold tk
  rw [if_pos h, ← lb_take, ← lb_drop]
  rfl
theorem tk_no (s : ByteArray) (n : Nat) (h : ¬ n ≤ s.size) : tk s n = none := by
  unfold tk
  rw [if_neg h]
theorem ob_size (l : Bs) : (ob l).size = l.length := by rw [← lb_len, lb_ob]
theorem proBody_ev (b : ByteArray) (hb : b.size ≤ 140737488351232) : Ev (fun k => body.f k b) (proBody (lb b) (bodyOf (lb b))) := by
  have hl := lb_len b
  unfold body.f bodyOf
  by_cases h4 : 4 ≤ b.size
  rotate_left
  · rw [tk_no _ _ h4, if_neg (by omega)]
    exact Ev.const rfl
  rw [tk_ob _ _ h4]
  have e1 : (ob ((lb b).take 4)).size = 4 := by rw [ob_size, List.length_take]; omega
  have e2 : (ob ((lb b).drop 4)).size = b.size - 4 := by rw [ob_size, List.length_drop]; omega
  have hg := get32_ev _ e1
  rw [lb_ob] at hg
  have hlt := leN_lt ((lb b).take 4)
  rw [List.length_take, Nat.min_eq_left (by omega)] at hlt
  refine Ev.bind hg ?_
  show Ev (fun k => bindP (tk (ob ((lb b).drop 4)) 4) _) _
  by_cases h8 : 8 ≤ b.size
  rotate_left
  · rw [tk_no _ _ (by omega), if_neg (by omega)]
    exact Ev.const rfl
  rw [tk_ob _ _ (by omega), lb_ob]
  have e3 : (ob (((lb b).drop 4).take 4)).size = 4 := by rw [ob_size, List.length_take, List.length_drop]; omega
  have hg2 := get32_ev _ e3
  rw [lb_ob] at hg2
  refine Ev.bind hg2 ?_
  rw [not_u32 _ (by omega)]
  have hd : (((lb b).drop 4).drop 4) = (lb b).drop 8 := by rw [List.drop_drop]
  rw [hd]
  dsimp only
  have l44 : (((lb b).drop 4).take 4).length = 4 := by rw [List.length_take, List.length_drop]; omega
  have l04 : ((lb b).take 4).length = 4 := by rw [List.length_take]; omega
  have hiff : ((leN (((lb b).drop 4).take 4) : Int) = ((4294967295 - leN ((lb b).take 4) : Nat) : Int)) ↔ tur ((lb b).take 4) = ((lb b).drop 4).take 4 := by
    have ht := leN_tur ((lb b).take 4)
    rw [l04] at ht
    constructor
    · intro h
      exact leN_inj (by rw [tur_len, l04, l44]) (by rw [ht]; omega)
    · intro h
      rw [← h, ht]
  by_cases c2 : tur ((lb b).take 4) = ((lb b).drop 4).take 4
  rotate_left
  · refine Ev.iteF (fun h => c2 (hiff.1 h)) ?_
    rw [if_neg c2]
    by_cases c1 : 10 ≤ (lb b).length
    · rw [if_pos c1]; exact Ev.const rfl
    · rw [if_neg c1]; exact Ev.const rfl
  refine Ev.iteT (hiff.2 c2) ?_
  rw [if_pos c2]
  by_cases c3 : leN ((lb b).take 4) ≤ 16777216
  rotate_left
  · refine Ev.iteT (by omega) ?_
    rw [if_neg c3]
    by_cases c1 : 10 ≤ (lb b).length
    · rw [if_pos c1]; exact Ev.const rfl
    · rw [if_neg c1]; exact Ev.const rfl
  refine Ev.iteF (by omega) (Ev.iteF (by omega) ?_)
  rw [if_pos c3, Int.toNat_natCast]
  have l8 : ((lb b).drop 8).length = b.size - 8 := by rw [List.length_drop]; omega
  by_cases h9 : 8 + leN ((lb b).take 4) ≤ b.size
  rotate_left
  · rw [tk_no _ _ (by rw [ob_size]; omega)]
    by_cases c1 : 10 ≤ (lb b).length
    · rw [if_pos c1, if_neg (by omega)]; exact Ev.const rfl
    · rw [if_neg c1]; exact Ev.const rfl
  rw [tk_ob _ _ (by rw [ob_size]; omega), lb_ob]
  show Ev (fun k => bindP (tk (ob (((lb b).drop 8).drop (leN ((lb b).take 4)))) 2) _) _
  rw [List.drop_drop]
  by_cases h10 : 10 + leN ((lb b).take 4) ≤ b.size
  rotate_left
  · rw [tk_no _ _ (by rw [ob_size, List.length_drop]; omega)]
    by_cases c1 : 10 ≤ (lb b).length
    · rw [if_pos c1, if_neg (by omega)]; exact Ev.const rfl
    · rw [if_neg c1]; exact Ev.const rfl
  rw [tk_ob _ _ (by rw [ob_size, List.length_drop]; omega), lb_ob, if_pos (show 10 ≤ (lb b).length by omega), if_pos (show 10 + leN ((lb b).take 4) ≤ (lb b).length by omega)]
  have l2 : (((lb b).drop (8 + leN ((lb b).take 4))).take 2).length = 2 := by rw [List.length_take, List.length_drop]; omega
  have hg3 := get16_ev (ob (((lb b).drop (8 + leN ((lb b).take 4))).take 2)) (by rw [ob_size, l2])
  rw [lb_ob] at hg3
  refine Ev.bind hg3 ?_
  have hS := Sum_ev1 (ob (((lb b).drop 8).take (leN ((lb b).take 4)))) (by rw [ob_size, List.length_take]; omega)
  rw [lb_ob] at hS
  refine Ev.bind hS ?_
  have hc := crc_lt (((lb b).drop 8).take (leN ((lb b).take 4)))
  have hiff2 : ((leN (((lb b).drop (8 + leN ((lb b).take 4))).take 2) : Int) = (crcL (((lb b).drop 8).take (leN ((lb b).take 4))) : Int)) ↔ leB 2 (crcL (((lb b).drop 8).take (leN ((lb b).take 4)))) = ((lb b).drop (8 + leN ((lb b).take 4))).take 2 := by
    constructor
    · intro h
      apply leN_inj (by rw [leB_len, l2])
      rw [leN_leB]
      omega
    · intro h
      rw [← h, leN_leB]
      omega
  by_cases c5 : leB 2 (crcL (((lb b).drop 8).take (leN ((lb b).take 4)))) = ((lb b).drop (8 + leN ((lb b).take 4))).take 2
  · rw [if_pos c5]
    refine Ev.iteT (hiff2.2 c5) (Ev.const ?_)
    have : (((lb b).drop 8).take (leN ((lb b).take 4))).length = leN ((lb b).take 4) := by rw [List.length_take]; omega
    unfold proBody
    simp only [this]
    rw [List.drop_drop, show 8 + leN ((lb b).take 4) + 2 = 10 + leN ((lb b).take 4) by omega]
  · rw [if_neg c5]
    exact Ev.iteF (fun h => c5 (hiff2.1 h)) (Ev.const rfl)
theorem bodyOf_le {l x : Bs} (h : bodyOf l = some x) : x.length ≤ 16777216 ∧ 10 + x.length ≤ l.length := by
  unfold bodyOf at h
  split at h
  · split at h
    · split at h
      · split at h
        · split at h
          · cases h
            rw [List.length_take, List.length_drop]
            omega
          · cases h
        · cases h
      · cases h
    · cases h
  · cases h
end Go.Proofs.J.Pure
end
section
namespace Go.Proofs.J.Pure
open Go.RowKit Go.Proofs.J.Print Go.Proofs.PrintWords Go.Proofs.PrintLast Go.Proofs.PrintMore
def sNum (r : Bs) : Option (S85 × Bs) := if 8 ≤ r.length then some (⟨1, wrap64 (leN (r.take 8) : Int), ⟨#[]⟩⟩, r.drop 8) else none
def sTxt : Bs → Option (S85 × Bs)
  | [] => none
  | n :: q => if n.toNat ≤ q.length then some (⟨2, 0, ob (q.take n.toNat)⟩, q.drop n.toNat) else none
def sV : Bs → Option (S85 × Bs)
  | [] => none
  | t :: r => if t = 78 then sNum r else if t = 84 then sTxt r else none
def lV : Bs → Option (S85 × Bs)
  | [] => none
  | t :: r => if t = 84 then sTxt r else sNum r
def sA (p : Bs → Option (S85 × Bs)) : Nat → Bs → List S85 → Option (List S85 × Bs)
  | 0, l, acc => some (acc, l)
  | m + 1, l, acc => match p l with | none => none | some (v, r) => sA p m r (acc ++ [v])
def sF (p : Bs → Option (S85 × Bs)) : Bs → Option (S90 × Bs)
  | [] => none
  | n :: q => if n.toNat ≤ q.length then (match q.drop n.toNat with | [] => none | c :: r => match sA p c.toNat r [] with | none => none | some (az, z) => some (⟨ob (q.take n.toNat), az⟩, z)) else none
def sN (p : Bs → Option (S85 × Bs)) : Nat → Bs → List S90 → Option (List S90 × Bs)
  | 0, l, acc => some (acc, l)
  | m + 1, l, acc => match sF p l with | none => none | some (f, r) => sN p m r (acc ++ [f])
def sFs (p : Bs → Option (S85 × Bs)) (l : Bs) : Option (List S90 × Bs) := if 4 ≤ l.length then sN p (leN (l.take 4)) (l.drop 4) [] else none
def u64n (x : Int) : Nat := (IntKind.u64.wrap x).toNat
theorem u64n_lt (x : Int) : u64n x < 18446744073709551616 := by unfold u64n; rw [wrap_u64]; omega
theorem u64n_cast (x : Int) : (u64n x : Int) = IntKind.u64.wrap x := by unfold u64n; rw [wrap_u64]; omega
def encV (v : S85) : Bs := if v.f0 = 1 then 78 :: leB 8 (u64n v.f1) else 84 :: (leB 1 v.f2.size ++ lb v.f2)
def encF (f : S90) : Bs := leB 1 f.f0.size ++ (lb f.f0 ++ (leB 1 f.f1.length ++ f.f1.flatMap encV))
def encFs (l : List S90) : Bs := leB 4 l.length ++ l.flatMap encF
def rngV (v : S85) : Prop := -9223372036854775808 ≤ v.f1 ∧ v.f1 ≤ 9223372036854775807
def okV (v : S85) : Prop := rngV v ∧ (v.f0 = 1 ∧ v.f2 = ⟨#[]⟩ ∨ v.f0 = 2 ∧ v.f1 = 0 ∧ v.f2.size ≤ 255)
def okF (f : S90) : Prop := f.f0.size ≤ 255 ∧ f.f1.length ≤ 255 ∧ ∀ v ∈ f.f1, okV v
theorem w64_u64 (n : Nat) (h : n < 18446744073709551616) : u64n (wrap64 (n : Int)) = n := by unfold u64n wrap64; rw [wrap_u64]; omega
theorem u64_w64 (x : Int) (h : -9223372036854775808 ≤ x ∧ x ≤ 9223372036854775807) : wrap64 (u64n x : Int) = x := by rw [u64n_cast, wrap_u64]; unfold wrap64; omega
theorem rng_w64 (n : Int) : -9223372036854775808 ≤ wrap64 n ∧ wrap64 n ≤ 9223372036854775807 := by unfold wrap64; omega
theorem leB1 (x : Nat) : leB 1 x = [UInt8.ofNat (x % 256)] := rfl
theorem leB1_u8 (c : UInt8) : leB 1 c.toNat = [c] := by
  have := c.toNat_lt
  rw [leB1, Nat.mod_eq_of_lt (by omega)]
  simp
theorem u8_of (x : Nat) (h : x ≤ 255) : (UInt8.ofNat (x % 256)).toNat = x := by rw [UInt8.toNat_ofNat']; omega
theorem sTxt_inv {l : Bs} {v : S85} {r : Bs} (h : sTxt l = some (v, r)) : 84 :: l = encV v ++ r ∧ okV v := by
  cases l with
  | nil => cases h
  | cons n q =>
    simp only [sTxt] at h
    split at h
    · rename_i hn
      cases h
      have hs := n.toNat_lt
      have e : (ob (q.take n.toNat)).size = n.toNat := by rw [ob_size, List.length_take]; omega
      refine ⟨?_, ⟨by simp [rngV], Or.inr ⟨rfl, rfl, by show (ob (q.take n.toNat)).size ≤ 255; omega⟩⟩⟩
      unfold encV
      rw [if_neg (show ¬ (2 : Int) = 1 by decide)]
      show _ = 84 :: (leB 1 (ob (q.take n.toNat)).size ++ lb (ob (q.take n.toNat))) ++ _
      rw [e, leB1_u8, lb_ob]
      simp
    · cases h
theorem sNum_inv {l : Bs} {v : S85} {r : Bs} (h : sNum l = some (v, r)) : 78 :: l = encV v ++ r ∧ okV v := by
  unfold sNum at h
  split at h
  · rename_i hn
    cases h
    have hl := leN_lt (l.take 8)
    have e : (l.take 8).length = 8 := by rw [List.length_take]; omega
    rw [e] at hl
    refine ⟨?_, ⟨rng_w64 _, Or.inl ⟨rfl, rfl⟩⟩⟩
    unfold encV
    rw [if_pos rfl]
    show _ = 78 :: leB 8 (u64n (wrap64 (leN (l.take 8) : Int))) ++ _
    rw [w64_u64 _ (by omega)]
    have := leB_leN (l.take 8)
    rw [e] at this
    rw [this]
    simp
  · cases h
theorem sV_inv {l : Bs} {v : S85} {r : Bs} (h : sV l = some (v, r)) : l = encV v ++ r ∧ okV v ∧ lV l = some (v, r) := by
  cases l with
  | nil => cases h
  | cons t q =>
    simp only [sV] at h
    split at h
    · rename_i e
      subst e
      have := sNum_inv h
      exact ⟨this.1, this.2, by simp only [lV]; rw [if_neg (by decide)]; exact h⟩
    · split at h
      · rename_i e
        subst e
        have := sTxt_inv h
        exact ⟨this.1, this.2, by simp only [lV]; rw [if_pos (by trivial)]; exact h⟩
      · cases h
theorem sV_enc (v : S85) (r : Bs) (h : okV v) : sV (encV v ++ r) = some (v, r) := by
  obtain ⟨hr, h⟩ := h
  rcases h with ⟨h0, h2⟩ | ⟨h0, h1, h2⟩
  · unfold encV
    rw [if_pos h0]
    simp only [List.cons_append, sV]
    rw [if_pos (by trivial)]
    unfold sNum
    have e := leB_len 8 (u64n v.f1)
    rw [if_pos (by rw [List.length_append]; omega)]
    have et : (leB 8 (u64n v.f1) ++ r).take 8 = leB 8 (u64n v.f1) := by rw [List.take_append_of_le_length (by omega), List.take_of_length_le (by omega)]
    have ed : (leB 8 (u64n v.f1) ++ r).drop 8 = r := by rw [List.drop_append_of_le_length (by omega), List.drop_of_length_le (by omega)]; rfl
    rw [et, ed, leN_leB, Nat.mod_eq_of_lt (u64n_lt _), u64_w64 _ hr, ← h0, ← h2]
  · unfold encV
    rw [if_neg (by omega)]
    rw [leB1]
    simp only [List.cons_append, List.nil_append, sV]
    rw [if_neg (by decide), if_pos (by trivial)]
    simp only [sTxt]
    rw [u8_of _ h2, if_pos (by rw [List.length_append, lb_len]; omega)]
    have et : (lb v.f2 ++ r).take v.f2.size = lb v.f2 := by rw [List.take_append_of_le_length (by rw [lb_len]; omega), List.take_of_length_le (by rw [lb_len]; omega)]
    have ed : (lb v.f2 ++ r).drop v.f2.size = r := by rw [List.drop_append_of_le_length (by rw [lb_len]; omega), List.drop_of_length_le (by rw [lb_len]; omega)]; rfl
    rw [et, ed, ob_lb, ← h0, ← h1]
theorem sA_inv : ∀ (m : Nat) {l : Bs} {acc az : List S85} {r : Bs}, sA sV m l acc = some (az, r) → ∃ bs, az = acc ++ bs ∧ bs.length = m ∧ l = bs.flatMap encV ++ r ∧ (∀ v ∈ bs, okV v) ∧ sA lV m l acc = some (az, r)
  | 0, l, acc, az, r, h => by
    simp only [sA] at h
    cases h
    exact ⟨[], by simp, rfl, by simp, by simp, rfl⟩
  | m + 1, l, acc, az, r, h => by
    simp only [sA] at h
    split at h
    · cases h
    · rename_i v q e
      obtain ⟨e1, e2, e3⟩ := sV_inv e
      obtain ⟨bs, rfl, hl, hq, hok, hL⟩ := sA_inv m h
      refine ⟨v :: bs, by simp, by simp [hl], by rw [e1, hq]; simp, by simpa using ⟨e2, hok⟩, ?_⟩
      simp only [sA, e3]
      exact hL
theorem sA_enc : ∀ (bs : List S85) (r : Bs) (acc : List S85), (∀ v ∈ bs, okV v) → sA sV bs.length (bs.flatMap encV ++ r) acc = some (acc ++ bs, r)
  | [], r, acc, _ => by simp [sA]
  | v :: bs, r, acc, h => by
    simp only [List.length_cons, sA, List.flatMap_cons, List.append_assoc]
    rw [sV_enc v _ (h v (by simp))]
    dsimp only
    rw [sA_enc bs r _ (fun x hx => h x (by simp [hx]))]
    simp
theorem sF_inv {l : Bs} {f : S90} {r : Bs} (h : sF sV l = some (f, r)) : l = encF f ++ r ∧ okF f ∧ sF lV l = some (f, r) := by
  cases l with
  | nil => cases h
  | cons n q =>
    simp only [sF] at h
    split at h
    · rename_i hn
      split at h
      · cases h
      · rename_i c z e
        split at h
        · cases h
        · rename_i az w eA
          cases h
          obtain ⟨bs, e0, hl, hz, hok, hL⟩ := sA_inv _ eA
          rw [List.nil_append] at e0
          subst e0
          have hc := c.toNat_lt
          have hnn := n.toNat_lt
          have es : (ob (q.take n.toNat)).size = n.toNat := by rw [ob_size, List.length_take]; omega
          refine ⟨?_, ⟨by show (ob (q.take n.toNat)).size ≤ 255; omega, by show az.length ≤ 255; omega, hok⟩, ?_⟩
          · show n :: q = leB 1 (ob (q.take n.toNat)).size ++ (lb (ob (q.take n.toNat)) ++ (leB 1 az.length ++ az.flatMap encV)) ++ r
            rw [es, hl, leB1_u8, leB1_u8, lb_ob]
            have : q = q.take n.toNat ++ q.drop n.toNat := (List.take_append_drop _ _).symm
            rw [e, hz] at this
            simp only [List.cons_append, List.nil_append, List.append_assoc]
            rw [List.cons.injEq]
            exact ⟨rfl, this⟩
          · simp only [sF]
            rw [if_pos hn, e]
            dsimp only
            rw [hL]
    · cases h
theorem sF_enc (f : S90) (r : Bs) (h : okF f) : sF sV (encF f ++ r) = some (f, r) := by
  obtain ⟨h1, h2, h3⟩ := h
  unfold encF
  rw [leB1, leB1]
  simp only [List.cons_append, List.nil_append, List.append_assoc, sF]
  rw [u8_of _ h1, if_pos (by rw [List.length_append, lb_len]; omega)]
  have et : ∀ x : Bs, (lb f.f0 ++ x).take f.f0.size = lb f.f0 := fun x => by rw [List.take_append_of_le_length (by rw [lb_len]; omega), List.take_of_length_le (by rw [lb_len]; omega)]
  have ed : ∀ x : Bs, (lb f.f0 ++ x).drop f.f0.size = x := fun x => by rw [List.drop_append_of_le_length (by rw [lb_len]; omega), List.drop_of_length_le (by rw [lb_len]; omega)]; rfl
  rw [et, ed]
  dsimp only
  rw [u8_of _ h2, sA_enc _ _ _ h3]
  rfl
theorem sN_inv : ∀ (m : Nat) {l : Bs} {acc fs : List S90} {r : Bs}, sN sV m l acc = some (fs, r) → ∃ bs, fs = acc ++ bs ∧ bs.length = m ∧ l = bs.flatMap encF ++ r ∧ (∀ v ∈ bs, okF v) ∧ sN lV m l acc = some (fs, r)
  | 0, l, acc, az, r, h => by
    simp only [sN] at h
    cases h
    exact ⟨[], by simp, rfl, by simp, by simp, rfl⟩
  | m + 1, l, acc, az, r, h => by
    simp only [sN] at h
    split at h
    · cases h
    · rename_i v q e
      obtain ⟨e1, e2, e3⟩ := sF_inv e
      obtain ⟨bs, rfl, hl, hq, hok, hL⟩ := sN_inv m h
      refine ⟨v :: bs, by simp, by simp [hl], by rw [e1, hq]; simp, by simpa using ⟨e2, hok⟩, ?_⟩
      simp only [sN, e3]
      exact hL
theorem sN_enc : ∀ (bs : List S90) (r : Bs) (acc : List S90), (∀ v ∈ bs, okF v) → sN sV bs.length (bs.flatMap encF ++ r) acc = some (acc ++ bs, r)
  | [], r, acc, _ => by simp [sN]
  | v :: bs, r, acc, h => by
    simp only [List.length_cons, sN, List.flatMap_cons, List.append_assoc]
    rw [sF_enc v _ (h v (by simp))]
    dsimp only
    rw [sN_enc bs r _ (fun x hx => h x (by simp [hx]))]
    simp
theorem sFs_inv {l : Bs} {fs : List S90} {r : Bs} (h : sFs sV l = some (fs, r)) : l = encFs fs ++ r ∧ (∀ f ∈ fs, okF f) ∧ fs.length < 4294967296 ∧ sFs lV l = some (fs, r) := by
  unfold sFs at h
  split at h
  · rename_i h4
    obtain ⟨bs, e0, hl, hz, hok, hL⟩ := sN_inv _ h
    rw [List.nil_append] at e0
    subst e0
    have hlt := leN_lt (l.take 4)
    have e4 : (l.take 4).length = 4 := by rw [List.length_take]; omega
    rw [e4] at hlt
    refine ⟨?_, hok, by omega, ?_⟩
    · unfold encFs
      have h1 := leB_leN (l.take 4)
      rw [e4] at h1
      rw [hl, h1, List.append_assoc, ← hz, List.take_append_drop]
    · unfold sFs
      rw [if_pos h4]
      exact hL
  · cases h
theorem sFs_enc (fs : List S90) (r : Bs) (h : ∀ f ∈ fs, okF f) (hl : fs.length < 4294967296) : sFs sV (encFs fs ++ r) = some (fs, r) := by
  unfold sFs encFs
  have e := leB_len 4 fs.length
  rw [if_pos (by rw [List.length_append, List.length_append]; omega), List.append_assoc]
  have et : ∀ x : Bs, (leB 4 fs.length ++ x).take 4 = leB 4 fs.length := fun x => by rw [List.take_append_of_le_length (by omega), List.take_of_length_le (by omega)]
  have ed : ∀ x : Bs, (leB 4 fs.length ++ x).drop 4 = x := fun x => by rw [List.drop_append_of_le_length (by omega), List.drop_of_length_le (by omega)]; rfl
  rw [et, ed, leN_leB, Nat.mod_eq_of_lt (by omega), sN_enc _ _ _ h]
  rfl
theorem lV_rng {l : Bs} {v : S85} {r : Bs} (h : lV l = some (v, r)) : rngV v ∧ (encV v).length + r.length ≤ l.length := by
  cases l with
  | nil => cases h
  | cons t q =>
    simp only [lV] at h
    split at h
    · have hh := sTxt_inv h
      have e := congrArg List.length hh.1
      rw [List.length_append, List.length_cons] at e
      exact ⟨hh.2.1, by rw [List.length_cons]; omega⟩
    · have hh := sNum_inv h
      have e := congrArg List.length hh.1
      rw [List.length_append, List.length_cons] at e
      exact ⟨hh.2.1, by rw [List.length_cons]; omega⟩
theorem lA_rng : ∀ (m : Nat) {l : Bs} {acc az : List S85} {r : Bs}, sA lV m l acc = some (az, r) → ∃ bs, az = acc ++ bs ∧ bs.length = m ∧ (∀ v ∈ bs, rngV v) ∧ (bs.flatMap encV).length + r.length ≤ l.length
  | 0, l, acc, az, r, h => by
    simp only [sA] at h
    cases h
    exact ⟨[], by simp, rfl, by simp, by simp⟩
  | m + 1, l, acc, az, r, h => by
    simp only [sA] at h
    split at h
    · cases h
    · rename_i v q e
      obtain ⟨e1, e2⟩ := lV_rng e
      obtain ⟨bs, rfl, hl, hq, hok⟩ := lA_rng m h
      exact ⟨v :: bs, by simp, by simp [hl], by simpa using ⟨e1, hq⟩, by simp only [List.flatMap_cons, List.length_append]; omega⟩
theorem lF_rng {l : Bs} {f : S90} {r : Bs} (h : sF lV l = some (f, r)) : (∀ v ∈ f.f1, rngV v) ∧ (encF f).length + r.length ≤ l.length := by
  cases l with
  | nil => cases h
  | cons n q =>
    simp only [sF] at h
    split at h
    · rename_i hn
      split at h
      · cases h
      · rename_i c z e
        split at h
        · cases h
        · rename_i az w eA
          cases h
          obtain ⟨bs, e0, hl, hq, hle⟩ := lA_rng _ eA
          rw [List.nil_append] at e0
          subst e0
          refine ⟨hq, ?_⟩
          have e2 := congrArg List.length e
          rw [List.length_drop, List.length_cons] at e2
          show (leB 1 (ob (q.take n.toNat)).size ++ (lb (ob (q.take n.toNat)) ++ (leB 1 az.length ++ az.flatMap encV))).length + r.length ≤ _
          simp only [List.length_append, leB_len, lb_ob, List.length_take, List.length_cons]
          omega
    · cases h
theorem lN_rng : ∀ (m : Nat) {l : Bs} {acc fs : List S90} {r : Bs}, sN lV m l acc = some (fs, r) → ∃ bs, fs = acc ++ bs ∧ bs.length = m ∧ (∀ f ∈ bs, ∀ v ∈ f.f1, rngV v) ∧ (bs.flatMap encF).length + r.length ≤ l.length
  | 0, l, acc, az, r, h => by
    simp only [sN] at h
    cases h
    exact ⟨[], by simp, rfl, by simp, by simp⟩
  | m + 1, l, acc, az, r, h => by
    simp only [sN] at h
    split at h
    · cases h
    · rename_i v q e
      obtain ⟨e1, e2⟩ := lF_rng e
      obtain ⟨bs, rfl, hl, hq, hok⟩ := lN_rng m h
      refine ⟨v :: bs, by simp, by simp [hl], ?_, by simp only [List.flatMap_cons, List.length_append]; omega⟩
      intro f hf
      rcases List.mem_cons.1 hf with rfl | hf
      · exact e1
      · exact hq f hf
theorem lFs_rng {l : Bs} {fs : List S90} {r : Bs} (h : sFs lV l = some (fs, r)) : (∀ f ∈ fs, ∀ v ∈ f.f1, rngV v) ∧ (encFs fs).length + r.length ≤ l.length ∧ fs.length < 4294967296 := by
  unfold sFs at h
  split at h
  · rename_i h4
    obtain ⟨bs, e0, hl, hq, hle⟩ := lN_rng _ h
    rw [List.nil_append] at e0
    subst e0
    have hlt := leN_lt (l.take 4)
    have e4 : (l.take 4).length = 4 := by rw [List.length_take]; omega
    rw [e4] at hlt
    refine ⟨hq, ?_, by omega⟩
    unfold encFs
    rw [List.length_append, leB_len]
    rw [List.length_drop] at hle
    omega
  · cases h
end Go.Proofs.J.Pure
end
section
namespace Go.Proofs.J.Pure
open Go.RowKit Go.Proofs.J.Print Go.Proofs.PrintWords Go.Proofs.PrintLast Go.Proofs.PrintMore
theorem bt_one (n : UInt8) : bt (ob [n]) 0 = (n.toNat : Int) := by
  have := bt_byt (ob [n]) 0
  rw [byt_lb] at this
  exact this
theorem ob_toList (l : Bs) : (ob l).toList = l := lb_toList (ob l)
theorem pt_yes (l : Bs) (n : Nat) (h : n ≤ l.length) (m : Int) (hm : m = (n : Int)) : journal_reader_take.f (ob l) m = some (ob (l.take n), ob (l.drop n)) := by
  subst hm
  unfold journal_reader_take.f
  rw [ob_size, if_neg (by omega), if_pos (by omega), if_pos (by omega), Int.toNat_natCast]
  congr 2
  · exact lb_inj (by rw [lb_take, lb_ob, lb_ob])
  · exact lb_inj (by rw [← ob_size, lb_drop, lb_ob, lb_ob])
theorem pt_no (l : Bs) (n : Nat) (h : ¬ n ≤ l.length) (m : Int) (hm : m = (n : Int)) : journal_reader_take.f (ob l) m = none := by
  subst hm
  unfold journal_reader_take.f
  rw [ob_size, if_pos (by omega)]
theorem lt_yes (l : Bs) (n : Nat) (h : n ≤ l.length) (m : Int) (hm : m = (n : Int)) : pedigreeref29_take.f (ob l) m = some (ob (l.take n), ob (l.drop n), true) := by
  subst hm
  unfold pedigreeref29_take.f
  rw [ob_size, if_neg (by omega), if_pos (by omega), if_pos (by omega), Int.toNat_natCast]
  congr 2
  · exact lb_inj (by rw [lb_take, lb_ob, lb_ob])
  · congr 1
    exact lb_inj (by rw [← ob_size, lb_drop, lb_ob, lb_ob])
theorem lt_no (l : Bs) (n : Nat) (h : ¬ n ≤ l.length) (m : Int) (hm : m = (n : Int)) : pedigreeref29_take.f (ob l) m = some (⟨#[]⟩, ⟨#[]⟩, false) := by
  subst hm
  unfold pedigreeref29_take.f
  rw [ob_size, if_pos (by omega)]
theorem Ev.bindPs {α β : Type} {o : Option α} {a : α} (h : o = some a) {f : Nat → α → Option (Option β)} {r : Option β} (h2 : Ev (fun k => f k a) r) : Ev (fun k => Print.bindP o (f k)) r := by subst h; exact h2
theorem Ev.bindPn {α β : Type} {o : Option α} (h : o = none) {f : Nat → α → Option (Option β)} : Ev (fun k => Print.bindP o (f k)) none := by subst h; exact Ev.const rfl
abbrev PF := Option (List S90 × ByteArray)
theorem args_end (x3 : List S90) (h3 : x3.length < 3518437208883) (pred : ByteArray) (x7 x8 : Int) (c : Nat) (l : Bs) (acc : List S85) (v : PF)
    (h : Ev (fun k => factsP.l0 k (x3 ++ [⟨pred, acc⟩]) x7 ((x8 + 1) % 4294967296) (ob l)) v) : Ev (fun k => factsP.l1 k x3 x7 x8 (c : Int) (c : Int) (ob l) pred acc) v := by
  refine Ev.succ (Ev.congr (fun k => ?_) h)
  rw [factsP.l1, if_neg (by omega), if_pos h3]
theorem args_step (x3 : List S90) (pred : ByteArray) (x7 x8 : Int) (c i : Nat) (hc : c ≤ 255) (hi : i < c) (l : Bs) (acc : List S85) (ha : acc.length = i) (v : PF)
    (h0 : sV l = none → v = none) (h1 : ∀ a r, sV l = some (a, r) → Ev (fun k => factsP.l1 k x3 x7 x8 (c : Int) ((i + 1 : Nat) : Int) (ob r) pred (acc ++ [a])) v) :
    Ev (fun k => factsP.l1 k x3 x7 x8 (c : Int) (i : Int) (ob l) pred acc) v := by
  apply Ev.succ
  have ha2 : acc.length < 4398046511104 := by omega
  have ei : ((i : Int) + 1) % 256 = ((i + 1 : Nat) : Int) := by omega
  have e1 : ∀ k, factsP.l1 (k + 1) x3 x7 x8 (c : Int) (i : Int) (ob l) pred acc = _ := fun k => by rw [factsP.l1, if_pos (by omega), ei]
  refine Ev.congr e1 ?_
  clear e1
  cases l with
  | nil =>
    rw [h0 rfl]
    exact Ev.bindPn (pt_no [] 1 (by simp) 1 rfl)
  | cons t r =>
    refine Ev.bindPs (pt_yes (t :: r) 1 (by simp) 1 rfl) ?_
    have ht : (ob (List.take 1 (t :: r))).toList = [t] := ob_toList [t]
    by_cases t1 : t = 78
    · refine Ev.iteT (ht.trans (by rw [t1])) ?_
      by_cases h8 : 8 ≤ r.length
      · have e8 : (ob (r.take 8)).size = 8 := by rw [ob_size, List.length_take]; omega
        have hg := get64_ev _ e8
        rw [lb_ob] at hg
        refine Ev.bindPs (pt_yes r 8 h8 8 rfl) (Ev.bind hg (Ev.iteT ha2 ?_))
        exact h1 _ _ (by simp only [sV, sNum]; rw [if_pos t1, if_pos h8])
      · rw [h0 (by simp only [sV, sNum]; rw [if_pos t1, if_neg h8])]
        exact Ev.bindPn (pt_no r 8 h8 8 rfl)
    · refine Ev.iteF (fun h => t1 (by have := ht.symm.trans h; simpa using this)) ?_
      by_cases t2 : t = 84
      · refine Ev.iteT (ht.trans (by rw [t2])) ?_
        cases r with
        | nil =>
          rw [h0 (by simp only [sV, sTxt]; rw [if_neg t1, if_pos t2])]
          exact Ev.bindPn (pt_no [] 1 (by simp) 1 rfl)
        | cons n q =>
          have hnn := n.toNat_lt
          have hz : (0 : Int) < ((ob (List.take 1 (n :: q))).size : Int) := by rw [ob_size]; simp
          have hw : wrap64 (bt (ob (List.take 1 (n :: q))) 0) = (n.toNat : Int) := (congrArg wrap64 (bt_one n)).trans (w64 _ (by omega) (by omega))
          refine Ev.bindPs (pt_yes (n :: q) 1 (by simp) 1 rfl) (Ev.iteT hz ?_)
          by_cases hq : n.toNat ≤ q.length
          · refine Ev.bindPs (pt_yes q n.toNat hq _ hw) (Ev.iteT ha2 ?_)
            exact h1 _ _ (by simp only [sV, sTxt]; rw [if_neg t1, if_pos t2, if_pos hq])
          · rw [h0 (by simp only [sV, sTxt]; rw [if_neg t1, if_pos t2, if_neg hq])]
            exact Ev.bindPn (pt_no q n.toNat hq _ hw)
      · refine Ev.iteF (fun h => t2 (by have := ht.symm.trans h; simpa using this)) ?_
        rw [h0 (by simp only [sV]; rw [if_neg t1, if_neg t2])]
        exact Ev.const rfl
theorem args_ev (x3 : List S90) (h3 : x3.length < 3518437208883) (pred : ByteArray) (x7 x8 : Int) (c : Nat) (hc : c ≤ 255) (v : PF) (m : Nat) : ∀ (i : Nat) (l : Bs) (acc : List S85), i + m = c → acc.length = i →
    (sA sV m l acc = none → v = none) → (∀ az r, sA sV m l acc = some (az, r) → Ev (fun k => factsP.l0 k (x3 ++ [⟨pred, az⟩]) x7 ((x8 + 1) % 4294967296) (ob r)) v) →
    Ev (fun k => factsP.l1 k x3 x7 x8 (c : Int) (i : Int) (ob l) pred acc) v := by
  induction m with
  | zero =>
    intro i l acc hi ha hn hs
    have := args_end x3 h3 pred x7 x8 c l acc v (hs acc l rfl)
    rw [show i = c by omega]
    exact this
  | succ m ih =>
    intro i l acc hi ha hn hs
    refine args_step x3 pred x7 x8 c i hc (by omega) l acc ha v (fun e => hn (by simp only [sA, e])) (fun a r e => ?_)
    have eA : sA sV (m + 1) l acc = sA sV m r (acc ++ [a]) := by simp only [sA, e]
    rw [eA] at hn hs
    exact ih (i + 1) r _ (by omega) (by simp; omega) hn hs
theorem facts_step (c i : Nat) (hc : c < 4294967296) (hi : i < c) (l : Bs) (acc : List S90) (ha : acc.length = i) (v : PF)
    (h0 : sF sV l = none → v = none) (h1 : ∀ f r, sF sV l = some (f, r) → Ev (fun k => factsP.l0 k (acc ++ [f]) (c : Int) ((i + 1 : Nat) : Int) (ob r)) v) :
    Ev (fun k => factsP.l0 k acc (c : Int) (i : Int) (ob l)) v := by
  have ha2 : acc.length < 3518437208883 := by omega
  have ei : ((i : Int) + 1) % 4294967296 = ((i + 1 : Nat) : Int) := by omega
  apply Ev.succ
  have e1 : ∀ k, factsP.l0 (k + 1) acc (c : Int) (i : Int) (ob l) = _ := fun k => by rw [factsP.l0, if_pos (by omega)]
  refine Ev.congr e1 ?_
  clear e1
  cases l with
  | nil =>
    rw [h0 rfl]
    exact Ev.bindPn (pt_no [] 1 (by simp) 1 rfl)
  | cons n q =>
    have hnn := n.toNat_lt
    have hz : (0 : Int) < ((ob (List.take 1 (n :: q))).size : Int) := by rw [ob_size]; simp
    have hw : wrap64 (bt (ob (List.take 1 (n :: q))) 0) = (n.toNat : Int) := (congrArg wrap64 (bt_one n)).trans (w64 _ (by omega) (by omega))
    refine Ev.bindPs (pt_yes (n :: q) 1 (by simp) 1 rfl) (Ev.iteT hz ?_)
    by_cases hq : n.toNat ≤ q.length
    · refine Ev.bindPs (pt_yes q n.toNat hq _ hw) ?_
      cases hd : q.drop n.toNat with
      | nil =>
        rw [h0 (by simp only [sF]; rw [if_pos hq, hd])]
        exact Ev.bindPn (pt_no [] 1 (by simp) 1 rfl)
      | cons a z =>
        have haa := a.toNat_lt
        have hza : (0 : Int) < ((ob (List.take 1 (a :: z))).size : Int) := by rw [ob_size]; simp
        have hwa : bt (ob (List.take 1 (a :: z))) 0 = (a.toNat : Int) := bt_one a
        refine Ev.bindPs (pt_yes (a :: z) 1 (by simp) 1 rfl) (Ev.iteT hza ?_)
        have := args_ev acc ha2 (ob (q.take n.toNat)) (c : Int) (i : Int) a.toNat (by omega) v a.toNat 0 z [] (by omega) rfl
          (fun e => h0 (by simp only [sF]; rw [if_pos hq, hd]; simp only [e]))
          (fun az r e => by
            rw [ei]
            exact h1 _ _ (by simp only [sF]; rw [if_pos hq, hd]; simp only [e]))
        rw [← hwa] at this
        exact this
    · rw [h0 (by simp only [sF]; rw [if_neg hq])]
      exact Ev.bindPn (pt_no q n.toNat hq _ hw)
theorem facts_loop (c : Nat) (hc : c < 4294967296) (v : PF) (m : Nat) : ∀ (i : Nat) (l : Bs) (acc : List S90), i + m = c → acc.length = i →
    (sN sV m l acc = none → v = none) → (∀ fs r, sN sV m l acc = some (fs, r) → Ev (fun k => (journal_rising.f k fs).bind fun t => if t = true then some (some (fs, ob r)) else some none) v) →
    Ev (fun k => factsP.l0 k acc (c : Int) (i : Int) (ob l)) v := by
  induction m with
  | zero =>
    intro i l acc hi ha hn hs
    refine Ev.succ (Ev.congr (fun k => ?_) (hs acc l rfl))
    rw [factsP.l0, if_neg (by omega)]
  | succ m ih =>
    intro i l acc hi ha hn hs
    refine facts_step c i hc (by omega) l acc ha v (fun e => hn (by simp only [sN, e])) (fun a r e => ?_)
    have eA : sN sV (m + 1) l acc = sN sV m r (acc ++ [a]) := by simp only [sN, e]
    rw [eA] at hn hs
    exact ih (i + 1) r _ (by omega) (by simp; omega) hn hs
theorem factsP_ev (ris : List S90 → Bool) (hr : ∀ fs : List S90, (∀ f ∈ fs, okF f) → fs.length < 4294967296 → Ev (fun k => journal_rising.f k fs) (ris fs)) (l : Bs) :
    Ev (fun k => factsP.f k (ob l)) (match sFs sV l with | none => none | some (fs, r) => if ris fs = true then some (fs, ob r) else none) := by
  unfold factsP.f
  by_cases h4 : 4 ≤ l.length
  · have e4 : (ob (l.take 4)).size = 4 := by rw [ob_size, List.length_take]; omega
    have hg := get32_ev _ e4
    rw [lb_ob] at hg
    refine Ev.bindPs (pt_yes l 4 h4 4 rfl) (Ev.bind hg ?_)
    have hlt := leN_lt (l.take 4)
    rw [List.length_take, Nat.min_eq_left h4] at hlt
    have eF : sFs sV l = sN sV (leN (l.take 4)) (l.drop 4) [] := by unfold sFs; rw [if_pos h4]
    refine facts_loop _ (by omega) _ (leN (l.take 4)) 0 (l.drop 4) [] (by omega) rfl ?_ ?_
    · intro e
      rw [eF, e]
    · intro fs r e
      rw [eF, e]
      have hi := sFs_inv (eF.trans e)
      refine Ev.bind (hr fs hi.2.1 hi.2.2.1) ?_
      dsimp only
      cases ris fs with
      | true => exact Ev.const rfl
      | false => exact Ev.const rfl
  · unfold sFs
    rw [if_neg h4]
    exact Ev.bindPn (pt_no l 4 h4 4 rfl)
abbrev RV := Int × Int × ByteArray × ByteArray × Bool
theorem readValue_ev (l : Bs) : (∀ v r, lV l = some (v, r) → Ev (fun k => pedigreeref29_readValue.f k (ob l)) (v.f0, v.f1, v.f2, ob r, true)) ∧ (lV l = none → ∃ z : RV, z.2.2.2.2 = false ∧ Ev (fun k => pedigreeref29_readValue.f k (ob l)) z) := by
  have j84 : ∀ (q : Bs) (n : Nat) (h : n ≤ q.length) (m : Int) (hm : m = (n : Int)), Ev (fun k => pedigreeref29_readValue.j0 k (ob q) (⟨#[84]⟩ : ByteArray) m) (2, 0, ob (q.take n), ob (q.drop n), true) := fun q n h m hm => by
    refine Ev.succ (Ev.congr (fun k => ?_) (Ev.const (o := some _) rfl))
    rw [pedigreeref29_readValue.j0, lt_yes q n h m hm, Option.bind_some, if_pos (show (⟨#[84]⟩ : ByteArray).toList = [84] from ob_toList [84])]
  have j84n : ∀ (q : Bs) (n : Nat) (h : ¬ n ≤ q.length) (m : Int) (hm : m = (n : Int)), Ev (fun k => pedigreeref29_readValue.j0 k (ob q) (⟨#[84]⟩ : ByteArray) m) (2, 0, ⟨#[]⟩, ⟨#[]⟩, false) := fun q n h m hm => by
    refine Ev.succ (Ev.congr (fun k => ?_) (Ev.const (o := some _) rfl))
    rw [pedigreeref29_readValue.j0, lt_no q n h m hm, Option.bind_some, if_pos (show (⟨#[84]⟩ : ByteArray).toList = [84] from ob_toList [84])]
  cases l with
  | nil =>
    refine ⟨fun v r h => by simp [lV] at h, fun _ => ⟨(0, 0, ⟨#[]⟩, ⟨#[]⟩, false), rfl, ?_⟩⟩
    unfold pedigreeref29_readValue.f
    rw [lt_no [] 1 (by simp) 1 rfl]
    exact Ev.const rfl
  | cons t r =>
    unfold pedigreeref29_readValue.f
    have ht : (ob (List.take 1 (t :: r))).toList = [t] := ob_toList [t]
    have h1 := lt_yes (t :: r) 1 (by simp) 1 rfl
    by_cases t2 : t = 84
    · have ht2 : (ob (List.take 1 (t :: r))).toList = [84] := ht.trans (by rw [t2])
      cases r with
      | nil =>
        refine ⟨fun v r h => by simp [lV, t2, sTxt] at h, fun _ => ⟨(0, 0, ⟨#[]⟩, ⟨#[]⟩, false), rfl, ?_⟩⟩
        exact Ev.bind (Ev.const h1) (Ev.iteT rfl (Ev.iteT ht2 (Ev.bind (Ev.const (lt_no [] 1 (by simp) 1 rfl)) (Ev.iteF (by decide) (Ev.const rfl)))))
      | cons n q =>
        have hnn := n.toNat_lt
        have h2 := lt_yes (n :: q) 1 (by simp) 1 rfl
        have hz : (0 : Int) < ((ob (List.take 1 (n :: q))).size : Int) := by rw [ob_size]; simp
        have hw : wrap64 (bt (ob (List.take 1 (n :: q))) 0) = (n.toNat : Int) := (congrArg wrap64 (bt_one n)).trans (w64 _ (by omega) (by omega))
        by_cases hq : n.toNat ≤ q.length
        · refine ⟨fun v r h => ?_, fun h => by simp [lV, t2, sTxt, hq] at h⟩
          simp only [lV, sTxt] at h
          rw [if_pos t2, if_pos hq] at h
          cases h
          exact Ev.bind (Ev.const h1) (Ev.iteT rfl (Ev.iteT ht2 (Ev.bind (Ev.const h2) (Ev.iteT rfl (Ev.iteT hz (j84 q n.toNat hq _ hw))))))
        · refine ⟨fun v r h => by simp [lV, t2, sTxt, hq] at h, fun _ => ⟨(2, 0, ⟨#[]⟩, ⟨#[]⟩, false), rfl, ?_⟩⟩
          exact Ev.bind (Ev.const h1) (Ev.iteT rfl (Ev.iteT ht2 (Ev.bind (Ev.const h2) (Ev.iteT rfl (Ev.iteT hz (j84n q n.toNat hq _ hw))))))
    · have hne : ¬ (ob (List.take 1 (t :: r))).toList = [84] := fun h => t2 (by have := ht.symm.trans h; simpa using this)
      by_cases h8 : 8 ≤ r.length
      · refine ⟨fun v r' h => ?_, fun h => by simp [lV, t2, sNum, h8] at h⟩
        simp only [lV, sNum] at h
        rw [if_neg t2, if_pos h8] at h
        cases h
        refine Ev.bind (Ev.const h1) (Ev.iteT rfl (Ev.iteF hne (Ev.succ ?_)))
        have e8 : (ob (r.take 8)).size = 8 := by rw [ob_size, List.length_take]; omega
        have hg := Number_ev _ (Nat.le_of_eq e8)
        rw [lb_ob] at hg
        have ee : ∀ k, pedigreeref29_readValue.j0 (k + 1) (ob r) (ob (List.take 1 (t :: r))) 8 = _ := fun k => by
          rw [pedigreeref29_readValue.j0]
        exact Ev.congr ee (Ev.bind (Ev.const (lt_yes r 8 h8 8 rfl)) (Ev.iteF hne (Ev.bind hg (Ev.const rfl))))
      · refine ⟨fun v r h => by simp [lV, t2, sNum, h8] at h, fun _ => ⟨(1, wrap64 0, ⟨#[]⟩, ⟨#[]⟩, false), rfl, ?_⟩⟩
        refine Ev.bind (Ev.const h1) (Ev.iteT rfl (Ev.iteF hne (Ev.succ ?_)))
        have hg : Ev (fun k => pedigreeref29_Number.f k (⟨#[]⟩ : ByteArray)) 0 := Number_ev (⟨#[]⟩ : ByteArray) (by decide)
        have ee : ∀ k, pedigreeref29_readValue.j0 (k + 1) (ob r) (ob (List.take 1 (t :: r))) 8 = _ := fun k => by
          rw [pedigreeref29_readValue.j0]
        exact Ev.congr ee (Ev.bind (Ev.const (lt_no r 8 h8 8 rfl)) (Ev.iteF hne (Ev.bind hg (Ev.const rfl))))
abbrev RF := ByteArray × (List S85) × ByteArray × Bool
theorem readArgs_step (c : UInt8) (pred : ByteArray) (i : Nat) (hi : i < c.toNat) (l : Bs) (acc : List S85) (ha : acc.length = i) (v : RF)
    (h0 : lV l = none → v = (⟨#[]⟩, [], ⟨#[]⟩, false)) (h1 : ∀ a r, lV l = some (a, r) → Ev (fun k => pedigreeref29_readFact.l0 k (ob r) (ob [c]) ((i + 1 : Nat) : Int) pred (acc ++ [a])) v) :
    Ev (fun k => pedigreeref29_readFact.l0 k (ob l) (ob [c]) (i : Int) pred acc) v := by
  have hcc := c.toNat_lt
  have ha2 : acc.length < 4398046511104 := by omega
  have ei : wrap64 ((i : Int) + 1) = ((i + 1 : Nat) : Int) := by rw [w64] <;> omega
  apply Ev.succ
  have e1 : ∀ k, pedigreeref29_readFact.l0 (k + 1) (ob l) (ob [c]) (i : Int) pred acc = _ := fun k => by
    rw [pedigreeref29_readFact.l0, ob_size, if_pos (by simp), bt_one, w64 _ (by omega) (by omega), if_pos (by omega), ei]
  refine Ev.congr e1 ?_
  clear e1
  obtain ⟨hs, hn⟩ := readValue_ev l
  cases hv : lV l with
  | none =>
    obtain ⟨z, hz, hz2⟩ := hn hv
    rw [h0 hv]
    exact Ev.bind hz2 (Ev.iteF (by rw [hz]; decide) (Ev.const rfl))
  | some p =>
    obtain ⟨v, r⟩ := p
    exact Ev.bind (hs v r hv) (Ev.iteT rfl (Ev.iteT ha2 (h1 v r hv)))
theorem readArgs_ev (c : UInt8) (pred : ByteArray) (m : Nat) : ∀ (i : Nat) (l : Bs) (acc : List S85), i + m = c.toNat → acc.length = i →
    Ev (fun k => pedigreeref29_readFact.l0 k (ob l) (ob [c]) (i : Int) pred acc) (match sA lV m l acc with | none => (⟨#[]⟩, [], ⟨#[]⟩, false) | some (az, r) => (pred, az, ob r, true)) := by
  have hcc := c.toNat_lt
  induction m with
  | zero =>
    intro i l acc hi ha
    refine Ev.succ (Ev.congr (fun k => ?_) (Ev.const (o := some _) rfl))
    rw [pedigreeref29_readFact.l0, ob_size, if_pos (by simp), bt_one, w64 _ (by omega) (by omega), if_neg (by omega)]
    rfl
  | succ m ih =>
    intro i l acc hi ha
    refine readArgs_step c pred i (by omega) l acc ha _ (fun e => by simp only [sA, e]) (fun a r e => ?_)
    simp only [sA, e]
    exact ih (i + 1) r _ (by omega) (by simp; omega)
theorem readFact_ev (l : Bs) : Ev (fun k => pedigreeref29_readFact.f k (ob l)) (match sF lV l with | none => (⟨#[]⟩, [], ⟨#[]⟩, false) | some (f, r) => (f.f0, f.f1, ob r, true)) := by
  unfold pedigreeref29_readFact.f
  cases l with
  | nil => exact Ev.bind (Ev.const (lt_no [] 1 (by simp) 1 rfl)) (Ev.iteF (by decide) (Ev.const rfl))
  | cons n q =>
    have hnn := n.toNat_lt
    have hz : (0 : Int) < ((ob (List.take 1 (n :: q))).size : Int) := by rw [ob_size]; simp
    have hw : wrap64 (bt (ob (List.take 1 (n :: q))) 0) = (n.toNat : Int) := (congrArg wrap64 (bt_one n)).trans (w64 _ (by omega) (by omega))
    refine Ev.bind (Ev.const (lt_yes (n :: q) 1 (by simp) 1 rfl)) (Ev.iteT rfl (Ev.iteT hz ?_))
    simp only [sF]
    by_cases hq : n.toNat ≤ q.length
    · rw [if_pos hq]
      refine Ev.bind (Ev.const (lt_yes q n.toNat hq _ hw)) (Ev.iteT rfl ?_)
      cases hd : q.drop n.toNat with
      | nil => exact Ev.bind (Ev.const (lt_no [] 1 (by simp) 1 rfl)) (Ev.iteF (by decide) (Ev.const rfl))
      | cons a z =>
        refine Ev.bind (Ev.const (lt_yes (a :: z) 1 (by simp) 1 rfl)) (Ev.iteT rfl ?_)
        have h := readArgs_ev a (ob (q.take n.toNat)) a.toNat 0 z [] (by omega) rfl
        show Ev _ ((match (match sA lV a.toNat z [] with | none => none | some (az, z) => some ((⟨ob (q.take n.toNat), az⟩ : S90), z)) with | none => (⟨#[]⟩, [], ⟨#[]⟩, false) | some (f, r) => (f.f0, f.f1, ob r, true)) : RF)
        cases hA : sA lV a.toNat z [] with
        | none => rw [hA] at h; exact h
        | some p => rw [hA] at h; exact h
    · rw [if_neg hq]
      exact Ev.bind (Ev.const (lt_no q n.toNat hq _ hw)) (Ev.iteF (by decide) (Ev.const rfl))
theorem rfl_step (x5 : ByteArray) (h5 : x5.size = 4) (i : Nat) (l : Bs) (acc : List S90) (hi : i < leN (lb x5)) (ha : acc.length = i) (v : (List S90) × ByteArray × Bool)
    (h0 : sF lV l = none → v = ([], ⟨#[]⟩, false)) (h1 : ∀ f r, sF lV l = some (f, r) → Ev (fun k => pedigreeref29_ReadFacts.l0 k (ob r) x5 (acc ++ [f]) ((i + 1 : Nat) : Int)) v) :
    Ev (fun k => pedigreeref29_ReadFacts.l0 k (ob l) x5 acc (i : Int)) v := by
  have hN := Number_ev x5 (by omega)
  have hlt := leN_lt (lb x5)
  rw [lb_len, h5] at hlt
  have hlt2 : leN (lb x5) < 4294967296 := hlt
  clear hlt
  apply Ev.succ
  have hf := readFact_ev l
  have e1 : ∀ k, pedigreeref29_ReadFacts.l0 (k + 1) (ob l) x5 acc (i : Int) = _ := fun k => by rw [pedigreeref29_ReadFacts.l0]
  refine Ev.congr e1 (Ev.bind hN (Ev.iteT (by omega) ?_))
  cases hF : sF lV l with
  | none =>
    rw [hF] at hf
    rw [h0 hF]
    exact Ev.bind hf (Ev.iteF (by decide) (Ev.const rfl))
  | some p =>
    obtain ⟨f, r⟩ := p
    rw [hF] at hf
    have h2 := h1 f r hF
    have ha2 : acc.length < 3518437208883 := by omega
    refine Ev.bind hf (Ev.iteT rfl (Ev.iteT ha2 ?_))
    rw [wraps_u64 _ (by omega) (by omega)]
    exact h2
theorem readFacts_loop (x5 : ByteArray) (h5 : x5.size = 4) (m : Nat) : ∀ (i : Nat) (l : Bs) (acc : List S90), i + m = leN (lb x5) → acc.length = i →
    Ev (fun k => pedigreeref29_ReadFacts.l0 k (ob l) x5 acc (i : Int)) (match sN lV m l acc with | none => ([], ⟨#[]⟩, false) | some (fs, r) => (fs, ob r, true)) := by
  induction m with
  | zero =>
    intro i l acc hi ha
    have hN := Number_ev x5 (by omega)
    apply Ev.succ
    have e1 : ∀ k, pedigreeref29_ReadFacts.l0 (k + 1) (ob l) x5 acc (i : Int) = _ := fun k => by rw [pedigreeref29_ReadFacts.l0]
    exact Ev.congr e1 (Ev.bind hN (Ev.iteF (by omega) (Ev.const rfl)))
  | succ m ih =>
    intro i l acc hi ha
    refine rfl_step x5 h5 i l acc (by omega) ha _ (fun e => by simp only [sN, e]) (fun f r e => ?_)
    simp only [sN, e]
    exact ih (i + 1) r _ (by omega) (by simp; omega)
theorem ReadFacts_ev (l : Bs) : Ev (fun k => pedigreeref29_ReadFacts.f k (ob l)) (match sFs lV l with | none => ([], ⟨#[]⟩, false) | some (fs, r) => (fs, ob r, true)) := by
  unfold pedigreeref29_ReadFacts.f sFs
  by_cases h4 : 4 ≤ l.length
  · rw [if_pos h4]
    have e4 : (ob (l.take 4)).size = 4 := by rw [ob_size, List.length_take]; omega
    refine Ev.bind (Ev.const (lt_yes l 4 h4 4 rfl)) (Ev.iteT rfl ?_)
    exact readFacts_loop (ob (l.take 4)) e4 (leN (l.take 4)) 0 (l.drop 4) [] (by rw [lb_ob]; omega) rfl
  · rw [if_neg h4]
    exact Ev.bind (Ev.const (lt_no l 4 h4 4 rfl)) (Ev.iteF (by decide) (Ev.const rfl))
end Go.Proofs.J.Pure
end
section
namespace Go.Proofs.J.Pure
open Go.RowKit Go.Proofs.J.Print Go.Proofs.PrintWords Go.Proofs.PrintLast Go.Proofs.PrintMore
def frL (x : Bs) : Bs := leB 4 x.length ++ (tur (leB 4 x.length) ++ (x ++ leB 2 (crcL x)))
theorem frL_len (x : Bs) : (frL x).length = 10 + x.length := by
  unfold frL
  simp only [List.length_append, leB_len, tur_len]
  omega
theorem app_take {a : Type} (x y : List a) {n : Nat} (h : x.length = n) : (x ++ y).take n = x := by
  rw [List.take_append_of_le_length (by omega), List.take_of_length_le (by omega)]
theorem app_drop {a : Type} (x y : List a) {n : Nat} (h : x.length = n) : (x ++ y).drop n = y := by
  rw [List.drop_append_of_le_length (by omega), List.drop_of_length_le (by omega)]; rfl
theorem bodyOf_frL (x r : Bs) (h : x.length ≤ 16777216) : bodyOf (frL x ++ r) = some x := by
  have hl := frL_len x
  have e0 : frL x ++ r = leB 4 x.length ++ (tur (leB 4 x.length) ++ (x ++ (leB 2 (crcL x) ++ r))) := by unfold frL; simp [List.append_assoc]
  have t4 : (frL x ++ r).take 4 = leB 4 x.length := by rw [e0]; exact app_take _ _ (leB_len _ _)
  have d4 : (frL x ++ r).drop 4 = tur (leB 4 x.length) ++ (x ++ (leB 2 (crcL x) ++ r)) := by rw [e0]; exact app_drop _ _ (leB_len _ _)
  have d8 : (frL x ++ r).drop 8 = x ++ (leB 2 (crcL x) ++ r) := by
    rw [show (8 : Nat) = 4 + 4 by omega, ← List.drop_drop, d4]
    exact app_drop _ _ (by rw [tur_len, leB_len])
  have dn : (frL x ++ r).drop (8 + x.length) = leB 2 (crcL x) ++ r := by
    rw [← List.drop_drop, d8]
    exact app_drop _ _ rfl
  have hN : leN (leB 4 x.length) = x.length := by rw [leN_leB, Nat.mod_eq_of_lt (by omega)]
  unfold bodyOf
  rw [if_pos (by rw [List.length_append]; omega), t4, d4, app_take _ _ (show (tur (leB 4 x.length)).length = 4 by rw [tur_len, leB_len]), if_pos rfl, hN, if_pos h, if_pos (by rw [List.length_append]; omega), d8, dn, app_take _ _ rfl, app_take _ _ (leB_len _ _), if_pos rfl]
theorem bodyOf_inv {l x : Bs} (h : bodyOf l = some x) : l = frL x ++ l.drop (10 + x.length) := by
  have hle := bodyOf_le h
  unfold bodyOf at h
  split at h
  · rename_i h10
    split at h
    · rename_i ht
      split at h
      · rename_i hn
        split at h
        · rename_i hl
          split at h
          · rename_i hc
            have hx : ((l.drop 8).take (leN (l.take 4))).length = leN (l.take 4) := by rw [List.length_take, List.length_drop]; omega
            generalize hX : (l.drop 8).take (leN (l.take 4)) = X at *
            have hxx : X = x := Option.some.inj h
            subst hxx
            have e4 : (l.take 4).length = 4 := by rw [List.length_take]; omega
            have hB := leB_leN (l.take 4)
            rw [e4, ← hx] at hB
            unfold frL
            rw [hB, ht, hc, ← hx]
            have e1 : l = l.take 4 ++ l.drop 4 := (List.take_append_drop 4 l).symm
            have e2 : l.drop 4 = (l.drop 4).take 4 ++ l.drop 8 := by
              have := (List.take_append_drop 4 (l.drop 4)).symm
              rwa [List.drop_drop] at this
            have e3 : l.drop 8 = X ++ l.drop (8 + X.length) := by
              have this2 := (List.take_append_drop (leN (l.take 4)) (l.drop 8)).symm
              rw [List.drop_drop, hX, ← hx] at this2
              exact this2
            have e5 : l.drop (8 + X.length) = (l.drop (8 + X.length)).take 2 ++ l.drop (10 + X.length) := by
              have := (List.take_append_drop 2 (l.drop (8 + X.length))).symm
              rwa [List.drop_drop, show 8 + X.length + 2 = 10 + X.length by omega] at this
            simp only [List.append_assoc]
            rw [← e5, ← e3, ← e2, ← e1]
          · cases h
        · cases h
      · cases h
    · cases h
  · cases h
theorem drop_rd85 (l : List S85) (i : Nat) (h : i < l.length) : l.drop i = rd_T85 l i :: l.drop (i + 1) := by
  unfold rd_T85
  rw [Int.toNat_natCast, List.drop_eq_getElem_cons h, List.getD_eq_getElem?_getD, List.getElem?_eq_getElem h]
  rfl
theorem drop_rd90 (l : List S90) (i : Nat) (h : i < l.length) : l.drop i = rd_T90 l i :: l.drop (i + 1) := by
  unfold rd_T90
  rw [Int.toNat_natCast, List.drop_eq_getElem_cons h, List.getD_eq_getElem?_getD, List.getElem?_eq_getElem h]
  rfl
theorem Bytes1_ev (n : Nat) (h : n < 18446744073709551616) : Ev (fun k => pedigreeref29_Bytes.f k (IntKind.u64.wrap (n : Int)) 1) (ob (leB 1 n)) := by
  rw [wraps_u64 _ (by omega) (by omega)]
  exact Bytes_ev n 1 (by omega) h
theorem fbl_step (pred : ByteArray) (args : List S85) (i : Nat) (hi : i < args.length) (x3 : Bs) (hx : x3.length + (encV (rd_T85 args i)).length ≤ 4611686018427387904) (v : ByteArray)
    (h : Ev (fun k => pedigreeref29_factBytes.l0 k (ob (x3 ++ encV (rd_T85 args i))) (wrap64 ((i : Int) + 1)) pred args) v) :
    Ev (fun k => pedigreeref29_factBytes.l0 k (ob x3) (i : Int) pred args) v := by
  apply Ev.succ
  have e1 : ∀ k, pedigreeref29_factBytes.l0 (k + 1) (ob x3) (i : Int) pred args = _ := fun k => by rw [pedigreeref29_factBytes.l0, if_pos (by omega), if_pos (by omega)]
  refine Ev.congr e1 ?_
  clear e1
  have hs := ob_size x3
  unfold encV at hx h
  by_cases c : (rd_T85 args i).f0 = 1
  · rw [if_pos c] at hx h
    simp only [List.length_cons, leB_len] at hx
    refine Ev.iteT c (Ev.iteT (by omega) ?_)
    have hb := Bytes_ev (u64n (rd_T85 args i).f1) 8 (by omega) (u64n_lt _)
    rw [u64n_cast] at hb
    refine Ev.bind hb (Ev.iteT ?_ ?_)
    · rw [ByteArray.size_append, ob_size, ob_size, leB_len, show (⟨#[78]⟩ : ByteArray).size = 1 from rfl]; omega
    · have e : ob x3 ++ (⟨#[78]⟩ : ByteArray) ++ ob (leB 8 (u64n (rd_T85 args i).f1)) = ob (x3 ++ 78 :: leB 8 (u64n (rd_T85 args i).f1)) := by
        apply lb_inj; rw [lb_append, lb_append, lb_ob, lb_ob, lb_ob]; show x3 ++ [78] ++ _ = _; simp
      rw [e]
      exact h
  · rw [if_neg c] at hx h
    simp only [List.length_cons, List.length_append, leB_len, lb_len] at hx
    refine Ev.iteF c (Ev.iteT (by omega) ?_)
    refine Ev.bind (Bytes1_ev (rd_T85 args i).f2.size (by omega)) (Ev.iteT ?_ (Ev.iteT ?_ ?_))
    · rw [ByteArray.size_append, ob_size, ob_size, leB_len, show (⟨#[84]⟩ : ByteArray).size = 1 from rfl]; omega
    · rw [ByteArray.size_append, ByteArray.size_append, ob_size, ob_size, leB_len, show (⟨#[84]⟩ : ByteArray).size = 1 from rfl]; omega
    · have e : ob x3 ++ (⟨#[84]⟩ : ByteArray) ++ ob (leB 1 (rd_T85 args i).f2.size) ++ (rd_T85 args i).f2 = ob (x3 ++ 84 :: (leB 1 (rd_T85 args i).f2.size ++ lb (rd_T85 args i).f2)) := by
        apply lb_inj; rw [lb_append, lb_append, lb_append, lb_ob, lb_ob, lb_ob]; show x3 ++ [84] ++ _ ++ _ = _; simp
      rw [e]
      exact h
theorem fbl_ev (pred : ByteArray) (args : List S85) (hA : args.length ≤ 4611686018427387904) (m : Nat) : ∀ (i : Nat) (x3 : Bs), i + m = args.length → x3.length + ((args.drop i).flatMap encV).length ≤ 4611686018427387904 →
    Ev (fun k => pedigreeref29_factBytes.l0 k (ob x3) (i : Int) pred args) (ob (x3 ++ (args.drop i).flatMap encV)) := by
  induction m with
  | zero =>
    intro i x3 hi hx
    refine Ev.succ (Ev.congr (fun k => ?_) (Ev.const (o := some _) rfl))
    rw [pedigreeref29_factBytes.l0, if_neg (by omega), List.drop_of_length_le (by omega)]
    simp
  | succ m ih =>
    intro i x3 hi hx
    have hd := drop_rd85 args i (by omega)
    rw [hd, List.flatMap_cons, List.length_append] at hx
    rw [hd, List.flatMap_cons, ← List.append_assoc]
    refine fbl_step pred args i (by omega) x3 (by omega) _ ?_
    rw [w64 _ (by omega) (by omega)]
    exact ih (i + 1) _ (by omega) (by rw [List.length_append]; omega)
theorem flatV_len (l : List S85) : l.length ≤ (l.flatMap encV).length := by
  induction l with
  | nil => simp
  | cons v l ih =>
    rw [List.flatMap_cons, List.length_append, List.length_cons]
    have : 1 ≤ (encV v).length := by unfold encV; split <;> simp
    omega
theorem factBytes_ev (f : S90) (h : (encF f).length ≤ 4611686018427387904) : Ev (fun k => pedigreeref29_factBytes.f k f.f0 f.f1) (ob (encF f)) := by
  unfold encF at h ⊢
  simp only [List.length_append, leB_len, lb_len] at h
  have hl := flatV_len f.f1
  unfold pedigreeref29_factBytes.f
  refine Ev.bind (Bytes1_ev f.f0.size (by omega)) (Ev.iteT (by rw [ob_size, leB_len]; omega) (Ev.bind (Bytes1_ev f.f1.length (by omega)) (Ev.iteT (by rw [ByteArray.size_append, ob_size, ob_size, leB_len, leB_len]; omega) ?_)))
  have e : ob (leB 1 f.f0.size) ++ f.f0 ++ ob (leB 1 f.f1.length) = ob (leB 1 f.f0.size ++ (lb f.f0 ++ leB 1 f.f1.length)) := by
    apply lb_inj; rw [lb_append, lb_append, lb_ob, lb_ob, lb_ob, List.append_assoc]
  rw [e]
  have h2 := fbl_ev f.f0 f.f1 (by omega) f.f1.length 0 (leB 1 f.f0.size ++ (lb f.f0 ++ leB 1 f.f1.length)) (by omega) (by simp only [List.length_append, leB_len, lb_len, List.drop_zero]; omega)
  rw [List.drop_zero] at h2
  simp only [List.append_assoc] at h2
  exact h2
def bn (l : Bs) : List Int := l.map fun b => (b.toNat : Int)
theorem bytesOf_ob (l : Bs) : bytesOf (ob l) = bn l := rfl
theorem bn_append (a b : Bs) : bn (a ++ b) = bn a ++ bn b := by simp [bn]
theorem bn_len (a : Bs) : (bn a).length = a.length := by simp [bn]
theorem str_bn (l : Bs) : strOfNums (bn l) = ob l := by
  apply lb_inj
  rw [lb_nums, lb_ob, bn, List.map_map]
  exact (List.map_congr_left (fun x _ => by simp)).trans (List.map_id l)
theorem go_ev (xs : List S90) : ∀ out : Bs, out.length + (xs.flatMap encF).length ≤ 140737488355328 → Ev (fun k => pedigreeref29_Facts.go k xs (bn out)) (bn (out ++ xs.flatMap encF)) := by
  induction xs with
  | nil =>
    intro out h
    exact Ev.const (by simp [pedigreeref29_Facts.go])
  | cons x xs ih =>
    intro out h
    rw [List.flatMap_cons, List.length_append] at h
    have e1 : ∀ k, pedigreeref29_Facts.go k (x :: xs) (bn out) = (pedigreeref29_factBytes.f k x.f0 x.f1).bind fun s => if (bn out).length + s.size ≤ 140737488355328 then pedigreeref29_Facts.go k xs (bn out ++ bytesOf s) else none := fun k => by rw [pedigreeref29_Facts.go]
    refine Ev.congr e1 (Ev.bind (factBytes_ev x (by omega)) (Ev.iteT (by rw [bn_len, ob_size]; omega) ?_))
    rw [bytesOf_ob, ← bn_append, List.flatMap_cons, ← List.append_assoc]
    exact ih _ (by rw [List.length_append]; omega)
theorem flatF_len (l : List S90) : l.length ≤ (l.flatMap encF).length := by
  induction l with
  | nil => simp
  | cons v l ih =>
    rw [List.flatMap_cons, List.length_append, List.length_cons]
    have : 1 ≤ (encF v).length := by unfold encF; simp only [List.length_append, leB_len]; omega
    omega
theorem Facts_ev (l : List S90) (h : (encFs l).length ≤ 140737488355328) : Ev (fun k => pedigreeref29_Facts.f k l) (ob (encFs l)) := by
  unfold encFs at h ⊢
  rw [List.length_append, leB_len] at h
  have hl := flatF_len l
  unfold pedigreeref29_Facts.f
  have hb := Bytes_ev l.length 4 (by omega) (by omega)
  have hw : IntKind.u64.wrap ((l.length : Nat) : Int) = ((l.length : Nat) : Int) := wraps_u64 _ (by omega) (by omega)
  rw [hw]
  refine Ev.bind hb (Ev.iteT (by rw [ob_size, leB_len]; omega) ?_)
  rw [bytesOf_ob]
  refine Ev.bind (go_ev l (leB 4 l.length) (by rw [leB_len]; omega)) (Ev.const ?_)
  rw [str_bn]
theorem Frame_ev (x : Bs) (h : x.length ≤ 140737488351232) : Ev (fun k => pedigreeref29_Frame.f k (ob x)) (ob (frL x)) := by
  unfold pedigreeref29_Frame.f
  have hw : IntKind.u64.wrap (((ob x).size : Nat) : Int) = ((x.length : Nat) : Int) := by rw [ob_size]; exact wraps_u64 _ (by omega) (by omega)
  rw [hw]
  have ht := turned_ev (ob (leB 4 x.length)) (by rw [ob_size, leB_len]; omega)
  rw [lb_ob] at ht
  have hc := crc_lt x
  have hS := Sum_ev2 (ob x) (by rw [ob_size]; omega)
  rw [lb_ob] at hS
  have hb2 := Bytes_ev (crcL x) 2 (by omega) (by omega)
  have hw2 : IntKind.u64.wrap ((crcL x : Nat) : Int) = ((crcL x : Nat) : Int) := wraps_u64 _ (by omega) (by omega)
  refine Ev.bind (Bytes_ev x.length 4 (by omega) (by omega)) (Ev.bind ht (Ev.iteT ?_ (Ev.iteT ?_ (Ev.bind hS ?_))))
  · rw [ob_size, ob_size, tur_len, leB_len]; omega
  · rw [ByteArray.size_append, ob_size, ob_size, ob_size, tur_len, leB_len]; omega
  rw [hw2]
  refine Ev.bind hb2 (Ev.iteT ?_ (Ev.const ?_))
  · rw [ByteArray.size_append, ByteArray.size_append, ob_size, ob_size, ob_size, ob_size, tur_len, leB_len, leB_len]; omega
  · congr 1
def bodyL (n : Int) (l1 l2 : List S90) : Bs := 67 :: (leB 8 (u64n n) ++ (encFs l1 ++ encFs l2))
theorem Encode_ev (n : Int) (l1 l2 : List S90) (g : Bool) (hg : Ev (fun k => pedigreeref29_Good.f k n l1 l2) g) (h : g = true → (bodyL n l1 l2).length ≤ 140737488351232) :
    Ev (fun k => pedigreeref29_Encode.f k n l1 l2) (if g = true then (if (bodyL n l1 l2).length > 16777216 then (⟨#[]⟩, 30) else (ob (frL (bodyL n l1 l2)), 0)) else (⟨#[]⟩, 1)) := by
  unfold pedigreeref29_Encode.f
  refine Ev.bind hg ?_
  cases g with
  | false =>
    rw [if_neg (by decide)]
    exact Ev.iteF (by decide) (Ev.const rfl)
  | true =>
    have h := h rfl
    have e0 : (bodyL n l1 l2).length = 1 + 8 + (encFs l1).length + (encFs l2).length := by unfold bodyL; simp only [List.length_cons, List.length_append, leB_len]; omega
    rw [if_pos rfl]
    have hb := Bytes_ev (u64n n) 8 (by omega) (u64n_lt _)
    rw [u64n_cast] at hb
    have c1 : (⟨#[67]⟩ : ByteArray) = ob [67] := rfl
    rw [c1]
    have eL : ob [67] ++ ob (leB 8 (u64n n)) ++ ob (encFs l1) ++ ob (encFs l2) = ob (bodyL n l1 l2) := by
      apply lb_inj; rw [lb_append, lb_append, lb_append, lb_ob, lb_ob, lb_ob, lb_ob, lb_ob]; unfold bodyL; simp [List.append_assoc]
    refine Ev.iteT rfl (Ev.bind hb (Ev.iteT ?_ (Ev.bind (Facts_ev l1 (by omega)) (Ev.iteT ?_ (Ev.bind (Facts_ev l2 (by omega)) (Ev.iteT ?_ ?_))))))
    · rw [ob_size, leB_len]; omega
    · rw [ByteArray.size_append, ob_size, ob_size, ob_size, leB_len]; simp only [List.length_cons, List.length_nil]; omega
    · rw [ByteArray.size_append, ByteArray.size_append, ob_size, ob_size, ob_size, ob_size, leB_len]; simp only [List.length_cons, List.length_nil]; omega
    rw [eL, ob_size]
    by_cases c : (bodyL n l1 l2).length > 16777216
    · rw [if_pos c]
      exact Ev.iteT (by omega) (Ev.const rfl)
    · rw [if_neg c]
      exact Ev.iteF (by omega) (Ev.bind (Frame_ev _ (by omega)) (Ev.const rfl))
end Go.Proofs.J.Pure
end
section
namespace Go.Proofs.J.Pure
open Go.RowKit Go.Proofs.J.Print Go.Proofs.PrintWords Go.Proofs.PrintLast Go.Proofs.PrintMore
structure TO {α : Type} (c : α → α → Int) : Prop where
  rng : ∀ a b, c a b = -1 ∨ c a b = 0 ∨ c a b = 1
  anti : ∀ a b, c b a = - c a b
  eq : ∀ a b, c a b = 0 ↔ a = b
  tr : ∀ a b d, c a b = -1 → c b d = -1 → c a d = -1
def cmpI (a b : Int) : Int := if a < b then -1 else if b < a then 1 else 0
theorem to_I : TO cmpI where
  rng a b := by unfold cmpI; split; simp; split <;> simp
  anti a b := by unfold cmpI; split <;> split <;> try omega
                 all_goals (split <;> omega)
  eq a b := by unfold cmpI; constructor <;> intro h
               · split at h
                 · omega
                 · split at h <;> omega
               · subst h; simp
  tr a b d h1 h2 := by
    unfold cmpI at *
    split at h1
    · split at h2
      · rw [if_pos (by omega)]
      · split at h2 <;> omega
    · split at h1 <;> omega
def lex {α β : Type} (c : α → α → Int) (d : β → β → Int) (x y : α × β) : Int := if c x.1 y.1 = 0 then d x.2 y.2 else c x.1 y.1
theorem to_lex {α β : Type} {c : α → α → Int} {d : β → β → Int} (hc : TO c) (hd : TO d) : TO (lex c d) where
  rng a b := by unfold lex; split; exact hd.rng _ _; exact hc.rng _ _
  anti a b := by
    unfold lex
    rw [hc.anti a.1 b.1, hd.anti a.2 b.2]
    by_cases h : c a.1 b.1 = 0
    · rw [if_pos (by omega), if_pos h]
    · rw [if_neg (by omega), if_neg h]
  eq a b := by
    unfold lex
    constructor
    · intro h
      by_cases e : c a.1 b.1 = 0
      · rw [if_pos e] at h
        exact Prod.ext ((hc.eq _ _).1 e) ((hd.eq _ _).1 h)
      · rw [if_neg e] at h
        exact absurd h e
    · rintro rfl
      rw [if_pos ((hc.eq _ _).2 rfl)]
      exact (hd.eq _ _).2 rfl
  tr a b z h1 h2 := by
    unfold lex at *
    by_cases e1 : c a.1 b.1 = 0
    · rw [if_pos e1] at h1
      have e := (hc.eq _ _).1 e1
      by_cases e2 : c b.1 z.1 = 0
      · rw [if_pos e2] at h2
        rw [e, if_pos e2]
        exact hd.tr _ _ _ h1 h2
      · rw [if_neg e2] at h2
        rw [e, if_neg e2]
        exact h2
    · rw [if_neg e1] at h1
      by_cases e2 : c b.1 z.1 = 0
      · have e := (hc.eq _ _).1 e2
        rw [← e, if_neg e1]
        exact h1
      · rw [if_neg e2] at h2
        have := hc.tr _ _ _ h1 h2
        rw [if_neg (by omega)]
        exact this
theorem to_map {α β : Type} {c : β → β → Int} (f : α → β) (hf : ∀ a b, f a = f b → a = b) (hc : TO c) : TO (fun a b => c (f a) (f b)) where
  rng a b := hc.rng _ _
  anti a b := hc.anti _ _
  eq a b := ⟨fun h => hf _ _ ((hc.eq _ _).1 h), fun h => (hc.eq _ _).2 (by rw [h])⟩
  tr a b d h1 h2 := hc.tr _ _ _ h1 h2
def cmpL {α : Type} (c : α → α → Int) : List α → List α → Int
  | [], [] => 0
  | [], _ :: _ => -1
  | _ :: _, [] => 1
  | a :: l, b :: m => if c a b = 0 then cmpL c l m else c a b
theorem to_L {α : Type} {c : α → α → Int} (hc : TO c) : TO (cmpL c) where
  rng a := by
    induction a with
    | nil => intro b; cases b <;> simp [cmpL]
    | cons x l ih =>
      intro b
      cases b with
      | nil => simp [cmpL]
      | cons y m =>
        simp only [cmpL]
        split
        · exact ih m
        · exact hc.rng _ _
  anti a := by
    induction a with
    | nil => intro b; cases b <;> simp [cmpL]
    | cons x l ih =>
      intro b
      cases b with
      | nil => simp [cmpL]
      | cons y m =>
        simp only [cmpL]
        rw [hc.anti x y, ih m]
        by_cases h : c x y = 0
        · rw [if_pos (by omega), if_pos h]
        · rw [if_neg (by omega), if_neg h]
  eq a := by
    induction a with
    | nil => intro b; cases b <;> simp [cmpL]
    | cons x l ih =>
      intro b
      cases b with
      | nil => simp [cmpL]
      | cons y m =>
        simp only [cmpL]
        by_cases h : c x y = 0
        · rw [if_pos h, ih m, (hc.eq x y).1 h]
          simp
        · rw [if_neg h]
          constructor
          · intro e; exact absurd e h
          · intro e; exact absurd ((hc.eq x y).2 (by injection e)) h
  tr a := by
    induction a with
    | nil =>
      intro b d h1 h2
      cases d with
      | nil => cases b with
        | nil => simp [cmpL] at h1
        | cons y m => simp [cmpL] at h2
      | cons z n => simp [cmpL]
    | cons x l ih =>
      intro b d h1 h2
      cases b with
      | nil => simp [cmpL] at h1
      | cons y m =>
        cases d with
        | nil => simp [cmpL] at h2
        | cons z n =>
          simp only [cmpL] at *
          by_cases e1 : c x y = 0
          · rw [if_pos e1] at h1
            have e := (hc.eq _ _).1 e1
            by_cases e2 : c y z = 0
            · rw [if_pos e2] at h2
              rw [e, if_pos e2]
              exact ih _ _ h1 h2
            · rw [if_neg e2] at h2
              rw [e, if_neg e2]
              exact h2
          · rw [if_neg e1] at h1
            by_cases e2 : c y z = 0
            · have e := (hc.eq _ _).1 e2
              rw [← e, if_neg e1]
              exact h1
            · rw [if_neg e2] at h2
              have := hc.tr _ _ _ h1 h2
              rw [if_neg (by omega)]
              exact this
def cmp8 (a b : UInt8) : Int := cmpI a.toNat b.toNat
theorem to_8 : TO cmp8 := to_map (fun a : UInt8 => (a.toNat : Int)) (fun a b h => UInt8.toNat_inj.1 (by exact_mod_cast h)) to_I
def cmpB (a b : Bs) : Int := cmpL cmp8 a b
theorem to_B : TO cmpB := to_L to_8
def cmpV (a b : S85) : Int := lex cmpI (lex cmpI cmpB) (a.f0, a.f1, lb a.f2) (b.f0, b.f1, lb b.f2)
theorem to_V : TO cmpV := to_map (fun a : S85 => (a.f0, a.f1, lb a.f2)) (fun a b h => by
  obtain ⟨a0, a1, a2⟩ := a
  obtain ⟨b0, b1, b2⟩ := b
  simp only [Prod.mk.injEq] at h
  obtain ⟨rfl, rfl, h⟩ := h
  rw [lb_inj h]) (to_lex to_I (to_lex to_I to_B))
def cmpT (a b : List S85) : Int := cmpL cmpV a b
theorem to_T : TO cmpT := to_L to_V
def cmpF (a b : S90) : Int := lex cmpB cmpT (lb a.f0, a.f1) (lb b.f0, b.f1)
theorem to_F : TO cmpF := to_map (fun a : S90 => (lb a.f0, a.f1)) (fun a b h => by
  obtain ⟨a0, a1⟩ := a
  obtain ⟨b0, b1⟩ := b
  simp only [Prod.mk.injEq] at h
  obtain ⟨h, rfl⟩ := h
  rw [lb_inj h]) (to_lex to_B to_T)
theorem cmp8_lt (a b : UInt8) : cmp8 a b = -1 ↔ a < b := by
  unfold cmp8 cmpI
  rw [UInt8.lt_iff_toNat_lt]
  constructor
  · intro h
    split at h
    · omega
    · split at h <;> omega
  · intro h
    rw [if_pos (by omega)]
theorem cmpB_cons (a b : UInt8) (x y : Bs) : cmpB (a :: x) (b :: y) = if cmp8 a b = 0 then cmpB x y else cmp8 a b := rfl
theorem bl_iff : ∀ a b : Bs, Op.bytesLess a b = true ↔ cmpB a b = -1
  | [], [] => by simp [Op.bytesLess, cmpB, cmpL]
  | [], _ :: _ => by simp [Op.bytesLess, cmpB, cmpL]
  | _ :: _, [] => by simp [Op.bytesLess, cmpB, cmpL]
  | a :: x, b :: y => by
    have ih := bl_iff x y
    simp only [Op.bytesLess, cmpB_cons]
    by_cases h : cmp8 a b = 0
    · have e := (to_8.eq a b).1 h
      subst e
      rw [if_pos h, ← ih]
      simp
    · rw [if_neg h]
      have hne : ¬ a = b := fun e => h ((to_8.eq a b).2 e)
      simp [hne, cmp8_lt]
theorem bl_cmp (a b : Bs) : Op.bytesLess a b = decide (cmpB a b = -1) := by
  rw [Bool.eq_iff_iff, bl_iff, decide_eq_true_iff]
theorem cb_cmp : ∀ a b : Bs, Lib.compareBytes a b = cmpB a b
  | [], [] => rfl
  | [], _ :: _ => rfl
  | _ :: _, [] => rfl
  | a :: x, b :: y => by
    have ih := cb_cmp x y
    simp only [Lib.compareBytes]
    rw [ih]
    unfold cmpB
    simp only [cmpL]
    have h1 := cmp8_lt a b
    have h2 := cmp8_lt b a
    have ha := to_8.anti a b
    by_cases c1 : a < b
    · rw [if_pos c1, if_neg (by rw [h1.2 c1]; decide), h1.2 c1]
    · rw [if_neg c1]
      by_cases c2 : b < a
      · have := h2.2 c2
        rw [if_pos c2, if_neg (by omega)]
        omega
      · rw [if_neg c2]
        have hr := to_8.rng a b
        have n1 : ¬ cmp8 a b = -1 := fun e => c1 (h1.1 e)
        have n2 : ¬ cmp8 b a = -1 := fun e => c2 (h2.1 e)
        rw [if_pos (by omega)]
theorem or_three (a b c : Int) : Ev (fun k => cmp_Or_int.f k [a, b, c]) (if a = 0 then (if b = 0 then c else b) else a) := by
  refine ⟨6, fun k hk => ?_⟩
  obtain ⟨j, rfl⟩ : ∃ j, k = j + 6 := ⟨k - 6, by omega⟩
  unfold cmp_Or_int.f
  have r0 : rd [a, b, c] 0 = a := rfl
  have r1 : rd [a, b, c] 1 = b := rfl
  have r2 : rd [a, b, c] 2 = c := rfl
  have w1 : wrap64 (0 + 1) = 1 := by rw [w64] <;> omega
  have w2 : wrap64 (1 + 1) = 2 := by rw [w64] <;> omega
  have w3 : wrap64 (2 + 1) = 3 := by rw [w64] <;> omega
  simp only [cmp_Or_int.l0, List.length_cons, List.length_nil, r0, r1, r2, w1, w2, w3]
  by_cases h1 : a = 0 <;> by_cases h2 : b = 0 <;> by_cases h3 : c = 0 <;> simp [h1, h2, h3, w1, w2, w3, r0, r1, r2]
theorem or_two (a b : Int) : Ev (fun k => cmp_Or_int.f k [a, b]) (if a = 0 then b else a) := by
  refine ⟨6, fun k hk => ?_⟩
  obtain ⟨j, rfl⟩ : ∃ j, k = j + 6 := ⟨k - 6, by omega⟩
  unfold cmp_Or_int.f
  have r0 : rd [a, b] 0 = a := rfl
  have r1 : rd [a, b] 1 = b := rfl
  have w1 : wrap64 (0 + 1) = 1 := by rw [w64] <;> omega
  have w2 : wrap64 (1 + 1) = 2 := by rw [w64] <;> omega
  simp only [cmp_Or_int.l0, List.length_cons, List.length_nil, r0, r1, w1, w2]
  by_cases h1 : a = 0 <;> by_cases h2 : b = 0 <;> simp [h1, h2, w1, w2, r0, r1]
theorem cmp64_f (a b : Int) : cmp_Compare_int64.f a b = some (cmpI a b) := by
  unfold cmp_Compare_int64.f cmp_isNaN_int64.f cmpI
  by_cases h1 : a < b <;> by_cases h2 : b < a <;> simp [h1, h2]
theorem kind_f (a b : Int) : api_Kind_291.f a b = some (cmpI a b) := by
  unfold api_Kind_291.f api_Kind_348.f cmpI
  by_cases h1 : a < b <;> by_cases h2 : b < a <;> simp [h1, h2]
theorem Compare_ev (a b : S85) : Ev (fun k => value_Compare.f k a.f0 a.f1 a.f2 b.f0 b.f1 b.f2) (cmpV a b) := by
  unfold value_Compare.f
  rw [kind_f, cmp64_f]
  unfold strings_Compare.f
  have e : Lib.compareBytes a.f2.data.toList b.f2.data.toList = cmpB (lb a.f2) (lb b.f2) := cb_cmp _ _
  rw [e]
  exact Ev.bind (Ev.const rfl) (Ev.bind (Ev.const rfl) (Ev.bind (Ev.const rfl) (Ev.bind (or_three _ _ _) (Ev.const rfl))))
theorem refCompare_f (a b : S85) : pedigreeref01_Compare.f a.f0 a.f1 a.f2 b.f0 b.f1 b.f2 = some (cmpV a b) := by
  unfold pedigreeref01_Compare.f
  rw [lb_toList, lb_toList, bl_cmp]
  have hV := to_V.eq a b
  unfold cmpV lex cmpI at *
  have hB := to_B.eq (lb a.f2) (lb b.f2)
  have hr := to_B.rng (lb a.f2) (lb b.f2)
  by_cases h0 : a.f0 = b.f0
  · by_cases h1 : a.f1 = b.f1
    · by_cases h2 : lb a.f2 = lb b.f2
      · have := hB.2 h2
        have h3 : cmpB (lb b.f2) (lb b.f2) = 0 := (to_B.eq _ _).2 rfl
        simp [h0, h1, h2, h3]
      · have n : ¬ cmpB (lb a.f2) (lb b.f2) = 0 := fun e => h2 (hB.1 e)
        rcases hr with hr | hr | hr
        · simp [h0, h1, h2, hr]
        · exact absurd hr n
        · simp [h0, h1, h2, hr]
    · by_cases h3 : a.f1 < b.f1
      · simp [h0, h1, h3]
      · have : b.f1 < a.f1 := by omega
        simp [h0, h1, h3, this]
  · by_cases h3 : a.f0 < b.f0
    · simp [h0, h3]
    · have : b.f0 < a.f0 := by omega
      simp [h0, h3, this]
theorem drop_nil85 (l : List S85) (i : Nat) (h : l.length ≤ i) : l.drop i = [] := List.drop_of_length_le h
theorem cmpFunc_ev (l0 l1 : List S85) (h0 : l0.length ≤ 4611686018427387904) (h1 : l1.length ≤ 4611686018427387904) (m : Nat) : ∀ i : Nat, i + m = l0.length → (i ≤ l1.length) →
    cmpT l0 l1 = cmpT (l0.drop i) (l1.drop i) → Ev (fun k => value_cmpFunc.l0 k l0 l1 l0 (l0.length : Int) (i : Int)) (cmpT l0 l1) := by
  induction m with
  | zero =>
    intro i hi hl e
    refine Ev.succ (Ev.congr (fun k => ?_) (Ev.const (o := some _) rfl))
    rw [value_cmpFunc.l0, if_neg (by omega), e, drop_nil85 l0 i (by omega)]
    by_cases c : l0.length < l1.length
    · rw [if_pos (by omega), drop_rd85 l1 i (by omega)]
      rfl
    · rw [if_neg (by omega), drop_nil85 l1 i (by omega)]
      rfl
  | succ m ih =>
    intro i hi hl e
    apply Ev.succ
    have e1 : ∀ k, value_cmpFunc.l0 (k + 1) l0 l1 l0 (l0.length : Int) (i : Int) = _ := fun k => by rw [value_cmpFunc.l0, if_pos (by omega), if_pos (by omega), if_pos (by omega)]
    refine Ev.congr e1 ?_
    have d0 := drop_rd85 l0 i (by omega)
    by_cases c : i < l1.length
    · have d1 := drop_rd85 l1 i c
      rw [d0, d1] at e
      refine Ev.iteF (by omega) (Ev.iteT (by omega) (Ev.bind (Compare_ev _ _) ?_))
      unfold cmpT at e
      simp only [cmpL] at e
      by_cases z : cmpV (rd_T85 l0 i) (rd_T85 l1 i) = 0
      · rw [if_pos z] at e
        refine Ev.iteT z ?_
        rw [w64 _ (by omega) (by omega)]
        exact ih (i + 1) (by omega) (by omega) e
      · rw [if_neg z] at e
        refine Ev.iteF z (Ev.const ?_)
        unfold cmpT
        rw [e]
    · rw [d0, drop_nil85 l1 i (by omega)] at e
      refine Ev.iteT (by omega) (Ev.const ?_)
      rw [e]
      rfl
theorem CompareTuples_ev (l0 l1 : List S85) (h0 : l0.length ≤ 4611686018427387904) (h1 : l1.length ≤ 4611686018427387904) : Ev (fun k => value_CompareTuples.f k l0 l1) (cmpT l0 l1) := by
  unfold value_CompareTuples.f value_cmpFunc.f
  exact Ev.bind (cmpFunc_ev l0 l1 h0 h1 l0.length 0 (by omega) (by omega) rfl) (Ev.const rfl)
theorem CompareFacts_ev (a b : S90) (h0 : a.f1.length ≤ 4611686018427387904) (h1 : b.f1.length ≤ 4611686018427387904) : Ev (fun k => value_CompareFacts.f k a.f0 a.f1 b.f0 b.f1) (cmpF a b) := by
  unfold value_CompareFacts.f strings_Compare.f
  have e : Lib.compareBytes a.f0.data.toList b.f0.data.toList = cmpB (lb a.f0) (lb b.f0) := cb_cmp _ _
  rw [e]
  exact Ev.bind (Ev.const rfl) (Ev.bind (CompareTuples_ev _ _ h0 h1) (Ev.bind (or_two _ _) (Ev.const rfl)))
theorem refTuples_ev (l0 l1 : List S85) (h0 : l0.length ≤ 4611686018427387904) (h1 : l1.length ≤ 4611686018427387904) (m : Nat) : ∀ i : Nat, i + m = l0.length → (i ≤ l1.length) →
    cmpT l0 l1 = cmpT (l0.drop i) (l1.drop i) → Ev (fun k => pedigreeref01_CompareTuples.l0 k l0 l1 (i : Int)) (cmpT l0 l1) := by
  have hend : ∀ (i : Int) (v : Int), (if (l0.length : Int) < (l1.length : Int) then (some (-1)) else (if (l0.length : Int) > (l1.length : Int) then (some 1) else (some 0))) = some v → Ev (fun k => pedigreeref01_CompareTuples.j1 k l0 l1 i false) v := fun i v hv => by
    refine Ev.succ (Ev.congr (fun k => ?_) (Ev.const hv))
    rw [pedigreeref01_CompareTuples.j1, if_neg (by decide)]
  induction m with
  | zero =>
    intro i hi hl e
    apply Ev.succ
    have e1 : ∀ k, pedigreeref01_CompareTuples.l0 (k + 1) l0 l1 (i : Int) = _ := fun k => by rw [pedigreeref01_CompareTuples.l0, if_neg (by omega)]
    refine Ev.congr e1 (hend _ _ ?_)
    rw [e, drop_nil85 l0 i (by omega)]
    by_cases c : l0.length < l1.length
    · rw [if_pos (by omega), drop_rd85 l1 i (by omega)]
      rfl
    · rw [if_neg (by omega), if_neg (by omega), drop_nil85 l1 i (by omega)]
      rfl
  | succ m ih =>
    intro i hi hl e
    apply Ev.succ
    have e1 : ∀ k, pedigreeref01_CompareTuples.l0 (k + 1) l0 l1 (i : Int) = _ := fun k => by rw [pedigreeref01_CompareTuples.l0, if_pos (by omega)]
    refine Ev.congr e1 ?_
    have d0 := drop_rd85 l0 i (by omega)
    by_cases c : i < l1.length
    · have d1 := drop_rd85 l1 i c
      rw [d0, d1] at e
      rw [decide_eq_true (show (i : Int) < (l1.length : Int) by omega)]
      apply Ev.succ
      have e2 : ∀ k, pedigreeref01_CompareTuples.j1 (k + 1) l0 l1 (i : Int) true = _ := fun k => by rw [pedigreeref01_CompareTuples.j1, if_pos rfl, if_pos (by omega), if_pos (by omega), if_pos (by omega), refCompare_f]
      refine Ev.congr e2 (Ev.bind (Ev.const rfl) ?_)
      unfold cmpT at e
      simp only [cmpL] at e
      by_cases z : cmpV (rd_T85 l0 i) (rd_T85 l1 i) = 0
      · rw [if_pos z] at e
        refine Ev.iteT z ?_
        rw [w64 _ (by omega) (by omega)]
        exact ih (i + 1) (by omega) (by omega) e
      · rw [if_neg z] at e
        refine Ev.iteF z (Ev.const ?_)
        unfold cmpT
        rw [e]
    · rw [d0, drop_nil85 l1 i (by omega)] at e
      rw [decide_eq_false (show ¬ (i : Int) < (l1.length : Int) by omega)]
      refine hend _ _ ?_
      rw [if_neg (by omega), if_pos (by omega), e]
      rfl
theorem refCompareFacts_ev (a b : S90) (h0 : a.f1.length ≤ 4611686018427387904) (h1 : b.f1.length ≤ 4611686018427387904) : Ev (fun k => pedigreeref01_CompareFacts.f k a.f0 a.f1 b.f0 b.f1) (cmpF a b) := by
  unfold pedigreeref01_CompareFacts.f
  rw [lb_toList, lb_toList, bl_cmp, bl_cmp]
  have ha := to_B.anti (lb a.f0) (lb b.f0)
  have hr := to_B.rng (lb a.f0) (lb b.f0)
  unfold cmpF lex
  dsimp only
  rcases hr with hr | hr | hr
  · rw [if_neg (by omega), hr]
    exact Ev.iteT (by decide) (Ev.const rfl)
  · have h2 : cmpB (lb b.f0) (lb a.f0) = 0 := by omega
    rw [if_pos hr, hr, h2]
    exact Ev.iteF (by decide) (Ev.iteF (by decide) (Ev.bind (refTuples_ev a.f1 b.f1 h0 h1 a.f1.length 0 (by omega) (by omega) rfl) (Ev.const rfl)))
  · have h2 : cmpB (lb b.f0) (lb a.f0) = -1 := by omega
    rw [if_neg (by omega), hr, h2]
    exact Ev.iteF (by decide) (Ev.iteT (by decide) (Ev.const rfl))
end Go.Proofs.J.Pure
end
