/- On the way to the law 'JournalEncodes': what the functions that it reaches compute, step by step, and the plain law (JGd .. JPF198). Each theorem states its own conditions. -/
import Derived.Test.YtcinnankefollaaGreatDoorWd
import Derived.BigGuardPart
import Derived.Laws.BitsLemmas
import Derived.Laws.Externs
import Derived.Lib.AppendStr
import Derived.Lib.Builder
import Derived.Lib.ConvBytes
import Derived.Lib.FrozenHead
import Derived.Lib.Slices
import Derived.Lib.Strings
import Derived.Lib.UnsafeStr
import Derived.Lib.Walk
import Derived.Shelf.RegionOpenPlain
import Derived.Shelf.Strings.Builder1
import Derived.Shelf.Strings.BuilderF
import Derived.Shelf.Strings.BuilderK
import Derived.Shelf.Strings.Search1
import Derived.Test.YtcinnankefollaaGreatDoorProg
import Derived.WalkKit
set_option linter.unusedVariables false
set_option linter.unusedSimpArgs false
section
namespace Go.Proofs.J.Print
open Go.RowKit Go.Proofs.PrintWords Go.Proofs.PrintLast Go.Proofs.PrintMore
def BytesRow (B : Nat) (v : Value) (l : List Int) (w : World) : Prop :=
  ∃ g cap cur fz, v = .slice (some ⟨g, 0, none⟩) l.length cap ∧ B ≤ g ∧ w.heap[g]? = some (.cells cur 5 fz) ∧ (cap ≤ fz.1 ∨ fz.2 = 0) ∧ l.length ≤ cap ∧ cap ≤ maxLen ∧ cur.size = cap ∧ cur.toList.take l.length = nums .u8 l
theorem run_storeCells_mark (P : Program) (g o : Nat) (t : TypeId) (fz : Nat × Nat) (n : Nat) (hfz : n ≤ fz.1 ∨ fz.2 = 0) : ∀ (vs : List Value) (i : Nat) (cur : Array Value) (w : World), w.heap[g]? = some (.cells cur t fz) → cur.size = n → o + i + vs.length ≤ n → (∀ v ∈ vs, v.oneCell' = true) →
    (storeCells ⟨g, o, none⟩ vs i).run P w = .ok () (w.setRow g (cur.toList.take (o + i) ++ vs ++ cur.toList.drop (o + i + vs.length)).toArray)
  | [], i, cur, w, hg, _, _, _ => by
    simp only [storeCells, List.append_nil, List.length_nil, Nat.add_zero, List.take_append_drop, Array.toArray_toList]
    rw [setRow_self w g cur t fz hg]
    rfl
  | v :: rest, i, cur, w, hg, hn, hl, h1 => by
    have hi : o + i < cur.size := by simp at hl; omega
    have hadd : (⟨g, o, none⟩ : Addr).add i = ⟨g, o + i, none⟩ := by unfold Addr.add; split <;> simp_all
    have hcell : w.cell? ⟨g, o + i, none⟩ = some cur[o + i] := by simp [World.cell?, hg, hi]
    have hfro : w.frozen? ⟨g, o + i, none⟩ = false := by
      obtain ⟨lo, hi'⟩ := fz
      simp only [World.frozen?, hg]
      simp only [Bool.and_eq_false_iff, decide_eq_false_iff_not]
      simp only at hfz
      omega
    have hst : (store ((⟨g, o, none⟩ : Addr).add i) v).run P w = .ok () (w.setRow g (cur.setIfInBounds (o + i) v)) := by
      rw [hadd, run_store P w _ v _ (h1 v (by simp)), hcell]
      simp [hfro, setCell_eq_setRow w g (o + i) cur t fz v hg]
    have ih := run_storeCells_mark P g o t fz n hfz rest (i + 1) (cur.setIfInBounds (o + i) v) (w.setRow g (cur.setIfInBounds (o + i) v)) (setRow_heap w g cur _ t _ hg) (by simpa using hn) (by simp at hl ⊢; omega) (fun x hx => h1 x (by simp [hx]))
    simp only [storeCells, Sem.run_bind, hst, Result.andThen_ok, ih, setRow_setRow]
    congr 3
    have e := list_seg_step cur.toList (o + i) v rest (by simp at hl ⊢; omega)
    simpa [Array.toList_setIfInBounds, Nat.add_assoc] using e
theorem BytesRow.cells {B : Nat} {v : Value} {l : List Int} {w : World} {g cap : Nat} {cur : Array Value} {fz : Nat × Nat} (hg : w.heap[g]? = some (.cells cur 5 fz)) (ht : cur.toList.take l.length = nums .u8 l) : ∀ j u, (nums .u8 l)[j]? = some u → w.cell? ((⟨g, 0, none⟩ : Addr).add j) = some u := by
  intro j u hu
  have hadd : (⟨g, 0, none⟩ : Addr).add j = ⟨g, j, none⟩ := by unfold Addr.add; split <;> simp_all
  rw [hadd, cell_of_row w g j cur 5 fz hg]
  rw [← ht, List.getElem?_take] at hu
  split at hu
  · simpa using hu
  · cases hu
theorem run_append_mark {w : World} (B : Nat) (ty : TypeId) (v : Value) (l : List Int) (s : ByteArray) (h : BytesRow B v l w) (hB : B ≤ w.heap.size) (hl : l.length + s.size ≤ 140737488355328) :
    ∃ v' w', (Builtin.append_ #[78, 9] ty #[v, .string s]).run Tryz.prog w = .ok v' w' ∧ BytesRow B v' (l ++ bytesOf s) w' ∧ Below B w w' := by
  obtain ⟨g, cap, cur, fz, rfl, hBg, hg, hfz, hlc, hcm, hcs, htk⟩ := h
  obtain ⟨i0, hi, hzz⟩ := Option.map_eq_some_iff.1 info5
  simp only [Prod.mk.injEq] at hzz
  obtain ⟨hz0, hz1, hz2⟩ := hzz
  have hcells : nums .u8 (bytesOf s) = Lib.strCells s := by simp [nums, bytesOf, Lib.strCells]
  have hlen : (l ++ bytesOf s).length = l.length + s.size := by rw [List.length_append, bytesOf_length]
  have hm : (maxLen : Nat) = 9223372036854775807 := rfl
  by_cases hroom : l.length + s.size ≤ cap
  · have hf := Lib.run_firstCells_string (P := Tryz.prog) w 1 s
    have hst := run_storeCells_mark Tryz.prog g l.length 5 fz cap hfz (Lib.strCells s) 0 cur w hg hcs (by rw [Lib.strCells_length]; omega) (Lib.strCells_oneCell s)
    simp only [Nat.add_zero, Lib.strCells_length] at hst
    refine ⟨.slice (some ⟨g, 0, none⟩) (l.length + s.size) cap, w.setRow g (cur.toList.take l.length ++ Lib.strCells s ++ cur.toList.drop (l.length + s.size)).toArray, ?_, ?_, ?_⟩
    · simp [Builtin.append_, run_underlying Tryz.underlying78, run_underlying Tryz.underlying9, sizeOf, typeInfo, hi, hz1, Builtin.lenOf, hroom, hf, Addr.add_lit, hst]
    · refine ⟨g, cap, _, fz, by rw [hlen], hBg, setRow_heap w g cur _ 5 _ hg, hfz, by rw [hlen]; exact hroom, hcm, ?_, ?_⟩
      · have e0 : cur.toList.length = cap := by rw [Array.length_toList]; exact hcs
        simp only [List.size_toArray, List.length_append, List.length_take, List.length_drop, Lib.strCells_length, e0]
        omega
      · rw [hlen, nums_append, hcells, ← htk]
        have e1 : (cur.toList.take l.length ++ Lib.strCells s).length = l.length + s.size := by
          have e0 : cur.toList.length = cap := by rw [Array.length_toList]; exact hcs
          rw [List.length_append, List.length_take, e0, Lib.strCells_length]; omega
        rw [← e1]
        exact List.take_left
    · exact ⟨rfl, rfl, rfl, by simp, fun k hk => setRow_other w g k _ (by omega)⟩
  · have hr := Lib.run_append_grow_string (P := Tryz.prog) w 78 9 ty 5 i0 (.int .u8 0) Tryz.underlying78 Tryz.underlying9 hi hz0 ⟨g, 0, none⟩ l.length cap (nums .u8 l) (by rw [hz1, nums_length]; omega) (BytesRow.cells (B := B) (v := .nilIface) (cap := cap) hg htk) s (by omega) (by omega) (by rw [hz2]; exact growslice_fits (by omega) (by omega))
    have hge := grownCap_ge w (l.length + s.size) cap 5
    have hcm2 : grownCap w (l.length + s.size) cap 5 ≤ maxLen := grownCap_le_maxLen w (l.length + s.size) cap 5 (by omega)
    refine ⟨_, _, hr, ⟨w.heap.size, _, _, (0, 0), by rw [hlen], hB, heap_alloc_new w.drew _, .inr rfl, by rw [hlen]; exact hge, hcm2, ?_, ?_⟩, ?_⟩
    · have hz1 : (Value.int IntKind.u8 0).cells.size = 1 := rfl
      simp only [Array.size_append, List.size_toArray, size_zeroCells, hz1, nums_length, Lib.strCells_length]
      omega
    · rw [hlen, nums_append, hcells]
      simp only [Array.toList_append, List.append_assoc]
      rw [← List.append_assoc]
      have e1 : (nums .u8 l ++ Lib.strCells s).length = l.length + s.size := by rw [List.length_append, nums_length, Lib.strCells_length]
      rw [← e1]
      exact List.take_left
    · exact ⟨rfl, rfl, rfl, by simp, fun k hk => heap_alloc_old w.drew _ (by simp; omega)⟩
theorem wpList_append_mark {ops : Array Oper} {rest : List Oper} {o : Oper} {a : Act} {Q : Exit → Act → World → Prop} {w : World} (hgd : o.guard = none) (sl x : Operand)
    (ho : o.op = .call { callee := .builtin .append, args := #[sl, x], argTypes := #[78, 9] }) (B : Nat) (v : Value) (l : List Int) (s : ByteArray) (hs : a.eval sl = v) (hx : a.eval x = .string s) (h : BytesRow B v l w) (hB : B ≤ w.heap.size) (hl : l.length + s.size ≤ 140737488355328)
    (hk : ∀ v' w', BytesRow B v' (l ++ bytesOf s) w' → Below B w w' → wpList Tryz.prog ops Q rest (a.put o.dst v') w') : wpList Tryz.prog ops Q (o :: rest) a w := by
  refine wpList_plain hgd fun K hK => ?_
  obtain ⟨v', w', hr, h2, h3⟩ := run_append_mark B o.type v l s h hB hl
  unfold Oper.wp execOp
  simp only [ho, resolve, invoke, builtin, Sem.run_bind, Sem.run_pure, Result.andThen_ok, List.map_toArray, List.map_cons, List.map_nil, hs, hx, hr]
  exact hK _ _ (hk v' w' h2 h3)
theorem bytes_row {w0 W : World} (s : ByteArray) (hb : Below w0.heap.size w0 W) (hs : s.size ≤ 140737488355328) : BytesRow w0.heap.size (.slice (some ⟨W.heap.size, 0, none⟩) s.size (grownCap W s.size 0 5)) (bytesOf s) (Lib.bytesWorld W 5 s) := by
  have hge := grownCap_ge W s.size 0 5
  have hcm : grownCap W s.size 0 5 ≤ maxLen := grownCap_le_maxLen W s.size 0 5 (by unfold maxLen; omega)
  have hsz : (Lib.bytesCells W 5 s).size = grownCap W s.size 0 5 := by
    simp only [Lib.bytesCells, Array.size_append, Array.size_map, Array.size_replicate]
    have : s.data.size = s.size := rfl
    omega
  refine ⟨W.heap.size, _, _, _, by rw [bytesOf_length], hb.size, Lib.bytesWorld_at_new W 5 s, .inl (by rw [hsz]; exact Nat.le_refl _), by rw [bytesOf_length]; exact hge, hcm, hsz, ?_⟩
  rw [bytesOf_length]
  have e1 : (s.data.map fun b => Value.int .u8 b.toNat).toList = nums .u8 (bytesOf s) := by simp [nums, bytesOf]
  have e2 : (nums .u8 (bytesOf s)).length = s.size := by rw [nums_length, bytesOf_length]
  simp only [Lib.bytesCells, Array.toList_append, e1]
  rw [← e2]
  exact List.take_left
def pedigreeref29_Facts.go (k : Nat) : List S90 → List Int → Option (List Int)
  | [], out => some out
  | x :: xs, out => (pedigreeref29_factBytes.f k x.f0 x.f1).bind fun s => if out.length + s.size ≤ 140737488355328 then pedigreeref29_Facts.go k xs (out ++ bytesOf s) else none
def pedigreeref29_Facts.f (k : Nat) (l0 : List S90) : Option ByteArray := (pedigreeref29_Bytes.f k (IntKind.u64.wrap (l0.length : Int)) 4).bind fun t => if t.size ≤ 140737488355328 then (pedigreeref29_Facts.go k l0 (bytesOf t)).bind fun r => some (strOfNums r) else none
set_option maxHeartbeats 2000000 in
set_option maxRecDepth 100000 in
theorem pedigreeref29_Facts.calls (k : Nat) (A0 : Option Addr) (c0 : Nat) (l0 : List S90) (r : ByteArray) (w : World) (hr0 : Kd.C k90 w A0 l0.length l0) (hc0 : l0.length ≤ c0) (h : pedigreeref29_Facts.f k l0 = some r) :
    Calls Tryz.prog 20 #[.slice A0 l0.length c0] w fun e w' => e = .returned (.string r) ∧ Below w.heap.size w w' := by
  unfold pedigreeref29_Facts.f at h
  obtain ⟨t, ht, h⟩ := Option.bind_eq_some_iff.mp h
  have kb := fun W => print_bytes (P := Tryz.prog) 9 78 5 Tryz.underlying9 Tryz.underlying78 Tryz.underlying5 t W
  by_cases hts : t.size ≤ 140737488355328
  case neg => rw [if_neg hts] at h; cases h
  rw [if_pos hts] at h
  obtain ⟨R, hR, h⟩ := Option.bind_eq_some_iff.mp h
  have H := Aside0.mk (Option.some.inj h)
  have hmax : (maxLen : Nat) = 9223372036854775807 := rfl
  have hlm : l0.length ≤ 9223372036854775807 := hr0.2.1
  have hw64 : IntKind.u64.wrap (l0.length : Int) = l0.length := by rw [show IntKind.u64.wrap (l0.length : Int) = (l0.length : Int) % 18446744073709551616 from rfl]; omega
  rw [hw64] at ht
  have HT := Aside0.mk ht
  clear hw64
  have HR := Aside0.mk hR
  have HA := Aside0.mk hr0
  clear h ht hR hr0
  go_enter Tryz.func20, Tryz.ntmps20
  go_wp2_with fail
  ((with_reducible refine (pedigreeref29_Bytes.calls k (l0.length : Int) 4 t _ HT.out).mono ?_); rintro e w1 ⟨rfl, hb1⟩)
  have hrow := Aside0.mk (bytes_row t hb1 hts)
  have hbel := Aside0.mk (bytes_below hb1 hb1.size 5 t)
  clear hb1 HT
  go_wp2_with fail
  clear kb
  generalize Lib.bytesWorld w1 5 t = W at *
  generalize grownCap w1 t.size 0 5 = gc at *
  go_loopw [3, 4] (fun v i wr => ∃ (j : Nat) (out : List Int), j ≤ l0.length ∧ i = .int .i64 j ∧ Aside0 (BytesRow w.heap.size v out wr) ∧ Aside0 (Below w.heap.size w wr) ∧ Aside0 (pedigreeref29_Facts.go k (l0.drop j) out = some R)) (fun _ i _ => l0.length - (intOf i).toNat)
  case atStart => exact ⟨0, bytesOf t, Nat.zero_le _, rfl, hrow, hbel, HR⟩
  case round =>
    clear hrow hbel HR
    obtain ⟨j, out, hj, rfl, hrow, HB, hgo⟩ := hrel
    by_cases hlt : j < l0.length
    · obtain ⟨ad, A1, c1, rfl, hx0, hx1, hl1, hi1⟩ := at_T90 HA.out (j : Int) (by omega) (by omega)
      have hd : l0.drop j = rd_T90 l0 (j : Int) :: l0.drop (j + 1) := by
        rw [List.drop_eq_getElem_cons hlt]
        congr 1
        unfold rd_T90
        simp [List.getD_eq_getElem?_getD, List.getElem?_eq_getElem hlt]
      have hgo' := hgo.out
      rw [hd] at hgo'
      unfold pedigreeref29_Facts.go at hgo'
      obtain ⟨s, hs, hgo'⟩ := Option.bind_eq_some_iff.mp hgo'
      have hfits : out.length + s.size ≤ 140737488355328 := by
        by_cases h : out.length + s.size ≤ 140737488355328
        · exact h
        · rw [if_neg h] at hgo'; cases hgo'
      rw [if_pos hfits] at hgo'
      have Hs := Aside0.mk hs
      have Hgo := Aside0.mk hgo'
      have Hi := Aside0.mk hi1
      clear hgo hgo' hs hd hi1
      replace hx0 := cellB HB.out hx0
      replace hx1 := cellB HB.out hx1
      simp only [Int.toNat_natCast] at hx0 hx1
      generalize rd_T90 l0 (j : Int) = x at *
      go_wp2_with fail
      ((with_reducible refine (pedigreeref29_factBytes.calls k x.f0 A1 c1 x.f1 s _ (Kd.C_below Hi.out HB.out) hl1 Hs.out).mono ?_); rintro e w2 ⟨rfl, hb2⟩)
      have hrow2 : BytesRow w.heap.size u3 out w2 := by
        obtain ⟨g, cap, cur, fz, h1, h2, h3, h4⟩ := hrow.out
        exact ⟨g, cap, cur, fz, h1, h2, (hb2.block g (Array.getElem?_eq_some_iff.1 h3).1).trans h3, h4⟩
      have hB2 := HB.out.trans (hb2.mono HB.out.size)
      have hle2 := hB2.size
      clear hx0 hx1 hrow
      go_wp2_with (at_builtin; refine wpList_append_mark rfl (.tmp 16) (.tmp 21) rfl w.heap.size u3 out s rfl rfl hrow2 hle2 hfits ?_; intro v' w3 hrow3 hb3)
      have HB3 := Aside0.mk (hB2.trans hb3)
      have Hrow3 := Aside0.mk hrow3
      clear hrow3 hb3 hB2 hrow2 hb2 hle2 HB
      go_wp2_with fail
      go_roundw
      case rel =>
        exact ⟨j + 1, _, by omega, by go_num, Hrow3, HB3, Hgo⟩
      case measure => simp [intOf]; omega
    · obtain rfl : j = l0.length := by omega
      have hgo' := hgo.out
      rw [List.drop_length] at hgo'
      have Hout := Aside0.mk (Option.some.inj hgo')
      clear hgo hgo'
      obtain ⟨g, cap, cur, fz, hv, hBg, hg, hfz, hlc, hcm, hcs, htk⟩ := hrow.out
      have hstr := Aside0.mk (run_convert_bytes_arg (P := Tryz.prog) wr 78 5 Tryz.underlying78 Tryz.underlying5 g 0 out.length cap out rfl (fun i hi => by
        have hc := BytesRow.cells (B := w.heap.size) (v := u3) (cap := cap) hg htk i (.int .u8 (out.getD i 0)) (by simp [nums, List.getElem?_eq_getElem hi, List.getD_eq_getElem?_getD])
        have ha : (⟨g, 0, none⟩ : Addr).add i = ⟨g, 0 + i, none⟩ := by unfold Addr.add; split <;> simp_all
        rwa [ha] at hc) 9 Tryz.underlying9)
      subst hv
      clear hg hfz htk hrow
      have hstr' := hstr.out
      go_wp2_with fail
      go_ret
      rw [← Hout.out] at H
      exact ⟨by simp [H.out], HB.out⟩
end Go.Proofs.J.Print
end
section
namespace Go.Proofs.J.Print
open Go.RowKit Go.Proofs.PrintWords Go.Proofs.PrintLast Go.Proofs.PrintMore
def pedigreeref29_turned.l0 : Nat → ByteArray → ByteArray → Int → Option (ByteArray)
 | 0, _, _, _ => none
 | k + 1, x0, x3, x4 => if x4 < (x0.size : Int) then (if 0 ≤ x4 then ((some (([(255 - (bt x0 x4)) % 256] : List Int) : List Int)).bind fun y118 => (if x3.size + (strOfNums y118).size ≤ 9223372036854775807 then (pedigreeref29_turned.l0 k x0 (x3 ++ (strOfNums y118)) (wrap64 (x4 + 1))) else (none))) else (none)) else (some x3)
def pedigreeref29_turned.f (k : Nat) (a0 : ByteArray) : Option (ByteArray) := pedigreeref29_turned.l0 k a0 (⟨#[]⟩ : ByteArray) 0
set_option maxHeartbeats 8000000 in
set_option maxRecDepth 100000 in
theorem pedigreeref29_turned.calls (k : Nat) (a0 : ByteArray) (r : ByteArray) (w : World) (h : pedigreeref29_turned.f k a0 = some r) :
  Calls Tryz.prog 79 #[.string a0] w fun e w' => e = .returned (.string r) ∧ Below w.heap.size w w' := by
 have HB := Aside0.mk (Below.refl w.heap.size w)
 have H : (pedigreeref29_turned.l0 k a0 (⟨#[]⟩ : ByteArray) 0) = some r := h
 clear h
 have H' := Aside0.mk H
 clear H
 go_enter Tryz.func79, Tryz.ntmps79
 go_wp2
 go_loopg [3, 4] k (fun kq v3 v4 w' => ∃ (x3_1 : ByteArray) (x4_1 : Int), v3 = .string x3_1 ∧ v4 = .int .i64 x4_1 ∧ Aside0 (pedigreeref29_turned.l0 kq a0 x3_1 x4_1 = some r) ∧ Aside0 (kq ≤ k) ∧ Aside0 (Below w.heap.size w w'))
 case atStart => exact ⟨((⟨#[]⟩ : ByteArray)), (0), eqS, eqS, H', ⟨Nat.le_refl _⟩, ⟨upB HB.out⟩⟩
 case round =>
  clear H'
  obtain ⟨x3_1, x4_1, rfl, rfl, HA, HK1, HB⟩ := hrel
  cases gk with
  | zero => exact absurd HA.out (by simp [pedigreeref29_turned.l0])
  | succ k1 =>
   have H := HA.out
   clear HA
   simp only [pedigreeref29_turned.l0] at H
   by_cases c2 : x4_1 < (a0.size : Int)
   ·rw [if_pos c2] at H
    have c2b0 := decide_eq_true c2
    clear c2
    by_cases c3 : 0 ≤ x4_1
    ·rw [if_pos c3] at H
     have c3b0 := decide_eq_true c3
     clear c3
     obtain ⟨y118, hy118⟩ : ∃ y_ : List Int, y_ = (([(255 - (bt a0 x4_1)) % 256] : List Int)) := ⟨_, rfl⟩
     replace H : (if x3_1.size + (strOfNums y118).size ≤ 9223372036854775807 then (pedigreeref29_turned.l0 k1 a0 (x3_1 ++ (strOfNums y118)) (wrap64 (x4_1 + 1))) else (none)) = some r := by first | (rw [hy118]; with_reducible exact H) | (have H2_ := (Option.bind_some _ _).symm.trans H; rw [hy118]; with_reducible exact H2_) | (have H2_ := (Option.bind_some _ _).symm.trans H; with_reducible exact H2_) | with_reducible exact H | (rw [hy118]; exact H) | exact H
     have Ny118 := Aside0.mk hy118
     clear hy118
     by_cases c5 : x3_1.size + (strOfNums y118).size ≤ 9223372036854775807
     ·rw [if_pos c5] at H
      have c5b0 := eq_true c5
      have c5b1 := decide_eq_true c5
      try have c5b2 : (9223372036854775807 < x3_1.size + (strOfNums y118).size) = False := eq_false (Nat.not_lt.2 c5)
      have H' := Aside0.mk H
      clear H
      have p4 : 0 ≤ (x4_1 : Int) := of_decide_eq_true byA
      have q4 : x4_1 < (a0.size : Int) := of_decide_eq_true byA
      have hx4 := bt_at a0 x4_1
      replace p4 := eq_true p4
      replace q4 := eq_true q4
      go_wp2_with (first | ((with_reducible refine gate_dst (N := 16) rfl ?_); refine Kd.R_lit (Kd.int .u8) _ 5 ?hg (N := 16) ?hd (xs := ([(255 - (bt a0 x4_1)) % 256] : List Int)) (inner := [.int .u8 ((255 - (bt a0 x4_1)) % 256)]) (ok := fun _ => True) (okp := fun _ => True) ?hr ?hp (fun _ hk => hk) trivial (Below.refl _ _) (Nat.le_refl _) (by simp) ?_; (case hd => rfl); (case hg => rfl); (case hr => first | (go_simp; done) | (go_simp; rfl)); (case hp => exact (Reps.one (show Kd.M (Kd.int .u8) _ _ _ ((255 - (bt a0 x4_1)) % 256) [.int .u8 ((255 - (bt a0 x4_1)) % 256)] from rfl) (Reps.none _ _))); intro v119 w6 ho7 hb hg_ hnew_; clear hg_ hnew_; (first | rw [← Ny118.out] at ho7 | (simp only [Int.reduceToNat] at ho7; rw [← Ny118.out] at ho7)); have n0_ := Aside0.mk (Kd.R_lower ho7 (below_size (upB HB.out))); have n1_ := Aside0.mk (below_step (upB HB.out) hb); clear HB; have HO120 := n0_; have HB := n1_; clear n0_ n1_; clear hb ho7; have hcv8 := own_string (P := Tryz.prog) Tryz.underlying78 Tryz.underlying5 Tryz.underlying9 (Kd.own_of_R HO120.out)))
      go_roundg k1
      case measure => have := HK1.out; omega
      case rel => exact ⟨(x3_1 ++ (strOfNums y118)), (wrap64 (x4_1 + 1)), eqS, eqS, H', ⟨by have := HK1.out; omega⟩, ⟨upB HB.out⟩⟩
     ·rw [if_neg c5] at H
      exact absurd H (by simp)
    ·rw [if_neg c3] at H
     exact absurd H (by simp)
   ·rw [if_neg c2] at H
    have c2b0 := decide_eq_false c2
    clear c2
    obtain rfl := Option.some.inj H
    go_wp2
    go_ret
    exact ⟨eqE, upB HB.out⟩
end Go.Proofs.J.Print
end
section
namespace Go.Proofs.J.Print
open Go.RowKit Go.Proofs.PrintWords Go.Proofs.PrintLast Go.Proofs.PrintMore
mutual
def pedigreeref29_Sum.l0 : Nat → ByteArray → Int → Int → Option (Int)
 | 0, _, _, _ => none
 | k + 1, x0, x3, x4 => if x4 < (wrap64 ((wrap64 (8 * (x0.size : Int))) + 16)) then (if x4 < (wrap64 (8 * (x0.size : Int))) then (if 0 ≤ (wrap64 (Int.tdiv x4 8)) then (if (wrap64 (Int.tdiv x4 8)) < (x0.size : Int) then (if 0 ≤ (wrap64 (7 - (Int.tmod x4 8))) then (pedigreeref29_Sum.j1 k x0 x3 x4 (Go.bits .and .i64 (shr .i64 (wrap64 (bt x0 (wrap64 (Int.tdiv x4 8)))) (wrap64 (7 - (Int.tmod x4 8)))) 1)) else (none)) else (none)) else (none)) else (pedigreeref29_Sum.j1 k x0 x3 x4 0)) else (some (IntKind.u16.wrap (x3)))
def pedigreeref29_Sum.j1 : Nat → ByteArray → Int → Int → Int → Option (Int)
 | 0, _, _, _, _ => none
 | k + 1, x0, x3, x4, x5 => if x4 < 16 then (if (wrap64 ((wrap64 (2 * x3)) + (wrap64 (1 - x5)))) ≥ 65536 then (pedigreeref29_Sum.l0 k x0 (Go.bits .xor .i64 (wrap64 ((wrap64 ((wrap64 (2 * x3)) + (wrap64 (1 - x5)))) - 65536)) 4129) (wrap64 (x4 + 1))) else (pedigreeref29_Sum.l0 k x0 (wrap64 ((wrap64 (2 * x3)) + (wrap64 (1 - x5)))) (wrap64 (x4 + 1)))) else (if (wrap64 ((wrap64 (2 * x3)) + x5)) ≥ 65536 then (pedigreeref29_Sum.l0 k x0 (Go.bits .xor .i64 (wrap64 ((wrap64 ((wrap64 (2 * x3)) + x5)) - 65536)) 4129) (wrap64 (x4 + 1))) else (pedigreeref29_Sum.l0 k x0 (wrap64 ((wrap64 (2 * x3)) + x5)) (wrap64 (x4 + 1))))
end
def pedigreeref29_Sum.f (k : Nat) (a0 : ByteArray) : Option (Int) := pedigreeref29_Sum.l0 k a0 0 0
set_option maxHeartbeats 8000000 in
set_option maxRecDepth 100000 in
theorem pedigreeref29_Sum.calls (k : Nat) (a0 : ByteArray) (r : Int) (w : World) (h : pedigreeref29_Sum.f k a0 = some r) :
  Calls Tryz.prog 80 #[.string a0] w fun e w' => e = .returned (.int .u16 r) ∧ Drawn0 w w' := by
 have H : (pedigreeref29_Sum.l0 k a0 0 0) = some r := h
 clear h
 have H' := Aside0.mk H
 clear H
 go_enter Tryz.func80, Tryz.ntmps80
 go_wp2
 go_loopg [3, 4] k (fun kq v3 v4 w' => ∃ (x3_1 : Int) (x4_1 : Int), v3 = .int .i64 x3_1 ∧ v4 = .int .i64 x4_1 ∧ Aside0 (pedigreeref29_Sum.l0 kq a0 x3_1 x4_1 = some r) ∧ Aside0 (kq ≤ k) ∧ Drawn0 w w')
 case atStart => exact ⟨(0), (0), eqS, eqS, H', ⟨Nat.le_refl _⟩, by repeat (first | exact Drawn0.refl _ | apply Drawn0.step)⟩
 case round =>
  clear H'
  obtain ⟨x3_1, x4_1, rfl, rfl, HA, HK1, ⟨m1, rfl⟩⟩ := hrel
  cases gk with
  | zero => exact absurd HA.out (by simp [pedigreeref29_Sum.l0])
  | succ k1 =>
   have H := HA.out
   clear HA
   simp only [pedigreeref29_Sum.l0] at H
   by_cases c2 : x4_1 < (wrap64 ((wrap64 (8 * (a0.size : Int))) + 16))
   ·rw [if_pos c2] at H
    have c2b0 := decide_eq_true c2
    clear c2
    have HC3 := Aside0.mk H
    clear H
    go_upto_if 18 with (fail)
    go_cut [5] (fun v5 wc => ∃ (kq : Nat) (x5_2 : Int), v5 = .int .i64 x5_2 ∧ Aside0 (pedigreeref29_Sum.j1 kq a0 x3_1 x4_1 x5_2 = some r) ∧ Aside0 (kq ≤ k1) ∧ Drawn0 w wc)
    case first =>
     have H := HC3.out
     clear HC3
     by_cases c4 : x4_1 < (wrap64 (8 * (a0.size : Int)))
     ·rw [if_pos c4] at H
      have c4b0 := decide_eq_true c4
      clear c4
      (first | rw [c4b0] | (simp only [i64_w, i32_w]; rw [c4b0]) | skip)
      obtain ⟨ji5, hji5⟩ : ∃ j_ : Int, (wrap64 (Int.tdiv x4_1 8)) = j_ := ⟨_, rfl⟩
      replace H : (if 0 ≤ (ji5) then (if (ji5) < (a0.size : Int) then (if 0 ≤ (wrap64 (7 - (Int.tmod x4_1 8))) then (pedigreeref29_Sum.j1 k1 a0 x3_1 x4_1 (Go.bits .and .i64 (shr .i64 (wrap64 (bt a0 (ji5))) (wrap64 (7 - (Int.tmod x4_1 8)))) 1)) else (none)) else (none)) else (none)) = some r := by first | (rw [hji5] at H; exact H) | (simp only [hji5] at H ⊢; exact H)
      have hji5w : (IntKind.i64.wrap (Int.tdiv x4_1 8)) = ji5 := (i64_w _).trans hji5
      by_cases c6 : 0 ≤ (ji5)
      ·rw [if_pos c6] at H
       have c6b0 := decide_eq_true c6
       clear c6
       by_cases c7 : (ji5) < (a0.size : Int)
       ·rw [if_pos c7] at H
        have c7b0 := decide_eq_true c7
        clear c7
        obtain ⟨ji9, hji9⟩ : ∃ j_ : Int, (wrap64 (7 - (Int.tmod x4_1 8))) = j_ := ⟨_, rfl⟩
        replace H : (if 0 ≤ (ji9) then (pedigreeref29_Sum.j1 k1 a0 x3_1 x4_1 (Go.bits .and .i64 (shr .i64 (wrap64 (bt a0 (ji5))) (ji9)) 1)) else (none)) = some r := by first | (rw [hji9] at H; exact H) | (simp only [hji9] at H ⊢; exact H)
        have hji9w : (IntKind.i64.wrap (7 - (Int.tmod x4_1 8))) = ji9 := (i64_w _).trans hji9
        by_cases c10 : 0 ≤ (ji9)
        ·rw [if_pos c10] at H
         have c10b0 := eq_true c10
         have c10b1 := decide_eq_true c10
         clear c10
         obtain ⟨ji11, hji11⟩ : ∃ j_ : Int, (shr .i64 (wrap64 (bt a0 (ji5))) (ji9)) = j_ := ⟨_, rfl⟩
         replace H : (pedigreeref29_Sum.j1 k1 a0 x3_1 x4_1 (Go.bits .and .i64 (ji11) 1)) = some r := by first | (rw [hji11] at H; exact H) | (simp only [hji11] at H ⊢; exact H)
         have hji11_ : ((wrap64 (bt a0 (ji5))) / 2 ^ min (ji9).toNat 64) = ji11 := hji11
         have hji11z : (ji9) ≤ 64 → ((wrap64 (bt a0 (ji5))) / 2 ^ (ji9).toNat) = ji11 := shr_small hji11
         have H' := Aside0.mk H
         clear H
         have p8 : 0 ≤ ((ji5) : Int) := of_decide_eq_true byA
         have q8 : (ji5) < (a0.size : Int) := of_decide_eq_true byA
         have hx8 := bt_at a0 (ji5)
         replace p8 := eq_true p8
         replace q8 := eq_true q8
         go_wp2
         go_meet
         case rel => exact ⟨_, (Go.bits .and .i64 (ji11) 1), (by first | rfl | (simp; done) | (simp only [← hji11] <;> (first | rfl | simp)) | (simp [*]; done)), H', ⟨by have := HK1.out; first | omega | exact Nat.le_refl _⟩, by repeat (first | exact Drawn0.refl _ | apply Drawn0.step)⟩
        ·rw [if_neg c10] at H
         exact absurd H (by simp)
       ·rw [if_neg c7] at H
        exact absurd H (by simp)
      ·rw [if_neg c6] at H
       exact absurd H (by simp)
     ·rw [if_neg c4] at H
      have c4b0 := decide_eq_false c4
      clear c4
      (first | rw [c4b0] | (simp only [i64_w, i32_w]; rw [c4b0]) | skip)
      have H' := Aside0.mk H
      clear H
      go_wp2
      go_meet
      case rel => exact ⟨_, (0), eqS, H', ⟨by have := HK1.out; first | omega | exact Nat.le_refl _⟩, by repeat (first | exact Drawn0.refl _ | apply Drawn0.step)⟩
    case rest =>
     clear HC3
     try clear c1
     try clear c2
     try clear c2b0
     try clear p2
     try clear c4
     try clear c4b0
     try clear c6
     try clear c6b0
     try clear p6
     try clear c7
     try clear c7b0
     try clear c8
     try clear p8
     try clear q8
     try clear hx8
     try clear c10
     try clear c10b0
     try clear c10b1
     try clear p8
     try clear q8
     obtain ⟨kq, x5_2, rfl, HA, HJ2, ⟨mc2, rfl⟩⟩ := hcut
     cases kq with
     | zero => exact absurd HA.out (by simp [pedigreeref29_Sum.j1])
     | succ kj2 =>
      have H := HA.out
      clear HA
      simp only [pedigreeref29_Sum.j1] at H
      by_cases c12 : x4_1 < 16
      ·rw [if_pos c12] at H
       have c12b0 := decide_eq_true c12
       clear c12
       by_cases c13 : (wrap64 ((wrap64 (2 * x3_1)) + (wrap64 (1 - x5_2)))) ≥ 65536
       ·rw [if_pos c13] at H
        have c13b0 := decide_eq_true c13
        clear c13
        have H' := Aside0.mk H
        clear H
        go_wp2
        go_roundg kj2
        case measure => have := HK1.out; have := HJ2.out; omega
        case rel => exact ⟨(Go.bits .xor .i64 (wrap64 ((wrap64 ((wrap64 (2 * x3_1)) + (wrap64 (1 - x5_2)))) - 65536)) 4129), (wrap64 (x4_1 + 1)), eqS, eqS, H', ⟨by have := HK1.out; have := HJ2.out; omega⟩, by repeat (first | exact Drawn0.refl _ | apply Drawn0.step)⟩
       ·rw [if_neg c13] at H
        have c13b0 := decide_eq_false c13
        clear c13
        have H' := Aside0.mk H
        clear H
        go_wp2
        go_roundg kj2
        case measure => have := HK1.out; have := HJ2.out; omega
        case rel => exact ⟨(wrap64 ((wrap64 (2 * x3_1)) + (wrap64 (1 - x5_2)))), (wrap64 (x4_1 + 1)), eqS, eqS, H', ⟨by have := HK1.out; have := HJ2.out; omega⟩, by repeat (first | exact Drawn0.refl _ | apply Drawn0.step)⟩
      ·rw [if_neg c12] at H
       have c12b0 := decide_eq_false c12
       clear c12
       by_cases c14 : (wrap64 ((wrap64 (2 * x3_1)) + x5_2)) ≥ 65536
       ·rw [if_pos c14] at H
        have c14b0 := decide_eq_true c14
        clear c14
        have H' := Aside0.mk H
        clear H
        go_wp2
        go_roundg kj2
        case measure => have := HK1.out; have := HJ2.out; omega
        case rel => exact ⟨(Go.bits .xor .i64 (wrap64 ((wrap64 ((wrap64 (2 * x3_1)) + x5_2)) - 65536)) 4129), (wrap64 (x4_1 + 1)), eqS, eqS, H', ⟨by have := HK1.out; have := HJ2.out; omega⟩, by repeat (first | exact Drawn0.refl _ | apply Drawn0.step)⟩
       ·rw [if_neg c14] at H
        have c14b0 := decide_eq_false c14
        clear c14
        have H' := Aside0.mk H
        clear H
        go_wp2
        go_roundg kj2
        case measure => have := HK1.out; have := HJ2.out; omega
        case rel => exact ⟨(wrap64 ((wrap64 (2 * x3_1)) + x5_2)), (wrap64 (x4_1 + 1)), eqS, eqS, H', ⟨by have := HK1.out; have := HJ2.out; omega⟩, by repeat (first | exact Drawn0.refl _ | apply Drawn0.step)⟩
   ·rw [if_neg c2] at H
    have c2b0 := decide_eq_false c2
    clear c2
    obtain rfl := Option.some.inj H
    go_wp2
    go_ret
    exact ⟨eqS, by repeat (first | exact Drawn0.refl _ | apply Drawn0.step)⟩
end Go.Proofs.J.Print
end
section
namespace Go.Proofs.J.Print
open Go.RowKit Go.Proofs.PrintWords Go.Proofs.PrintLast Go.Proofs.PrintMore
def pedigreeref29_Frame.f (k : Nat) (a0 : ByteArray) : Option (ByteArray) := (pedigreeref29_Bytes.f k (IntKind.u64.wrap ((a0.size : Int))) 4).bind fun t136 => ((pedigreeref29_turned.f k t136).bind fun t137 => (if t136.size + t137.size ≤ 9223372036854775807 then (if (t136 ++ t137).size + a0.size ≤ 9223372036854775807 then ((pedigreeref29_Sum.f k a0).bind fun t138 => ((pedigreeref29_Bytes.f k (IntKind.u64.wrap (t138)) 2).bind fun t139 => (if ((t136 ++ t137) ++ a0).size + t139.size ≤ 9223372036854775807 then (some (((t136 ++ t137) ++ a0) ++ t139)) else (none)))) else (none)) else (none)))
set_option maxHeartbeats 8000000 in
set_option maxRecDepth 100000 in
theorem pedigreeref29_Frame.calls (k : Nat) (a0 : ByteArray) (r : ByteArray) (w : World) (h : pedigreeref29_Frame.f k a0 = some r) :
    Calls Tryz.prog 21 #[.string a0] w fun e w' => e = .returned (.string r) ∧ Below w.heap.size w w' := by
  have HB := Aside0.mk (Below.refl w.heap.size w)
  have H : ((pedigreeref29_Bytes.f k (IntKind.u64.wrap ((a0.size : Int))) 4).bind fun t136 => ((pedigreeref29_turned.f k t136).bind fun t137 => (if t136.size + t137.size ≤ 9223372036854775807 then (if (t136 ++ t137).size + a0.size ≤ 9223372036854775807 then ((pedigreeref29_Sum.f k a0).bind fun t138 => ((pedigreeref29_Bytes.f k (IntKind.u64.wrap (t138)) 2).bind fun t139 => (if ((t136 ++ t137) ++ a0).size + t139.size ≤ 9223372036854775807 then (some (((t136 ++ t137) ++ a0) ++ t139)) else (none)))) else (none)) else (none)))) = some r := h
  clear h
  replace H := Option.bind_eq_some_iff.mp H
  obtain ⟨t136, A20, H⟩ := H
  replace H : ((pedigreeref29_turned.f k t136).bind fun t137 => (if t136.size + t137.size ≤ 9223372036854775807 then (if (t136 ++ t137).size + a0.size ≤ 9223372036854775807 then ((pedigreeref29_Sum.f k a0).bind fun t138 => ((pedigreeref29_Bytes.f k (IntKind.u64.wrap (t138)) 2).bind fun t139 => (if ((t136 ++ t137) ++ a0).size + t139.size ≤ 9223372036854775807 then (some (((t136 ++ t137) ++ a0) ++ t139)) else (none)))) else (none)) else (none))) = some r := H
  have A2 := Aside0.mk A20
  clear A20
  replace H := Option.bind_eq_some_iff.mp H
  obtain ⟨t137, A30, H⟩ := H
  replace H : (if t136.size + t137.size ≤ 9223372036854775807 then (if (t136 ++ t137).size + a0.size ≤ 9223372036854775807 then ((pedigreeref29_Sum.f k a0).bind fun t138 => ((pedigreeref29_Bytes.f k (IntKind.u64.wrap (t138)) 2).bind fun t139 => (if ((t136 ++ t137) ++ a0).size + t139.size ≤ 9223372036854775807 then (some (((t136 ++ t137) ++ a0) ++ t139)) else (none)))) else (none)) else (none)) = some r := H
  have A3 := Aside0.mk A30
  clear A30
  by_cases c4 : t136.size + t137.size ≤ 9223372036854775807
  · rw [if_pos c4] at H
    have c4b0 := eq_true c4
    have c4b1 := decide_eq_true c4
    try have c4b2 : (9223372036854775807 < t136.size + t137.size) = False := eq_false (Nat.not_lt.2 c4)
    by_cases c5 : (t136 ++ t137).size + a0.size ≤ 9223372036854775807
    · rw [if_pos c5] at H
      have c5b0 := eq_true c5
      have c5b1 := decide_eq_true c5
      try have c5b2 : (9223372036854775807 < (t136 ++ t137).size + a0.size) = False := eq_false (Nat.not_lt.2 c5)
      replace H := Option.bind_eq_some_iff.mp H
      obtain ⟨t138, A60, H⟩ := H
      replace H : ((pedigreeref29_Bytes.f k (IntKind.u64.wrap (t138)) 2).bind fun t139 => (if ((t136 ++ t137) ++ a0).size + t139.size ≤ 9223372036854775807 then (some (((t136 ++ t137) ++ a0) ++ t139)) else (none))) = some r := H
      have A6 := Aside0.mk A60
      clear A60
      replace H := Option.bind_eq_some_iff.mp H
      obtain ⟨t139, A70, H⟩ := H
      replace H : (if ((t136 ++ t137) ++ a0).size + t139.size ≤ 9223372036854775807 then (some (((t136 ++ t137) ++ a0) ++ t139)) else (none)) = some r := H
      have A7 := Aside0.mk A70
      clear A70
      by_cases c8 : ((t136 ++ t137) ++ a0).size + t139.size ≤ 9223372036854775807
      · rw [if_pos c8] at H
        have c8b0 := eq_true c8
        have c8b1 := decide_eq_true c8
        try have c8b2 : (9223372036854775807 < ((t136 ++ t137) ++ a0).size + t139.size) = False := eq_false (Nat.not_lt.2 c8)
        obtain rfl := Option.some.inj H
        have d5 : decide (t136.size + t137.size + a0.size ≤ 9223372036854775807) = true := decide_eq_true (by rw [ByteArray.size_append] at c5; exact c5)
        have d8 : decide (t136.size + t137.size + a0.size + t139.size ≤ 9223372036854775807) = true := decide_eq_true (by rw [ByteArray.size_append, ByteArray.size_append] at c8; exact c8)
        have e5 : (9223372036854775807 < t136.size + t137.size + a0.size) = False := eq_false (by rw [ByteArray.size_append] at c5; exact Nat.not_lt.2 c5)
        have e8 : (9223372036854775807 < t136.size + t137.size + a0.size + t139.size) = False := eq_false (by rw [ByteArray.size_append, ByteArray.size_append] at c8; exact Nat.not_lt.2 c8)
        clear c5 c5b0 c5b1 c8 c8b0 c8b1
        try clear c5b2
        try clear c8b2
        go_enter Tryz.func21, Tryz.ntmps21
        go_wp2_with (first | ((with_reducible refine gate_callee (f := 19) rfl ?_); refine goesS (some 7) Tryz.func19 #[.int .u64 (IntKind.u64.wrap ((a0.size : Int))), .int .i64 4] ?_; (with_reducible refine (pedigreeref29_Bytes.calls k (IntKind.u64.wrap ((a0.size : Int))) 4 t136 _ A2.out).mono ?_); rintro e w9 ⟨rfl, hb⟩; refine ⟨_, rfl, ?_⟩; have n0_ := Aside0.mk (below_step (upB HB.out) hb); clear HB; have HB := n0_; clear n0_; (try clear hb); (try clear hb2); (try clear hk); (try clear hi)) | ((with_reducible refine gate_callee (f := 79) rfl ?_); refine goesS (some 10) Tryz.func79 #[.string t136] ?_; (with_reducible refine (pedigreeref29_turned.calls k t136 t137 _ A3.out).mono ?_); rintro e w10 ⟨rfl, hb⟩; refine ⟨_, rfl, ?_⟩; have n0_ := Aside0.mk (below_step (upB HB.out) hb); clear HB; have HB := n0_; clear n0_; (try clear hb); (try clear hb2); (try clear hk); (try clear hi)) | ((with_reducible refine gate_callee (f := 80) rfl ?_); refine goesS (some 15) Tryz.func80 #[.string a0] ?_; (with_reducible refine (pedigreeref29_Sum.calls k a0 t138 _ A6.out).mono ?_); rintro e w' ⟨rfl, ⟨nd, rfl⟩⟩; refine ⟨_, rfl, ?_⟩) | ((with_reducible refine gate_callee (f := 19) rfl ?_); refine goesS (some 17) Tryz.func19 #[.int .u64 (IntKind.u64.wrap (t138)), .int .i64 2] ?_; (with_reducible refine (pedigreeref29_Bytes.calls k (IntKind.u64.wrap (t138)) 2 t139 _ A7.out).mono ?_); rintro e w11 ⟨rfl, hb⟩; refine ⟨_, rfl, ?_⟩; have n0_ := Aside0.mk (below_step (upB HB.out) hb); clear HB; have HB := n0_; clear n0_; (try clear hb); (try clear hb2); (try clear hk); (try clear hi)))
        go_ret
        exact ⟨eqE, upB HB.out⟩
      · rw [if_neg c8] at H
        exact absurd H (by simp)
    · rw [if_neg c5] at H
      exact absurd H (by simp)
  · rw [if_neg c4] at H
    exact absurd H (by simp)
end Go.Proofs.J.Print
end
section
namespace Go.Proofs.J.Print
open Go.RowKit Go.Proofs.PrintWords Go.Proofs.PrintLast Go.Proofs.PrintMore
def pedigreeref29_Encode.f (k : Nat) (a0_0 : Int) (l0_1 : List (S90)) (l0_2 : List (S90)) : Option (ByteArray × Int) := (pedigreeref29_Good.f k a0_0 l0_1 l0_2).bind fun t113 => (if t113 = true then ((pedigreeref29_Bytes.f k (IntKind.u64.wrap (a0_0)) 8).bind fun t114 => (if 1 + t114.size ≤ 9223372036854775807 then ((pedigreeref29_Facts.f k l0_1).bind fun t115 => (if ((⟨#[67]⟩ : ByteArray) ++ t114).size + t115.size ≤ 9223372036854775807 then ((pedigreeref29_Facts.f k l0_2).bind fun t116 => (if (((⟨#[67]⟩ : ByteArray) ++ t114) ++ t115).size + t116.size ≤ 9223372036854775807 then (if (((((⟨#[67]⟩ : ByteArray) ++ t114) ++ t115) ++ t116).size : Int) > 16777216 then (some ((⟨#[]⟩ : ByteArray), 30)) else ((pedigreeref29_Frame.f k ((((⟨#[67]⟩ : ByteArray) ++ t114) ++ t115) ++ t116)).bind fun t117 => (some (t117, 0)))) else (none))) else (none))) else (none))) else (some ((⟨#[]⟩ : ByteArray), 1)))
def pedigreeref29_Encode.T3 : Bool × List (List Nat × List Nat) := (true, [([], []), ([0], [0]), ([1], [1]), ([2], [2]), ([3], [3]), ([], []), ([5], [5]), ([6, 3], [6]), ([4, 7], [4, 7]), ([], []), ([9], [9]), ([10, 7], [10]), ([8, 11], [8, 11]), ([12, 11, 0, 1, 2, 3, 4, 5, 6, 7, 8, 9, 10, 11, 12], [12])])
def pedigreeref29_Encode.B3 : List Nat := [0, 1, 3, 7, 15, 0, 32, 111, 255, 0, 512, 1775, 4095, 8191]
theorem pedigreeref29_Encode.tab3 : rtab .any (opsOf Tryz.f7 3) = pedigreeref29_Encode.T3 := by kernel_rfl
theorem pedigreeref29_Encode.bits3 : waitsOk pedigreeref29_Encode.T3.2 pedigreeref29_Encode.B3 = true := by kernel_rfl
set_option maxHeartbeats 8000000 in
set_option maxRecDepth 100000 in
theorem pedigreeref29_Encode.calls (k : Nat) (a0_0 : Int) (A0_1 : Option Addr) (c0_1 : Nat) (l0_1 : List (S90)) (A0_2 : Option Addr) (c0_2 : Nat) (l0_2 : List (S90)) (r1 : ByteArray) (r2 : Int) (w : World) (hr0_1 : Kd.C k90 w A0_1 l0_1.length l0_1) (hc0_1 : l0_1.length ≤ c0_1) (hr0_2 : Kd.C k90 w A0_2 l0_2.length l0_2) (hc0_2 : l0_2.length ≤ c0_2) (h : pedigreeref29_Encode.f k a0_0 l0_1 l0_2 = some (r1, r2)) :
  Calls Tryz.prog 7 #[.agg #[.int .i64 a0_0, .slice A0_1 l0_1.length c0_1, .slice A0_2 l0_2.length c0_2]] w fun e w' => e = .returned (.tuple #[.string r1, .int .i64 r2]) ∧ Below w.heap.size w w' := by
 have hu24 := Tryz.underlying24
 have HR0_1 := Aside0.mk hr0_1
 have HC0_1 := Aside0.mk hc0_1
 clear hr0_1 hc0_1
 have HR0_2 := Aside0.mk hr0_2
 have HC0_2 := Aside0.mk hc0_2
 clear hr0_2 hc0_2
 have HB := Aside0.mk (Below.refl w.heap.size w)
 have H : ((pedigreeref29_Good.f k a0_0 l0_1 l0_2).bind fun t113 => (if t113 = true then ((pedigreeref29_Bytes.f k (IntKind.u64.wrap (a0_0)) 8).bind fun t114 => (if 1 + t114.size ≤ 9223372036854775807 then ((pedigreeref29_Facts.f k l0_1).bind fun t115 => (if ((⟨#[67]⟩ : ByteArray) ++ t114).size + t115.size ≤ 9223372036854775807 then ((pedigreeref29_Facts.f k l0_2).bind fun t116 => (if (((⟨#[67]⟩ : ByteArray) ++ t114) ++ t115).size + t116.size ≤ 9223372036854775807 then (if (((((⟨#[67]⟩ : ByteArray) ++ t114) ++ t115) ++ t116).size : Int) > 16777216 then (some ((⟨#[]⟩ : ByteArray), 30)) else ((pedigreeref29_Frame.f k ((((⟨#[67]⟩ : ByteArray) ++ t114) ++ t115) ++ t116)).bind fun t117 => (some (t117, 0)))) else (none))) else (none))) else (none))) else (some ((⟨#[]⟩ : ByteArray), 1)))) = some (r1, r2) := h
 clear h
 replace H := Option.bind_eq_some_iff.mp H
 obtain ⟨t113, A20, H⟩ := H
 replace H : (if t113 = true then ((pedigreeref29_Bytes.f k (IntKind.u64.wrap (a0_0)) 8).bind fun t114 => (if 1 + t114.size ≤ 9223372036854775807 then ((pedigreeref29_Facts.f k l0_1).bind fun t115 => (if ((⟨#[67]⟩ : ByteArray) ++ t114).size + t115.size ≤ 9223372036854775807 then ((pedigreeref29_Facts.f k l0_2).bind fun t116 => (if (((⟨#[67]⟩ : ByteArray) ++ t114) ++ t115).size + t116.size ≤ 9223372036854775807 then (if (((((⟨#[67]⟩ : ByteArray) ++ t114) ++ t115) ++ t116).size : Int) > 16777216 then (some ((⟨#[]⟩ : ByteArray), 30)) else ((pedigreeref29_Frame.f k ((((⟨#[67]⟩ : ByteArray) ++ t114) ++ t115) ++ t116)).bind fun t117 => (some (t117, 0)))) else (none))) else (none))) else (none))) else (some ((⟨#[]⟩ : ByteArray), 1))) = some (r1, r2) := H
 have A2 := Aside0.mk A20
 clear A20
 by_cases c3 : t113 = true
 ·subst c3
  have H1 : ((pedigreeref29_Bytes.f k (IntKind.u64.wrap (a0_0)) 8).bind fun t114 => (if 1 + t114.size ≤ 9223372036854775807 then ((pedigreeref29_Facts.f k l0_1).bind fun t115 => (if ((⟨#[67]⟩ : ByteArray) ++ t114).size + t115.size ≤ 9223372036854775807 then ((pedigreeref29_Facts.f k l0_2).bind fun t116 => (if (((⟨#[67]⟩ : ByteArray) ++ t114) ++ t115).size + t116.size ≤ 9223372036854775807 then (if (((((⟨#[67]⟩ : ByteArray) ++ t114) ++ t115) ++ t116).size : Int) > 16777216 then (some ((⟨#[]⟩ : ByteArray), 30)) else ((pedigreeref29_Frame.f k ((((⟨#[67]⟩ : ByteArray) ++ t114) ++ t115) ++ t116)).bind fun t117 => (some (t117, 0)))) else (none))) else (none))) else (none))) = some (r1, r2) := by rw [if_pos rfl] at H; exact H
  clear H
  have H := H1
  clear H1
  replace H := Option.bind_eq_some_iff.mp H
  obtain ⟨t114, A40, H⟩ := H
  replace H : (if 1 + t114.size ≤ 9223372036854775807 then ((pedigreeref29_Facts.f k l0_1).bind fun t115 => (if ((⟨#[67]⟩ : ByteArray) ++ t114).size + t115.size ≤ 9223372036854775807 then ((pedigreeref29_Facts.f k l0_2).bind fun t116 => (if (((⟨#[67]⟩ : ByteArray) ++ t114) ++ t115).size + t116.size ≤ 9223372036854775807 then (if (((((⟨#[67]⟩ : ByteArray) ++ t114) ++ t115) ++ t116).size : Int) > 16777216 then (some ((⟨#[]⟩ : ByteArray), 30)) else ((pedigreeref29_Frame.f k ((((⟨#[67]⟩ : ByteArray) ++ t114) ++ t115) ++ t116)).bind fun t117 => (some (t117, 0)))) else (none))) else (none))) else (none)) = some (r1, r2) := H
  have A4 := Aside0.mk A40
  clear A40
  by_cases c5 : 1 + t114.size ≤ 9223372036854775807
  ·rw [if_pos c5] at H
   have c5b0 := eq_true c5
   have c5b1 := decide_eq_true c5
   try have c5b2 : (9223372036854775807 < 1 + t114.size) = False := eq_false (Nat.not_lt.2 c5)
   replace H := Option.bind_eq_some_iff.mp H
   obtain ⟨t115, A60, H⟩ := H
   replace H : (if ((⟨#[67]⟩ : ByteArray) ++ t114).size + t115.size ≤ 9223372036854775807 then ((pedigreeref29_Facts.f k l0_2).bind fun t116 => (if (((⟨#[67]⟩ : ByteArray) ++ t114) ++ t115).size + t116.size ≤ 9223372036854775807 then (if (((((⟨#[67]⟩ : ByteArray) ++ t114) ++ t115) ++ t116).size : Int) > 16777216 then (some ((⟨#[]⟩ : ByteArray), 30)) else ((pedigreeref29_Frame.f k ((((⟨#[67]⟩ : ByteArray) ++ t114) ++ t115) ++ t116)).bind fun t117 => (some (t117, 0)))) else (none))) else (none)) = some (r1, r2) := H
   have A6 := Aside0.mk A60
   clear A60
   by_cases c7 : ((⟨#[67]⟩ : ByteArray) ++ t114).size + t115.size ≤ 9223372036854775807
   ·rw [if_pos c7] at H
    have c7b0 := eq_true c7
    have c7b1 := decide_eq_true c7
    try have c7b2 : (9223372036854775807 < ((⟨#[67]⟩ : ByteArray) ++ t114).size + t115.size) = False := eq_false (Nat.not_lt.2 c7)
    replace H := Option.bind_eq_some_iff.mp H
    obtain ⟨t116, A80, H⟩ := H
    replace H : (if (((⟨#[67]⟩ : ByteArray) ++ t114) ++ t115).size + t116.size ≤ 9223372036854775807 then (if (((((⟨#[67]⟩ : ByteArray) ++ t114) ++ t115) ++ t116).size : Int) > 16777216 then (some ((⟨#[]⟩ : ByteArray), 30)) else ((pedigreeref29_Frame.f k ((((⟨#[67]⟩ : ByteArray) ++ t114) ++ t115) ++ t116)).bind fun t117 => (some (t117, 0)))) else (none)) = some (r1, r2) := H
    have A8 := Aside0.mk A80
    clear A80
    by_cases c9 : (((⟨#[67]⟩ : ByteArray) ++ t114) ++ t115).size + t116.size ≤ 9223372036854775807
    ·rw [if_pos c9] at H
     have c9b0 := eq_true c9
     have c9b1 := decide_eq_true c9
     try have c9b2 : (9223372036854775807 < (((⟨#[67]⟩ : ByteArray) ++ t114) ++ t115).size + t116.size) = False := eq_false (Nat.not_lt.2 c9)
     by_cases c10 : (((((⟨#[67]⟩ : ByteArray) ++ t114) ++ t115) ++ t116).size : Int) > 16777216
     ·rw [if_pos c10] at H
      have c10b0 := decide_eq_true c10
      have c10n0 : (16777216 : Int) < 1 + (t114.size : Int) + (t115.size : Int) + (t116.size : Int) := (by have h_ := c10; simp only [ByteArray.size_append] at h_; have e1_ : (⟨#[67]⟩ : ByteArray).size = 1 := rfl; omega)
      have c10n1 : 16777216 < 1 + t114.size + t115.size + t116.size := by omega
      have c10b1 : decide (16777216 < ((((⟨#[67]⟩ : ByteArray) ++ t114) ++ t115) ++ t116).size) = true := decide_eq_true (by omega)
      clear c10
      simp only [Option.some.injEq, Prod.mk.injEq] at H
      obtain ⟨rfl, rfl⟩ := H
      go_enter Tryz.func7, Tryz.ntmps7
      try go_wp2_with (first | ((with_reducible refine gate_dst (N := 1) rfl ?_); refine boxS 1 #[.int .i64 a0_0, .slice A0_1 l0_1.length c0_1, .slice A0_2 l0_2.length c0_2] 24 ?_; intro gb112 hg w11 hbox hb; have n0_ := Aside0.mk (below_step (upB HB.out) hb); have n1_ := Aside0.mk (hbox); have n2_ := Aside0.mk (geB hg (upB HB.out) : w.heap.size ≤ gb112); have n3_ := Aside0.mk (geB hg (upB HB.out) : w.heap.size ≤ gb112); clear HB; have HB := n0_; have BK112 := n1_; have GW112 := n2_; have GE112 := n3_; clear n0_ n1_ n2_ n3_; clear hb hbox hg; have hcz12_0 : w11.cell? ⟨gb112, 0, none⟩ = some (.int .i64 a0_0) := (blk_cell BK112.out 0).trans rfl; have hcz12_1 : w11.cell? ⟨gb112, 1, none⟩ = some (.slice A0_1 l0_1.length c0_1) := (blk_cell BK112.out 1).trans rfl; have hcz12_2 : w11.cell? ⟨gb112, 2, none⟩ = some (.slice A0_2 l0_2.length c0_2) := (blk_cell BK112.out 2).trans rfl; have hfz12_0 := blk_frozen BK112.out 0; have hfz12_1 := blk_frozen BK112.out 1; have hfz12_2 := blk_frozen BK112.out 2) | ((with_reducible refine gate_callee (f := 15) rfl ?_); refine goesS (some 6) Tryz.func15 #[.agg #[.int .i64 a0_0, .slice A0_1 l0_1.length c0_1, .slice A0_2 l0_2.length c0_2]] ?_; (with_reducible refine (pedigreeref29_Good.calls k a0_0 _ _ l0_1 _ _ l0_2 true _ ?side1 ?side2 ?side3 ?side4 A2.out).mono ?_); (case side1 => exact upC (Kd.C_below HR0_1.out HB.out)); (case side2 => exact HC0_1.out); (case side3 => exact upC (Kd.C_below HR0_2.out HB.out)); (case side4 => exact HC0_2.out); rintro e w13 ⟨rfl, hb⟩; refine ⟨_, rfl, ?_⟩; have n0_ := Aside0.mk (blk_below (g := gb112) (o := .cells #[.int .i64 a0_0, .slice A0_1 l0_1.length c0_1, .slice A0_2 l0_2.length c0_2] 24 (0, 0)) (upO BK112.out) hb); have n1_ := Aside0.mk (below_step (upB HB.out) hb); clear BK112; clear HB; have BK112 := n0_; have HB := n1_; clear n0_ n1_; (try clear hb); (try clear hb2); (try clear hk); (try clear hi)))
      have n0_ := Aside0.mk (blk_drew BK112.out)
      have n1_ := Aside0.mk (below_drew1 HB.out)
      clear BK112
      clear HB
      have BK112 := n0_
      have HB := n1_
      clear n0_ n1_
      try have c9b1f0 : Aside0 (¬ 9223372036854775807 < 1 + t114.size + t115.size + t116.size) := ⟨fitS c9b1⟩
      try have c7b1f1 : Aside0 (¬ 9223372036854775807 < 1 + t114.size + t115.size) := ⟨fitS c7b1⟩
      refine start_ (n := 14) (S := fun w' => w'.cell? ⟨gb112, 0, none⟩ = some (.int .i64 a0_0) ∧ w'.cell? ⟨gb112, 1, none⟩ = some (.slice A0_1 l0_1.length c0_1) ∧ w'.cell? ⟨gb112, 2, none⟩ = some (.slice A0_2 l0_2.length c0_2)) (ds := []) #[false,false,false,false,false,false,false,false,false,false,false,false,false,false] (by kernel_rfl) rfl rfl ⟨(blk_cell BK112.out 0).trans rfl, (blk_cell BK112.out 1).trans rfl, (blk_cell BK112.out 2).trans rfl⟩ (fun hHeld => ?_); refine with_tabW pedigreeref29_Encode.tab3 pedigreeref29_Encode.bits3 (fun HT_ HW_ => ?_)
      generalize w13.drew = w14 at BK112 HB hHeld ⊢
      refine pureS 0 (some 8) HT_ ?_
      refine pureS 5 (some 13) HT_ ?_
      refine pureS 9 (some 17) HT_ ?_
      refine takeS 1 (some 9) HT_ HW_ hHeld ?_
      refine pureS 2 (some 10) HT_ ?_
      refine takeS 6 (some 14) HT_ HW_ hHeld ?_
      refine takeS 10 (some 18) HT_ HW_ hHeld ?_
      refine one_ (i := 3) (N := some 11) #[true, true, true, true, false, true, true, false,false, true, true, false,false,false] rfl rfl (one_of HT_.out (by kernel_rfl)) (by decide) (fun K hK => ?_)
      refine goes_ Tryz.func19 (by kernel_rfl) rfl #[.int .u64 (IntKind.u64.wrap (a0_0)), .int .i64 8] (by rfl) rfl rfl (by (try simp only [List.map_toArray, List.map_cons, List.map_nil]); first | done | rfl | (simp only [List.length_drop, List.length_take]; rfl)) ?_
      with_reducible refine (pedigreeref29_Bytes.calls k (IntKind.u64.wrap (a0_0)) 8 t114 _ A4.out).mono ?_
      rintro e w15 ⟨rfl, hb⟩
      refine ⟨_, rfl, ?_⟩
      have n0_ := Aside0.mk (blk_below (g := gb112) (o := .cells #[.int .i64 a0_0, .slice A0_1 l0_1.length c0_1, .slice A0_2 l0_2.length c0_2] 24 (0, 0)) (upO BK112.out) hb)
      have n1_ := Aside0.mk (below_step (upB HB.out) hb)
      clear BK112
      clear HB
      have BK112 := n0_
      have HB := n1_
      clear n0_ n1_
      (try clear hb)
      (try clear hb2)
      (try clear hk)
      (try clear hi)
      refine hK.out _ _ ⟨(blk_cell BK112.out 0).trans rfl, (blk_cell BK112.out 1).trans rfl, (blk_cell BK112.out 2).trans rfl⟩ (fun hHeld => ?_)
      clear hK K
      refine normS (some 11) ?_
      refine pureS 4 (some 12) HT_ ?_
      refine one_ (i := 7) (N := some 15) #[true, true, true, true, true, true, true, true, false, true, true, false,false,false] rfl rfl (one_of HT_.out (by kernel_rfl)) (by decide) (fun K hK => ?_)
      refine goes_ Tryz.func20 (by kernel_rfl) rfl #[.slice A0_1 l0_1.length c0_1] (by rfl) rfl rfl (by (try simp only [List.map_toArray, List.map_cons, List.map_nil]); first | done | rfl | (simp only [List.length_drop, List.length_take]; rfl)) ?_
      with_reducible refine (pedigreeref29_Facts.calls k _ _ l0_1 t115 _ ?side1 ?side2 A6.out).mono ?_
      (case side1 => exact upC (Kd.C_below HR0_1.out HB.out))
      (case side2 => exact HC0_1.out)
      rintro e w16 ⟨rfl, hb⟩
      refine ⟨_, rfl, ?_⟩
      have n0_ := Aside0.mk (blk_below (g := gb112) (o := .cells #[.int .i64 a0_0, .slice A0_1 l0_1.length c0_1, .slice A0_2 l0_2.length c0_2] 24 (0, 0)) (upO BK112.out) hb)
      have n1_ := Aside0.mk (below_step (upB HB.out) hb)
      clear BK112
      clear HB
      have BK112 := n0_
      have HB := n1_
      clear n0_ n1_
      (try clear hb)
      (try clear hb2)
      (try clear hk)
      (try clear hi)
      refine hK.out _ _ ⟨(blk_cell BK112.out 0).trans rfl, (blk_cell BK112.out 1).trans rfl, (blk_cell BK112.out 2).trans rfl⟩ (fun hHeld => ?_)
      clear hK K
      refine normS (some 15) ?_
      refine pureS 8 (some 16) HT_ ?_
      refine one_ (i := 11) (N := some 19) #[true, true, true, true, true, true, true, true, true, true, true, true, false,false] rfl rfl (one_of HT_.out (by kernel_rfl)) (by decide) (fun K hK => ?_)
      refine goes_ Tryz.func20 (by kernel_rfl) rfl #[.slice A0_2 l0_2.length c0_2] (by rfl) rfl rfl (by (try simp only [List.map_toArray, List.map_cons, List.map_nil]); first | done | rfl | (simp only [List.length_drop, List.length_take]; rfl)) ?_
      with_reducible refine (pedigreeref29_Facts.calls k _ _ l0_2 t116 _ ?side1 ?side2 A8.out).mono ?_
      (case side1 => exact upC (Kd.C_below HR0_2.out HB.out))
      (case side2 => exact HC0_2.out)
      rintro e w17 ⟨rfl, hb⟩
      refine ⟨_, rfl, ?_⟩
      have n0_ := Aside0.mk (blk_below (g := gb112) (o := .cells #[.int .i64 a0_0, .slice A0_1 l0_1.length c0_1, .slice A0_2 l0_2.length c0_2] 24 (0, 0)) (upO BK112.out) hb)
      have n1_ := Aside0.mk (below_step (upB HB.out) hb)
      clear BK112
      clear HB
      have BK112 := n0_
      have HB := n1_
      clear n0_ n1_
      (try clear hb)
      (try clear hb2)
      (try clear hk)
      (try clear hi)
      refine hK.out _ _ ⟨(blk_cell BK112.out 0).trans rfl, (blk_cell BK112.out 1).trans rfl, (blk_cell BK112.out 2).trans rfl⟩ (fun hHeld => ?_)
      clear hK K
      refine normS (some 19) ?_
      refine pureS 12 (some 20) HT_ ?_
      refine pureS 13 (some 4) HT_ ?_
      refine done_ (done_of HT_.out (by kernel_rfl)) ?_
      try go_wp2
      go_ret2
      exact ⟨eqE, upB HB.out⟩
     ·rw [if_neg c10] at H
      have c10b0 := decide_eq_false c10
      have c10n0 : ¬ (16777216 : Int) < 1 + (t114.size : Int) + (t115.size : Int) + (t116.size : Int) := (by have h_ := c10; simp only [ByteArray.size_append] at h_; have e1_ : (⟨#[67]⟩ : ByteArray).size = 1 := rfl; omega)
      have c10n1 : ¬ 16777216 < 1 + t114.size + t115.size + t116.size := by omega
      have c10b1 : decide (16777216 < ((((⟨#[67]⟩ : ByteArray) ++ t114) ++ t115) ++ t116).size) = false := decide_eq_false (by omega)
      clear c10
      replace H := Option.bind_eq_some_iff.mp H
      obtain ⟨t117, A180, H⟩ := H
      replace H : (some (t117, 0)) = some (r1, r2) := H
      have A18 := Aside0.mk A180
      clear A180
      simp only [Option.some.injEq, Prod.mk.injEq] at H
      obtain ⟨rfl, rfl⟩ := H
      go_enter Tryz.func7, Tryz.ntmps7
      try go_wp2_with (first | ((with_reducible refine gate_dst (N := 1) rfl ?_); refine boxS 1 #[.int .i64 a0_0, .slice A0_1 l0_1.length c0_1, .slice A0_2 l0_2.length c0_2] 24 ?_; intro gb112 hg w19 hbox hb; have n0_ := Aside0.mk (below_step (upB HB.out) hb); have n1_ := Aside0.mk (hbox); have n2_ := Aside0.mk (geB hg (upB HB.out) : w.heap.size ≤ gb112); have n3_ := Aside0.mk (geB hg (upB HB.out) : w.heap.size ≤ gb112); clear HB; have HB := n0_; have BK112 := n1_; have GW112 := n2_; have GE112 := n3_; clear n0_ n1_ n2_ n3_; clear hb hbox hg; have hcz20_0 : w19.cell? ⟨gb112, 0, none⟩ = some (.int .i64 a0_0) := (blk_cell BK112.out 0).trans rfl; have hcz20_1 : w19.cell? ⟨gb112, 1, none⟩ = some (.slice A0_1 l0_1.length c0_1) := (blk_cell BK112.out 1).trans rfl; have hcz20_2 : w19.cell? ⟨gb112, 2, none⟩ = some (.slice A0_2 l0_2.length c0_2) := (blk_cell BK112.out 2).trans rfl; have hfz20_0 := blk_frozen BK112.out 0; have hfz20_1 := blk_frozen BK112.out 1; have hfz20_2 := blk_frozen BK112.out 2) | ((with_reducible refine gate_callee (f := 15) rfl ?_); refine goesS (some 6) Tryz.func15 #[.agg #[.int .i64 a0_0, .slice A0_1 l0_1.length c0_1, .slice A0_2 l0_2.length c0_2]] ?_; (with_reducible refine (pedigreeref29_Good.calls k a0_0 _ _ l0_1 _ _ l0_2 true _ ?side1 ?side2 ?side3 ?side4 A2.out).mono ?_); (case side1 => exact upC (Kd.C_below HR0_1.out HB.out)); (case side2 => exact HC0_1.out); (case side3 => exact upC (Kd.C_below HR0_2.out HB.out)); (case side4 => exact HC0_2.out); rintro e w21 ⟨rfl, hb⟩; refine ⟨_, rfl, ?_⟩; have n0_ := Aside0.mk (blk_below (g := gb112) (o := .cells #[.int .i64 a0_0, .slice A0_1 l0_1.length c0_1, .slice A0_2 l0_2.length c0_2] 24 (0, 0)) (upO BK112.out) hb); have n1_ := Aside0.mk (below_step (upB HB.out) hb); clear BK112; clear HB; have BK112 := n0_; have HB := n1_; clear n0_ n1_; (try clear hb); (try clear hb2); (try clear hk); (try clear hi)))
      have n0_ := Aside0.mk (blk_drew BK112.out)
      have n1_ := Aside0.mk (below_drew1 HB.out)
      clear BK112
      clear HB
      have BK112 := n0_
      have HB := n1_
      clear n0_ n1_
      try have c9b1f0 : Aside0 (¬ 9223372036854775807 < 1 + t114.size + t115.size + t116.size) := ⟨fitS c9b1⟩
      try have c7b1f1 : Aside0 (¬ 9223372036854775807 < 1 + t114.size + t115.size) := ⟨fitS c7b1⟩
      refine start_ (n := 14) (S := fun w' => w'.cell? ⟨gb112, 0, none⟩ = some (.int .i64 a0_0) ∧ w'.cell? ⟨gb112, 1, none⟩ = some (.slice A0_1 l0_1.length c0_1) ∧ w'.cell? ⟨gb112, 2, none⟩ = some (.slice A0_2 l0_2.length c0_2)) (ds := []) #[false,false,false,false,false,false,false,false,false,false,false,false,false,false] (by kernel_rfl) rfl rfl ⟨(blk_cell BK112.out 0).trans rfl, (blk_cell BK112.out 1).trans rfl, (blk_cell BK112.out 2).trans rfl⟩ (fun hHeld => ?_); refine with_tabW pedigreeref29_Encode.tab3 pedigreeref29_Encode.bits3 (fun HT_ HW_ => ?_)
      generalize w21.drew = w22 at BK112 HB hHeld ⊢
      refine pureS 0 (some 8) HT_ ?_
      refine pureS 5 (some 13) HT_ ?_
      refine pureS 9 (some 17) HT_ ?_
      refine takeS 1 (some 9) HT_ HW_ hHeld ?_
      refine pureS 2 (some 10) HT_ ?_
      refine takeS 6 (some 14) HT_ HW_ hHeld ?_
      refine takeS 10 (some 18) HT_ HW_ hHeld ?_
      refine one_ (i := 3) (N := some 11) #[true, true, true, true, false, true, true, false,false, true, true, false,false,false] rfl rfl (one_of HT_.out (by kernel_rfl)) (by decide) (fun K hK => ?_)
      refine goes_ Tryz.func19 (by kernel_rfl) rfl #[.int .u64 (IntKind.u64.wrap (a0_0)), .int .i64 8] (by rfl) rfl rfl (by (try simp only [List.map_toArray, List.map_cons, List.map_nil]); first | done | rfl | (simp only [List.length_drop, List.length_take]; rfl)) ?_
      with_reducible refine (pedigreeref29_Bytes.calls k (IntKind.u64.wrap (a0_0)) 8 t114 _ A4.out).mono ?_
      rintro e w23 ⟨rfl, hb⟩
      refine ⟨_, rfl, ?_⟩
      have n0_ := Aside0.mk (blk_below (g := gb112) (o := .cells #[.int .i64 a0_0, .slice A0_1 l0_1.length c0_1, .slice A0_2 l0_2.length c0_2] 24 (0, 0)) (upO BK112.out) hb)
      have n1_ := Aside0.mk (below_step (upB HB.out) hb)
      clear BK112
      clear HB
      have BK112 := n0_
      have HB := n1_
      clear n0_ n1_
      (try clear hb)
      (try clear hb2)
      (try clear hk)
      (try clear hi)
      refine hK.out _ _ ⟨(blk_cell BK112.out 0).trans rfl, (blk_cell BK112.out 1).trans rfl, (blk_cell BK112.out 2).trans rfl⟩ (fun hHeld => ?_)
      clear hK K
      refine normS (some 11) ?_
      refine pureS 4 (some 12) HT_ ?_
      refine one_ (i := 7) (N := some 15) #[true, true, true, true, true, true, true, true, false, true, true, false,false,false] rfl rfl (one_of HT_.out (by kernel_rfl)) (by decide) (fun K hK => ?_)
      refine goes_ Tryz.func20 (by kernel_rfl) rfl #[.slice A0_1 l0_1.length c0_1] (by rfl) rfl rfl (by (try simp only [List.map_toArray, List.map_cons, List.map_nil]); first | done | rfl | (simp only [List.length_drop, List.length_take]; rfl)) ?_
      with_reducible refine (pedigreeref29_Facts.calls k _ _ l0_1 t115 _ ?side1 ?side2 A6.out).mono ?_
      (case side1 => exact upC (Kd.C_below HR0_1.out HB.out))
      (case side2 => exact HC0_1.out)
      rintro e w24 ⟨rfl, hb⟩
      refine ⟨_, rfl, ?_⟩
      have n0_ := Aside0.mk (blk_below (g := gb112) (o := .cells #[.int .i64 a0_0, .slice A0_1 l0_1.length c0_1, .slice A0_2 l0_2.length c0_2] 24 (0, 0)) (upO BK112.out) hb)
      have n1_ := Aside0.mk (below_step (upB HB.out) hb)
      clear BK112
      clear HB
      have BK112 := n0_
      have HB := n1_
      clear n0_ n1_
      (try clear hb)
      (try clear hb2)
      (try clear hk)
      (try clear hi)
      refine hK.out _ _ ⟨(blk_cell BK112.out 0).trans rfl, (blk_cell BK112.out 1).trans rfl, (blk_cell BK112.out 2).trans rfl⟩ (fun hHeld => ?_)
      clear hK K
      refine normS (some 15) ?_
      refine pureS 8 (some 16) HT_ ?_
      refine one_ (i := 11) (N := some 19) #[true, true, true, true, true, true, true, true, true, true, true, true, false,false] rfl rfl (one_of HT_.out (by kernel_rfl)) (by decide) (fun K hK => ?_)
      refine goes_ Tryz.func20 (by kernel_rfl) rfl #[.slice A0_2 l0_2.length c0_2] (by rfl) rfl rfl (by (try simp only [List.map_toArray, List.map_cons, List.map_nil]); first | done | rfl | (simp only [List.length_drop, List.length_take]; rfl)) ?_
      with_reducible refine (pedigreeref29_Facts.calls k _ _ l0_2 t116 _ ?side1 ?side2 A8.out).mono ?_
      (case side1 => exact upC (Kd.C_below HR0_2.out HB.out))
      (case side2 => exact HC0_2.out)
      rintro e w25 ⟨rfl, hb⟩
      refine ⟨_, rfl, ?_⟩
      have n0_ := Aside0.mk (blk_below (g := gb112) (o := .cells #[.int .i64 a0_0, .slice A0_1 l0_1.length c0_1, .slice A0_2 l0_2.length c0_2] 24 (0, 0)) (upO BK112.out) hb)
      have n1_ := Aside0.mk (below_step (upB HB.out) hb)
      clear BK112
      clear HB
      have BK112 := n0_
      have HB := n1_
      clear n0_ n1_
      (try clear hb)
      (try clear hb2)
      (try clear hk)
      (try clear hi)
      refine hK.out _ _ ⟨(blk_cell BK112.out 0).trans rfl, (blk_cell BK112.out 1).trans rfl, (blk_cell BK112.out 2).trans rfl⟩ (fun hHeld => ?_)
      clear hK K
      refine normS (some 19) ?_
      refine pureS 12 (some 20) HT_ ?_
      refine pureS 13 (some 4) HT_ ?_
      refine done_ (done_of HT_.out (by kernel_rfl)) ?_
      try go_wp2_with (first | ((with_reducible refine gate_callee (f := 21) rfl ?_); refine goesS (some 25) Tryz.func21 #[.string ((((⟨#[67]⟩ : ByteArray) ++ t114) ++ t115) ++ t116)] ?_; (with_reducible refine (pedigreeref29_Frame.calls k ((((⟨#[67]⟩ : ByteArray) ++ t114) ++ t115) ++ t116) t117 _ A18.out).mono ?_); rintro e w26 ⟨rfl, hb⟩; refine ⟨_, rfl, ?_⟩; have n0_ := Aside0.mk (blk_below (g := gb112) (o := .cells #[.int .i64 a0_0, .slice A0_1 l0_1.length c0_1, .slice A0_2 l0_2.length c0_2] 24 (0, 0)) (upO BK112.out) hb); have n1_ := Aside0.mk (below_step (upB HB.out) hb); clear BK112; clear HB; have BK112 := n0_; have HB := n1_; clear n0_ n1_; (try clear hb); (try clear hb2); (try clear hk); (try clear hi)))
      go_ret2
      exact ⟨eqE, upB HB.out⟩
    ·rw [if_neg c9] at H
     exact absurd H (by simp)
   ·rw [if_neg c7] at H
    exact absurd H (by simp)
  ·rw [if_neg c5] at H
   exact absurd H (by simp)
 ·replace c3 := Bool.eq_false_iff.mpr c3
  subst c3
  have H1 : (some ((⟨#[]⟩ : ByteArray), 1)) = some (r1, r2) := by rw [if_neg (show ¬ (false = true) by decide)] at H; exact H
  clear H
  have H := H1
  clear H1
  simp only [Option.some.injEq, Prod.mk.injEq] at H
  obtain ⟨rfl, rfl⟩ := H
  go_enter Tryz.func7, Tryz.ntmps7
  go_wp2_with (first | ((with_reducible refine gate_dst (N := 1) rfl ?_); refine boxS 1 #[.int .i64 a0_0, .slice A0_1 l0_1.length c0_1, .slice A0_2 l0_2.length c0_2] 24 ?_; intro gb112 hg w27 hbox hb; have n0_ := Aside0.mk (below_step (upB HB.out) hb); have n1_ := Aside0.mk (hbox); have n2_ := Aside0.mk (geB hg (upB HB.out) : w.heap.size ≤ gb112); have n3_ := Aside0.mk (geB hg (upB HB.out) : w.heap.size ≤ gb112); clear HB; have HB := n0_; have BK112 := n1_; have GW112 := n2_; have GE112 := n3_; clear n0_ n1_ n2_ n3_; clear hb hbox hg; have hcz28_0 : w27.cell? ⟨gb112, 0, none⟩ = some (.int .i64 a0_0) := (blk_cell BK112.out 0).trans rfl; have hcz28_1 : w27.cell? ⟨gb112, 1, none⟩ = some (.slice A0_1 l0_1.length c0_1) := (blk_cell BK112.out 1).trans rfl; have hcz28_2 : w27.cell? ⟨gb112, 2, none⟩ = some (.slice A0_2 l0_2.length c0_2) := (blk_cell BK112.out 2).trans rfl; have hfz28_0 := blk_frozen BK112.out 0; have hfz28_1 := blk_frozen BK112.out 1; have hfz28_2 := blk_frozen BK112.out 2) | ((with_reducible refine gate_callee (f := 15) rfl ?_); refine goesS (some 6) Tryz.func15 #[.agg #[.int .i64 a0_0, .slice A0_1 l0_1.length c0_1, .slice A0_2 l0_2.length c0_2]] ?_; (with_reducible refine (pedigreeref29_Good.calls k a0_0 _ _ l0_1 _ _ l0_2 false _ ?side1 ?side2 ?side3 ?side4 A2.out).mono ?_); (case side1 => exact upC (Kd.C_below HR0_1.out HB.out)); (case side2 => exact HC0_1.out); (case side3 => exact upC (Kd.C_below HR0_2.out HB.out)); (case side4 => exact HC0_2.out); rintro e w29 ⟨rfl, hb⟩; refine ⟨_, rfl, ?_⟩; have n0_ := Aside0.mk (blk_below (g := gb112) (o := .cells #[.int .i64 a0_0, .slice A0_1 l0_1.length c0_1, .slice A0_2 l0_2.length c0_2] 24 (0, 0)) (upO BK112.out) hb); have n1_ := Aside0.mk (below_step (upB HB.out) hb); clear BK112; clear HB; have BK112 := n0_; have HB := n1_; clear n0_ n1_; (try clear hb); (try clear hb2); (try clear hk); (try clear hi)))
  go_ret2
  exact ⟨eqE, upB HB.out⟩
end Go.Proofs.J.Print
end
section
namespace Go.Proofs.J.Print
open Go.RowKit Go.Proofs.PrintWords Go.Proofs.PrintLast Go.Proofs.PrintMore
def pedigreeref29_Number.l0 : Nat → ByteArray → Int → Int → Option (Int)
 | 0, _, _, _ => none
 | k + 1, x0, x3, x4 => if x4 ≥ 0 then (if 0 ≤ x4 then (if x4 < (x0.size : Int) then (pedigreeref29_Number.l0 k x0 (IntKind.u64.wrap ((IntKind.u64.wrap (256 * x3)) + (IntKind.u64.wrap (bt x0 x4)))) (wrap64 (x4 - 1))) else (none)) else (none)) else (some x3)
def pedigreeref29_Number.f (k : Nat) (a0 : ByteArray) : Option (Int) := pedigreeref29_Number.l0 k a0 0 (wrap64 ((a0.size : Int) - 1))
end Go.Proofs.J.Print
end
section
namespace Go.Proofs.J.Print
open Go.RowKit Go.Proofs.PrintWords Go.Proofs.PrintLast Go.Proofs.PrintMore
mutual
def pedigreeref29_Body.j0 : Nat → ByteArray → Bool → Option (ByteArray × Bool)
 | 0, _, _ => none
 | k + 1, x0, x16 => if x16 = true then (some ((⟨#[]⟩ : ByteArray), false)) else (if 0 ≤ 4 then (if 4 ≤ (x0.size : Int) then ((pedigreeref29_Number.f k (x0.extract 0 4)).bind fun t122 => (if (wrap64 (t122)) > 16777216 then (pedigreeref29_Body.j1 k x0 (wrap64 (t122)) true) else (pedigreeref29_Body.j1 k x0 (wrap64 (t122)) (decide ((x0.size : Int) < (wrap64 (10 + (wrap64 (t122))))))))) else (none)) else (none))
def pedigreeref29_Body.j1 : Nat → ByteArray → Int → Bool → Option (ByteArray × Bool)
 | 0, _, _, _ => none
 | k + 1, x0, x4, x29 => if x29 = true then (some ((⟨#[]⟩ : ByteArray), false)) else (if 8 ≤ (wrap64 (8 + x4)) then (if (wrap64 (8 + x4)) ≤ (x0.size : Int) then ((pedigreeref29_Sum.f k (x0.extract 8 ((wrap64 (8 + x4)) : Int).toNat)).bind fun t123 => ((pedigreeref29_Bytes.f k (IntKind.u64.wrap (t123)) 2).bind fun t124 => (if 0 ≤ (wrap64 (8 + x4)) then (if (wrap64 (8 + x4)) ≤ (wrap64 (10 + x4)) then (if (wrap64 (10 + x4)) ≤ (x0.size : Int) then (if t124.toList = (x0.extract ((wrap64 (8 + x4)) : Int).toNat ((wrap64 (10 + x4)) : Int).toNat).toList then (some (x0.extract 8 ((wrap64 (8 + x4)) : Int).toNat, true)) else (some ((⟨#[]⟩ : ByteArray), false))) else (none)) else (none)) else (none)))) else (none)) else (none))
end
def pedigreeref29_Body.f (k : Nat) (a0 : ByteArray) : Option (ByteArray × Bool) := if (a0.size : Int) < 10 then (pedigreeref29_Body.j0 k a0 true) else (if 0 ≤ 4 then (if 4 ≤ (a0.size : Int) then ((pedigreeref29_turned.f k (a0.extract 0 4)).bind fun t121 => (if 4 ≤ 8 then (if 8 ≤ (a0.size : Int) then (pedigreeref29_Body.j0 k a0 (t121.toList != (a0.extract 4 8).toList)) else (none)) else (none))) else (none)) else (none))
end Go.Proofs.J.Print
end
section
namespace Go.Proofs.J.Print
open Go.RowKit Go.Proofs.PrintWords Go.Proofs.PrintLast Go.Proofs.PrintMore
def value_Check.f (a0_0 : Int) (a0_1 : Int) (a0_2 : ByteArray) : Option (Int) := if a0_0 = 1 then (if a0_2.toList = ([] : List UInt8) then (some 0) else (some 10)) else (if a0_0 = 2 then (if a0_1 = 0 then (if (a0_2.size : Int) ≤ 200 then (some 0) else (some 10)) else (some 10)) else (some 10))
set_option maxHeartbeats 8000000 in
set_option maxRecDepth 100000 in
theorem value_Check.calls (a0_0 : Int) (a0_1 : Int) (a0_2 : ByteArray) (r : Int) (w : World) (h : value_Check.f a0_0 a0_1 a0_2 = some r) :
  Calls Tryz.prog 199 #[.agg #[.int .i8 a0_0, .int .i64 a0_1, .string a0_2]] w fun e w' => e = .returned (.int .i64 r) ∧ Below w.heap.size w w' := by
 have hu85 := Tryz.underlying85
 have HB := Aside0.mk (Below.refl w.heap.size w)
 have H : (if a0_0 = 1 then (if a0_2.toList = ([] : List UInt8) then (some 0) else (some 10)) else (if a0_0 = 2 then (if a0_1 = 0 then (if (a0_2.size : Int) ≤ 200 then (some 0) else (some 10)) else (some 10)) else (some 10))) = some r := h
 clear h
 by_cases c2 : a0_0 = 1
 focus
  rw [if_pos c2] at H
  have c2b0 : (a0_0 == 1) = true := beq_iff_eq.mpr c2
  have c2b1 : (a0_0 != 1) = false := bne_eq_false_iff_eq.mpr c2
  clear c2
  by_cases c3 : a0_2.toList = ([] : List UInt8)
  focus
   rw [if_pos c3] at H
   have c3b0 : (a0_2.toList == ([] : List UInt8)) = true := beq_iff_eq.mpr c3
   have c3b1 : (a0_2.toList != ([] : List UInt8)) = false := bne_eq_false_iff_eq.mpr c3
   clear c3
   obtain rfl := Option.some.inj H
  rotate_right
  focus
   rw [if_neg c3] at H
   have c3b0 : (a0_2.toList == ([] : List UInt8)) = false := beq_eq_false_iff_ne.mpr c3
   have c3b1 : (a0_2.toList != ([] : List UInt8)) = true := bne_iff_ne.mpr c3
   obtain rfl := Option.some.inj H
 rotate_right
 focus
  rw [if_neg c2] at H
  have c2b0 : (a0_0 == 1) = false := beq_eq_false_iff_ne.mpr c2
  have c2b1 : (a0_0 != 1) = true := bne_iff_ne.mpr c2
  by_cases c8 : a0_0 = 2
  focus
   rw [if_pos c8] at H
   have c8b0 : (a0_0 == 2) = true := beq_iff_eq.mpr c8
   have c8b1 : (a0_0 != 2) = false := bne_eq_false_iff_eq.mpr c8
   clear c8
   by_cases c9 : a0_1 = 0
   focus
    rw [if_pos c9] at H
    have c9b0 : (a0_1 == 0) = true := beq_iff_eq.mpr c9
    have c9b1 : (a0_1 != 0) = false := bne_eq_false_iff_eq.mpr c9
    clear c9
    by_cases c10 : (a0_2.size : Int) ≤ 200
    focus
     rw [if_pos c10] at H
     have c10b0 := decide_eq_true c10
     have c10b1 : decide (a0_2.size ≤ 200) = true := decide_eq_true (by omega)
     clear c10
     obtain rfl := Option.some.inj H
    rotate_right
    focus
     rw [if_neg c10] at H
     have c10b0 := decide_eq_false c10
     have c10b1 : decide (a0_2.size ≤ 200) = false := decide_eq_false (by omega)
     clear c10
     obtain rfl := Option.some.inj H
   rotate_right
   focus
    rw [if_neg c9] at H
    have c9b0 : (a0_1 == 0) = false := beq_eq_false_iff_ne.mpr c9
    have c9b1 : (a0_1 != 0) = true := bne_iff_ne.mpr c9
    obtain rfl := Option.some.inj H
  rotate_right
  focus
   rw [if_neg c8] at H
   have c8b0 : (a0_0 == 2) = false := beq_eq_false_iff_ne.mpr c8
   have c8b1 : (a0_0 != 2) = true := bne_iff_ne.mpr c8
   obtain rfl := Option.some.inj H
 all_goals (go_enter Tryz.func199, Tryz.ntmps199; go_wp2_with (first | ((with_reducible refine gate_dst (N := 1) rfl ?_); (try (refine gate_guard (by rfl) ?_; dsimp only)); refine boxS 1 #[.int .i8 a0_0, .int .i64 a0_1, .string a0_2] 85 ?_; intro gb221 hg wq1 hbox hb; have n0_ := Aside0.mk (below_step (upB HB.out) hb); have n1_ := Aside0.mk (hbox); have n2_ := Aside0.mk (geB hg (upB HB.out) : w.heap.size ≤ gb221); have n3_ := Aside0.mk (geB hg (upB HB.out) : w.heap.size ≤ gb221); clear HB; have HB := n0_; have BK221 := n1_; have GW221 := n2_; have GE221 := n3_; clear n0_ n1_ n2_ n3_; clear hb hbox hg; have hczq1_0 : wq1.cell? ⟨gb221, 0, none⟩ = some (.int .i8 a0_0) := (blk_cell BK221.out 0).trans rfl; have hczq1_1 : wq1.cell? ⟨gb221, 1, none⟩ = some (.int .i64 a0_1) := (blk_cell BK221.out 1).trans rfl; have hczq1_2 : wq1.cell? ⟨gb221, 2, none⟩ = some (.string a0_2) := (blk_cell BK221.out 2).trans rfl; have hfzq1_0 := blk_frozen BK221.out 0; have hfzq1_1 := blk_frozen BK221.out 1; have hfzq1_2 := blk_frozen BK221.out 2)); first | (go_ret; exact ⟨eqE, upB HB.out⟩))
end Go.Proofs.J.Print
end
section
namespace Go.Proofs.J.Print
open Go.RowKit Go.Proofs.PrintWords Go.Proofs.PrintLast Go.Proofs.PrintMore
def strconv_FormatInt.f (a0 a1 : Int) : Option ByteArray := none
theorem strconv_FormatInt.calls (a0 a1 : Int) (r : ByteArray) (w : World) (h : strconv_FormatInt.f a0 a1 = some r) :
    Calls Tryz.prog 251 #[.int .i64 a0, .int .i64 a1] w fun e w' => e = .returned (.string r) ∧ Drawn0 w w' := by
  exact absurd h (by simp [strconv_FormatInt.f])
end Go.Proofs.J.Print
end
section
namespace Go.Proofs.J.Print
open Go.RowKit Go.Proofs.PrintWords Go.Proofs.PrintLast Go.Proofs.PrintMore
def lettB (c : Int) : Bool := decide (97 ≤ c) && decide (c ≤ 122) || decide (65 ≤ c) && decide (c ≤ 90) || decide (48 ≤ c) && decide (c ≤ 57) || c == 95
def allLett (s : ByteArray) (k : Nat) : Prop := ∀ j : Nat, j < k → lettB (bt s j) = true
def keyB (l : List UInt8) : Bool := l == [110, 111, 116] || l == [99, 111, 117, 110, 116] || l == [115, 117, 109] || l == [109, 105, 110] || l == [109, 97, 120] || l == [108, 101, 110] || l == [99, 104, 97, 114, 115] || l == [98, 97, 99, 107]
def lettsB (s : ByteArray) : Bool := (List.range s.size).all fun j => lettB (bt s j)
def nameB (s : ByteArray) : Bool := decide (0 < s.size) && (decide (s.size ≤ 120) && (decide (97 ≤ bt s 0) && (decide (bt s 0 ≤ 122) && (lettsB s && !keyB s.toList))))
def value_name.f (a0 : ByteArray) : Option Bool := some (nameB a0)
theorem lett_no {c : Int} (h1 : c < 97 ∨ 122 < c) (h2 : c < 65 ∨ 90 < c) (h3 : c < 48 ∨ 57 < c) (h4 : (c != 95) = true) : lettB c = false := by
  have h4' : (c == 95) = false := by simpa using h4
  unfold lettB
  rw [h4']
  simp only [Bool.or_false, Bool.or_eq_false_iff, Bool.and_eq_false_iff, decide_eq_false_iff_not]
  omega
theorem lett_yes {c : Int} (h : (97 ≤ c ∧ c ≤ 122) ∨ (65 ≤ c ∧ c ≤ 90) ∨ (48 ≤ c ∧ c ≤ 57) ∨ c = 95) : lettB c = true := by
  unfold lettB
  simp only [Bool.or_eq_true, Bool.and_eq_true, decide_eq_true_eq, beq_iff_eq]
  omega
theorem letters_read (w : World) (s : ByteArray) : ∀ k : Nat, k < s.size → (Lib.bytesWorld w 5 s).cell? ⟨w.heap.size, k, none⟩ = some (.int .u8 (bt s k)) := fun k hk => by
  rw [Lib.bytesWorld_cell w 5 s k hk]
  simp [bt, List.getD_eq_getElem?_getD, hk]
  rfl
theorem ret_bool {a b : Bool} (h : a = b) : Ending.returned (.bool a) = .returned (.bool b) := by rw [h]
theorem key_not {l : List UInt8} (h1 : (l == [110, 111, 116]) = false) (h2 : (l == [99, 111, 117, 110, 116]) = false) (h3 : (l == [115, 117, 109]) = false) (h4 : (l == [109, 105, 110]) = false) (h5 : (l == [109, 97, 120]) = false) (h6 : (l == [108, 101, 110]) = false) (h7 : (l == [99, 104, 97, 114, 115]) = false) (h8 : (l == [98, 97, 99, 107]) = false) : keyB l = false := by
  unfold keyB
  rw [h1, h2, h3, h4, h5, h6, h7, h8]; rfl
set_option maxHeartbeats 2000000 in
set_option maxRecDepth 100000 in
theorem name_main (s : ByteArray) (w : World) (h0 : 0 < s.size) (h1 : s.size ≤ 120) (h2 : 97 ≤ bt s 0) (h3 : bt s 0 ≤ 122) (r : Bool)
    (hno : Aside0 (∀ k : Nat, k < s.size → lettB (bt s k) = false → r = false)) (hyes : Aside0 (allLett s s.size → r = !keyB s.toList)) :
    Calls Tryz.prog 252 #[.string s] w fun e w' => e = .returned (.bool r) ∧ Below w.heap.size w w' := by
  have c0 : ((s.size : Int) == 0) = false := by rw [beq_eq_false_iff_ne]; omega
  have c1 : (s.size == 0) = false := by rw [beq_eq_false_iff_ne]; omega
  have c2 : decide (122 < bt s 0) = false := decide_eq_false (by omega)
  have hx : ∀ h : 0 < s.size, ((s[0]'h).toNat : Int) = bt s 0 := bt_at s 0
  have kb := fun W => print_bytes (P := Tryz.prog) 9 78 5 Tryz.underlying9 Tryz.underlying78 Tryz.underlying5 s W
  have hb := Aside0.mk (bytes_below (Below.refl w.heap.size w) (Nat.le_refl _) 5 s)
  have hl := letters_read w s
  go_enter Tryz.func252, Tryz.ntmps252
  go_wp2
  generalize Lib.bytesWorld w 5 s = W at *
  clear kb hx c0 c1 c2
  go_loop [26] (fun i => ∃ k : Nat, k ≤ s.size ∧ i = .int .i64 k ∧ Aside0 (allLett s k)) (fun i => s.size - (intOf i).toNat)
  case atStart => exact ⟨0, Nat.zero_le _, rfl, ⟨fun j hj => by omega⟩⟩
  case round =>
    obtain ⟨k, hk, rfl, hall⟩ := hrel
    by_cases hlt : k < s.size
    · have hc := hl k hlt
      have hr := bt_range s k
      obtain ⟨c, hx⟩ : ∃ c, Aside0 (bt s k = c) := ⟨_, ⟨rfl⟩⟩
      rw [hx.out] at hc hr
      clear hl hyes
      go_wp2
      all_goals first
        | (refine ⟨⟨k + 1, by omega, by go_num, ⟨fun j hj => ?_⟩⟩, by simp [intOf]; omega⟩
           by_cases e : j < k
           · exact hall.out j e
           · obtain rfl : j = k := by omega
             rw [hx.out]
             refine lett_yes ?_
             first | omega | exact .inr (.inr (.inr (by simp_all))))
        | (obtain rfl := hno.out k hlt (by rw [hx.out]; exact lett_no (by omega) (by omega) (by omega) (by assumption))
           go_ret
           exact ⟨rfl, hb.out⟩)
    · obtain rfl : k = s.size := by omega
      have hr := Aside0.mk (hyes.out hall.out)
      clear hl hyes hno hall
      go_wp2
      all_goals first
        | (exfalso; simp_all; done)
        | (go_ret
           refine ⟨ret_bool ?_, hb.out⟩
           rw [hr.out]
           first
             | (rw [key_not (by assumption) (by assumption) (by assumption) (by assumption) (by assumption) (by assumption) (by assumption) (by assumption)]; rfl)
             | (simp [keyB, *]; done))
set_option maxHeartbeats 1000000 in
set_option maxRecDepth 100000 in
theorem name_empty (s : ByteArray) (w : World) (h : s.size = 0) :
    Calls Tryz.prog 252 #[.string s] w fun e w' => e = .returned (.bool false) ∧ Below w.heap.size w w' := by
  have c0 : ((s.size : Int) == 0) = true := by rw [h]; rfl
  have c1 : (s.size == 0) = true := by rw [h]; rfl
  clear h
  go_enter Tryz.func252, Tryz.ntmps252
  go_wp2
  go_ret
  exact ⟨rfl, Below.refl _ _⟩
set_option maxHeartbeats 1000000 in
set_option maxRecDepth 100000 in
theorem name_long (s : ByteArray) (w : World) (h : 120 < s.size) :
    Calls Tryz.prog 252 #[.string s] w fun e w' => e = .returned (.bool false) ∧ Below w.heap.size w w' := by
  have c0 : ((s.size : Int) == 0) = false := by rw [beq_eq_false_iff_ne]; omega
  have c1 : (s.size == 0) = false := by rw [beq_eq_false_iff_ne]; omega
  go_enter Tryz.func252, Tryz.ntmps252
  go_wp2
  go_ret
  exact ⟨rfl, Below.refl _ _⟩
set_option maxHeartbeats 1000000 in
set_option maxRecDepth 100000 in
theorem name_low (s : ByteArray) (w : World) (h0 : 0 < s.size) (h1 : s.size ≤ 120) (h2 : bt s 0 < 97) :
    Calls Tryz.prog 252 #[.string s] w fun e w' => e = .returned (.bool false) ∧ Below w.heap.size w w' := by
  have c0 : ((s.size : Int) == 0) = false := by rw [beq_eq_false_iff_ne]; omega
  have c1 : (s.size == 0) = false := by rw [beq_eq_false_iff_ne]; omega
  have hx : ∀ h : 0 < s.size, ((s[0]'h).toNat : Int) = bt s 0 := bt_at s 0
  go_enter Tryz.func252, Tryz.ntmps252
  go_wp2
  go_ret
  exact ⟨rfl, Below.refl _ _⟩
set_option maxHeartbeats 1000000 in
set_option maxRecDepth 100000 in
theorem name_high (s : ByteArray) (w : World) (h0 : 0 < s.size) (h1 : s.size ≤ 120) (h2 : 122 < bt s 0) :
    Calls Tryz.prog 252 #[.string s] w fun e w' => e = .returned (.bool false) ∧ Below w.heap.size w w' := by
  have c0 : ((s.size : Int) == 0) = false := by rw [beq_eq_false_iff_ne]; omega
  have c1 : (s.size == 0) = false := by rw [beq_eq_false_iff_ne]; omega
  have c3 : decide (bt s 0 < 97) = false := decide_eq_false (by omega)
  have hx : ∀ h : 0 < s.size, ((s[0]'h).toNat : Int) = bt s 0 := bt_at s 0
  go_enter Tryz.func252, Tryz.ntmps252
  go_wp2
  go_ret
  exact ⟨rfl, Below.refl _ _⟩
theorem value_name.calls (a0 : ByteArray) (r : Bool) (w : World) (h : value_name.f a0 = some r) :
    Calls Tryz.prog 252 #[.string a0] w fun e w' => e = .returned (.bool r) ∧ Below w.heap.size w w' := by
  obtain rfl := Option.some.inj h
  unfold nameB
  by_cases h0 : 0 < a0.size
  · by_cases h1 : a0.size ≤ 120
    · by_cases h2 : 97 ≤ bt a0 0
      · by_cases h3 : bt a0 0 ≤ 122
        · rw [decide_eq_true h0, decide_eq_true h1, decide_eq_true h2, decide_eq_true h3]
          simp only [Bool.true_and]
          refine name_main a0 w h0 h1 h2 h3 _ ⟨fun k hk hl => ?_⟩ ⟨fun ha => ?_⟩
          · have : lettsB a0 = false := by
              unfold lettsB
              rw [List.all_eq_false]
              exact ⟨k, List.mem_range.2 hk, by rw [hl]; simp⟩
            rw [this]; rfl
          · have : lettsB a0 = true := by
              unfold lettsB
              rw [List.all_eq_true]
              exact fun j hj => ha j (List.mem_range.1 hj)
            rw [this]; rfl
        · rw [decide_eq_false h3]
          simp only [Bool.false_and, Bool.and_false]
          exact name_high a0 w h0 h1 (by omega)
      · rw [decide_eq_false h2]
        simp only [Bool.false_and, Bool.and_false]
        exact name_low a0 w h0 h1 (by omega)
    · rw [decide_eq_false h1]
      simp only [Bool.false_and, Bool.and_false]
      exact name_long a0 w (by omega)
  · rw [decide_eq_false h0]
    simp only [Bool.false_and]
    exact name_empty a0 w (by omega)
end Go.Proofs.J.Print
end
section
namespace Go.Proofs.J.Print
open Go.RowKit Go.Proofs.PrintWords Go.Proofs.PrintLast Go.Proofs.PrintMore
theorem sizeBuilder : (Tryz.prog.info? 379).map (·.size) = some 2 := by kernel_rfl
theorem liesBuilder : liesAt Tryz.prog Tryz.prog.depth 379 (2 / Tryz.prog.cellsOf 379) 0 379 1 = true := by kernel_rfl
theorem infoByte : (Tryz.prog.info? 5).map (fun i => (i.zero, i.size, i.bytes)) = some (some (.int .u8 0), 1, 1) := by kernel_rfl
set_option maxHeartbeats 1000000 in
set_option maxRecDepth 100000 in
theorem Bld_copyCheck_used (b : Nat) (w : World) (h0 : w.cell? ⟨b, 0, none⟩ = some (.pointer (some ⟨b, 0, none⟩))) :
    Calls Tryz.prog 347 #[.pointer (some ⟨b, 0, none⟩)] w fun e w' => e = .returned (.tuple #[]) ∧ w' = w := by
  obtain ⟨j, hj, _⟩ := Option.map_eq_some_iff.1 sizeBuilder
  go_enter Tryz.func347, Tryz.ntmps347
  go_wp2
  rw [Lib.run_neq_ptr_same w _ Tryz.underlying377 hj]
  go_wp2
  go_end0
  exact ⟨rfl, rfl⟩
set_option maxHeartbeats 1000000 in
set_option maxRecDepth 100000 in
theorem Bld_copyCheck_fresh (b : Nat) (w : World) (h0 : w.cell? ⟨b, 0, none⟩ = some (.pointer none)) (hsh : w.shape? b = some (379, 2)) (hfz : w.frozen? ⟨b, 0, none⟩ = false) :
    Calls Tryz.prog 347 #[.pointer (some ⟨b, 0, none⟩)] w fun e w' => e = .returned (.tuple #[]) ∧ w' = w.setCell ⟨b, 0, none⟩ (.pointer (some ⟨b, 0, none⟩)) := by
  obtain ⟨j, hj, hjs⟩ := Option.map_eq_some_iff.1 sizeBuilder
  go_enter Tryz.func347, Tryz.ntmps347
  go_wp2
  rw [Lib.run_to_unsafe w ⟨b, 0, none⟩ Tryz.underlying377 Tryz.underlying574 hj (by rw [hjs]; decide) hsh (Nat.zero_lt_succ 1)]
  simp only [Result.andThen]
  rw [Oper.upon_value]
  go_wp2
  rw [run_callFunc_extern Tryz.func434 (by kernel_rfl) (by kernel_rfl) (by kernel_rfl) (e := Extern.AbiNoEscape.same) (by kernel_rfl)]
  rw [Lib.run_noEscape]
  simp only [Result.andThen]
  rw [Oper.upon_value]
  go_wp2
  rw [Lib.run_from_unsafe w ⟨b, 0, none⟩ Tryz.underlying574 Tryz.underlying377 hj hsh liesBuilder]
  simp only [Result.andThen]
  rw [Oper.upon_value]
  go_wp2
  go_end0
  exact ⟨rfl, rfl⟩
theorem Bld_copyCheck (B b : Nat) (bs : List Value) (w : World) (h : Lib.IsBuilder 379 5 B b bs w) :
    Calls Tryz.prog 347 #[.pointer (some ⟨b, 0, none⟩)] w fun e w' => e = .returned (.tuple #[]) ∧ (Lib.BuilderAt 379 5 B b (.pointer (some ⟨b, 0, none⟩)) bs w' ∧ Below B w w') := by
  rcases h with h | h
  · refine (Bld_copyCheck_fresh b w h.cell0 h.shape h.frozen0).mono ?_
    rintro e w' ⟨rfl, rfl⟩
    exact ⟨rfl, h.used _, (Below.refl B w).setCell (p := ⟨b, 0, none⟩) h.1 _⟩
  · refine (Bld_copyCheck_used b w h.cell0).mono ?_
    rintro e w' ⟨rfl, rfl⟩
    exact ⟨rfl, h, Below.refl B _⟩
set_option maxHeartbeats 2000000 in
set_option maxRecDepth 100000 in
theorem Bld_WriteByte (B b : Nat) (bs : List Value) (c : Int) (w : World) (h : Lib.IsBuilder 379 5 B b bs w) (hlen : bs.length + 1 ≤ 140737488355328) (hBw : B ≤ w.heap.size) :
    Calls Tryz.prog 288 #[.pointer (some ⟨b, 0, none⟩), .int .u8 c] w fun e w' => e = .returned .nilIface ∧ (Lib.BuilderAt 379 5 B b (.pointer (some ⟨b, 0, none⟩)) (bs ++ [.int .u8 c]) w' ∧ Below B w w') := by
  obtain ⟨i0, hi, hz0, hz1, hz2⟩ := info_parts infoByte
  go_enter Tryz.func288, Tryz.ntmps288
  go_wp2_with (go_at_call 347; refine (Bld_copyCheck B b bs _ h).mono ?_)
  rintro e w1 ⟨rfl, h1, hb1⟩
  obtain ⟨hB, v, hbk, hown, hne⟩ := h1
  have c0 : w1.cell? ⟨b, 0, none⟩ = some (.pointer (some ⟨b, 0, none⟩)) := by rw [Lib.cell_of_heap hbk]; rfl
  have c1 : w1.cell? ⟨b, 1, none⟩ = some v := by rw [Lib.cell_of_heap hbk]; rfl
  go_wp2_with (at_builtin; refine wpList_append_own _ rfl _ _ 78 rfl B 5 i0 (.int .u8 0) 1 1 Tryz.underlying78 hi hz0 hz1 hz2 rfl (by decide) _ _ _ rfl (hown.alloc _) ⟨w1.heap.size, 0, none⟩ 1 1 [.int .u8 c] rfl rfl ?c1 ?c2 ?c3 ?c4 ?c5 ?_)
  case c1 =>
    intro j u hj
    match j, hj with
    | 0, hj => simp at hj; subst hj; simp [Addr.add]
  case c2 => intro u hu; simp at hu; subst hu; rfl
  case c3 => unfold maxLen; omega
  case c4 => omega
  case c5 => have := hb1.size; simp; omega
  intro v' w2 hown' hgrow _
  have hlt : b < w1.heap.size := by
    rcases Nat.lt_or_ge b w1.heap.size with h' | h'
    · exact h'
    · simp [Array.getElem?_eq_none h'] at hbk
  have hb2 : w2.heap[b]? = some (.cells #[.pointer (some ⟨b, 0, none⟩), v] 379 (0, 0)) := by
    rw [hgrow.block b (by simp; omega) (fun e => hne e.symm), Lib.alloc_old w1 _ b hlt]
    exact hbk
  have d0 : w2.cell? ⟨b, 0, none⟩ = some (.pointer (some ⟨b, 0, none⟩)) := by rw [Lib.cell_of_heap hb2]; rfl
  have d1 : w2.cell? ⟨b, 1, none⟩ = some v := by rw [Lib.cell_of_heap hb2]; rfl
  have f1 : w2.frozen? ⟨b, 1, none⟩ = false := Lib.frozen_of_heap hb2 1
  obtain ⟨g, cap, rfl⟩ : ∃ g cap, v' = .slice (some ⟨g, 0, none⟩) (bs.length + 1) cap := by
    rcases hown'.2 with ⟨_, h0⟩ | ⟨g, cap, cur, hv, _⟩
    · omega
    · exact ⟨g, cap, hv⟩
  go_wp2
  go_ret
  refine ⟨rfl, ?_, ?_⟩
  · exact Lib.BuilderAt.put (T := 379) (e := 5) hB hb2 (bs' := bs ++ [.int .u8 c]) (by simpa using hown') (by decide)
  · exact ((hb1.alloc (by have := hb1.size; omega) _).grown hgrow (by have := hb1.size; simp; omega) (fun k hk => (hown.lt k hk).1)).setCell (p := ⟨b, 1, none⟩) hB _
end Go.Proofs.J.Print
end
section
namespace Go.Proofs.J.Print
open Go.RowKit Go.Proofs.PrintWords Go.Proofs.PrintLast Go.Proofs.PrintMore
def BldG (B b g : Nat) (bs : List Value) (w : World) : Prop :=
  B ≤ b ∧ g ≠ b ∧ g < w.heap.size ∧ ∃ v, w.heap[b]? = some (.cells #[.pointer (some ⟨b, 0, none⟩), v] 379 (0, 0)) ∧ w.ownsRow B 5 1 v bs.length bs ∧ v.ownBlock ≠ some b ∧ v.ownBlock ≠ some g
theorem BldG.is {B b g : Nat} {bs : List Value} {w : World} (h : BldG B b g bs w) : Lib.IsBuilder 379 5 B b bs w := by
  obtain ⟨hB, _, _, v, hb, ho, hne, _⟩ := h
  exact .inr ⟨hB, v, hb, ho, hne⟩
set_option maxHeartbeats 2000000 in
set_option maxRecDepth 100000 in
theorem BldG_WriteByte (B b g : Nat) (bs : List Value) (c : Int) (w : World) (h : BldG B b g bs w) (hlen : bs.length + 1 ≤ 140737488355328) (hBw : B ≤ w.heap.size) :
    Calls Tryz.prog 288 #[.pointer (some ⟨b, 0, none⟩), .int .u8 c] w fun e w' => e = .returned .nilIface ∧ (BldG B b g (bs ++ [.int .u8 c]) w' ∧ Below B w w' ∧ w'.heap[g]? = w.heap[g]?) := by
  obtain ⟨i0, hi, hz0, hz1, hz2⟩ := info_parts infoByte
  obtain ⟨hB, hgb, hgl, v, hbk, hown, hne, hng⟩ := h
  have hlt : b < w.heap.size := by
    rcases Nat.lt_or_ge b w.heap.size with h' | h'
    · exact h'
    · simp [Array.getElem?_eq_none h'] at hbk
  have c0 : w.cell? ⟨b, 0, none⟩ = some (.pointer (some ⟨b, 0, none⟩)) := by rw [Lib.cell_of_heap hbk]; rfl
  have c1 : w.cell? ⟨b, 1, none⟩ = some v := by rw [Lib.cell_of_heap hbk]; rfl
  go_enter Tryz.func288, Tryz.ntmps288
  go_wp2_with (go_at_call 347; refine (Bld_copyCheck_used b w c0).mono ?_)
  rintro e w1 ⟨rfl, hw1⟩
  subst hw1
  go_wp2_with (at_builtin; refine wpList_append_own_at _ rfl _ _ 78 rfl B 5 i0 (.int .u8 0) 1 1 Tryz.underlying78 hi hz0 hz1 hz2 rfl (by decide) _ _ _ rfl (hown.alloc _) ⟨w1.heap.size, 0, none⟩ 1 1 [.int .u8 c] rfl rfl ?c1 ?c2 ?c3 ?c4 ?c5 ?_)
  case c1 =>
    intro j u hj
    match j, hj with
    | 0, hj => simp at hj; subst hj; simp [Addr.add]
  case c2 => intro u hu; simp at hu; subst hu; rfl
  case c3 => unfold maxLen; omega
  case c4 => omega
  case c5 => simp; omega
  intro v' w2 hown' hgrow _ hat
  have hb2 : w2.heap[b]? = some (.cells #[.pointer (some ⟨b, 0, none⟩), v] 379 (0, 0)) := by
    rw [hgrow.block b (by simp; omega) (fun e => hne e.symm), Lib.alloc_old w1 _ b hlt]
    exact hbk
  have hg2 : w2.heap[g]? = w1.heap[g]? := by
    rw [hgrow.block g (by simp; omega) (fun e => hng e.symm), Lib.alloc_old w1 _ g hgl]
  have hsz : w1.heap.size < w2.heap.size := by have := hgrow.size; simp at this; omega
  have hng' : v'.ownBlock ≠ some g := by
    rcases hat with hat | hat
    · rw [hat]; exact hng
    · rw [hat]; simp; omega
  have d0 : w2.cell? ⟨b, 0, none⟩ = some (.pointer (some ⟨b, 0, none⟩)) := by rw [Lib.cell_of_heap hb2]; rfl
  have d1 : w2.cell? ⟨b, 1, none⟩ = some v := by rw [Lib.cell_of_heap hb2]; rfl
  have f1 : w2.frozen? ⟨b, 1, none⟩ = false := Lib.frozen_of_heap hb2 1
  obtain ⟨ao, n', cap, rfl⟩ : ∃ ao n' cap, v' = .slice ao n' cap := by
    rcases hown'.2 with ⟨hv, _⟩ | ⟨g, cap, cur, hv, _⟩
    · exact ⟨_, _, _, hv⟩
    · exact ⟨_, _, _, hv⟩
  go_wp2
  go_ret
  have hput := Lib.BuilderAt.put (p := .pointer (some ⟨b, 0, none⟩)) (T := 379) (e := 5) hB hb2 (bs' := bs ++ [.int .u8 c]) (by simpa using hown') (by decide)
  obtain ⟨_, v3, hb3, ho3, hn3⟩ := hput
  refine ⟨rfl, ⟨hB, hgb, by simp [World.setCell]; omega, v3, hb3, ho3, hn3, ?_⟩, ?_, ?_⟩
  · have : v3 = .slice ao n' cap := by
      have z := Lib.cell_of_heap hb3 1
      simp [World.setCell, World.cell?, Array.getElem?_modify, hb2] at z
      exact z.symm
    rw [this]; exact hng'
  · exact (((Below.refl B w1).alloc hBw _).grown hgrow (by simp; omega) (fun k hk => (hown.lt k hk).1)).setCell (p := ⟨b, 1, none⟩) hB _
  · rw [Below.heap_setCell _ _ _ _ (by simpa using hgb)]; exact hg2
set_option maxHeartbeats 2000000 in
set_option maxRecDepth 100000 in
theorem BldG_WriteString (B b g : Nat) (bs : List Value) (s : ByteArray) (w : World) (h : BldG B b g bs w) (hfr : ∃ cs n, w.heap[g]? = some (.cells cs 5 (n, n + 1))) (hlen : bs.length + s.size ≤ 140737488355328) (hBw : B ≤ w.heap.size) :
    Calls Tryz.prog 289 #[.pointer (some ⟨b, 0, none⟩), .string s] w fun e w' => e = .returned (.tuple #[.int .i64 s.size, .nilIface]) ∧ (BldG B b g (bs ++ Lib.strCells s) w' ∧ Below B w w' ∧ w'.heap[g]? = w.heap[g]?) := by
  obtain ⟨i0, hi, hz0, hz1, hz2⟩ := info_parts infoByte
  obtain ⟨hB, hgb, hgl, v, hbk, hown, hne, hng⟩ := h
  have hlt : b < w.heap.size := by
    rcases Nat.lt_or_ge b w.heap.size with h' | h'
    · exact h'
    · simp [Array.getElem?_eq_none h'] at hbk
  have c0 : w.cell? ⟨b, 0, none⟩ = some (.pointer (some ⟨b, 0, none⟩)) := by rw [Lib.cell_of_heap hbk]; rfl
  have c1 : w.cell? ⟨b, 1, none⟩ = some v := by rw [Lib.cell_of_heap hbk]; rfl
  go_enter Tryz.func289, Tryz.ntmps289
  go_wp2_with (go_at_call 347; refine (Bld_copyCheck_used b w c0).mono ?_)
  rintro e w1 ⟨rfl, hw1⟩
  subst hw1
  go_wp2_with (at_builtin; refine Lib.wpList_append_own_string _ rfl _ _ 78 9 rfl B 5 i0 Tryz.underlying78 Tryz.underlying9 hi hz0 hz1 hz2 _ _ _ rfl hown s rfl ?c3 ?c4 ?c5 ?_)
  case c3 => unfold maxLen; omega
  case c4 => omega
  case c5 => omega
  intro v' w2 hown' hgrow hat
  have hb2 : w2.heap[b]? = some (.cells #[.pointer (some ⟨b, 0, none⟩), v] 379 (0, 0)) := by
    rw [hgrow.block b hlt (fun e => hne e.symm)]
    exact hbk
  have hg2 : w2.heap[g]? = w1.heap[g]? := by
    rw [hgrow.block g hgl (fun e => hng e.symm)]
  have hsz : w1.heap.size ≤ w2.heap.size := hgrow.size
  have hng' : v'.ownBlock ≠ some g := by
    obtain ⟨cs, n, hc⟩ := hfr
    rw [← hg2] at hc
    intro hv
    rcases hown'.2 with ⟨rfl, _⟩ | ⟨g', cap, cur, rfl, _, hh, _⟩
    · simp [Value.ownBlock] at hv
    · simp [Value.ownBlock] at hv
      subst hv
      rw [hh] at hc
      injection hc with hc
      injection hc with _ _ hc
      injection hc with h1 h2
      omega
  have d0 : w2.cell? ⟨b, 0, none⟩ = some (.pointer (some ⟨b, 0, none⟩)) := by rw [Lib.cell_of_heap hb2]; rfl
  have d1 : w2.cell? ⟨b, 1, none⟩ = some v := by rw [Lib.cell_of_heap hb2]; rfl
  have f1 : w2.frozen? ⟨b, 1, none⟩ = false := Lib.frozen_of_heap hb2 1
  obtain ⟨ao, n', cap, rfl⟩ : ∃ ao n' cap, v' = .slice ao n' cap := by
    rcases hown'.2 with ⟨hv, _⟩ | ⟨g, cap, cur, hv, _⟩
    · exact ⟨_, _, _, hv⟩
    · exact ⟨_, _, _, hv⟩
  go_wp2
  go_ret2
  have hput := Lib.BuilderAt.put (p := .pointer (some ⟨b, 0, none⟩)) (T := 379) (e := 5) hB hb2 (bs' := bs ++ Lib.strCells s) (by simpa [Lib.strCells_length] using hown') (by decide)
  obtain ⟨_, v3, hb3, ho3, hn3⟩ := hput
  refine ⟨rfl, ⟨hB, hgb, by simp [World.setCell]; omega, v3, hb3, ho3, hn3, ?_⟩, ?_, ?_⟩
  · have : v3 = .slice ao n' cap := by
      have z := Lib.cell_of_heap hb3 1
      simp [World.setCell, World.cell?, Array.getElem?_modify, hb2] at z
      exact z.symm
    rw [this]; exact hng'
  · exact ((Below.refl B w1).grown hgrow hBw (fun k hk => (hown.lt k hk).1)).setCell (p := ⟨b, 1, none⟩) hB _
  · rw [Below.heap_setCell _ _ _ _ (by simpa using hgb)]; exact hg2
end Go.Proofs.J.Print
end
section
namespace Go.Proofs
open Go.Shelf
def Tryz.lays169_ren : Go.Shelf.Ren := ⟨fun | 169 => 266 | n => n, fun | 70 => 377 | 9 => 9 | 0 => 0 | 72 => 379 | 37 => 78 | 127 => 446 | 3 => 3 | 5 => 5 | n => n, fun | n => n⟩
theorem Tryz.lays169 : Go.Proofs.Lays.n169 Tryz.prog Tryz.lays169_ren := {
  mixed := by kernel_rfl
  f169 := Tryz.func266.trans (congrArg some (by kernel_rfl))
  t0 := Tryz.underlying0
  a0 := Tryz.isAgg0
  z0 := Tryz.sizeOf0
  v0 := Tryz.zeroValue0
  t3 := Tryz.underlying3
  a3 := Tryz.isAgg3
  z3 := Tryz.sizeOf3
  v3 := Tryz.zeroValue3
  t9 := Tryz.underlying9
  a9 := Tryz.isAgg9
  z9 := Tryz.sizeOf9
  v9 := Tryz.zeroValue9
  t37 := Tryz.underlying78
  a37 := Tryz.isAgg78
  z37 := Tryz.sizeOf78
  v37 := Tryz.zeroValue78
  t70 := Tryz.underlying377
  a70 := Tryz.isAgg377
  z70 := Tryz.sizeOf377
  v70 := Tryz.zeroValue377
  t72 := Tryz.underlying379
  a72 := Tryz.isAgg379
  z72 := Tryz.sizeOf379
  v72 := Tryz.zeroValue379
  t127 := Tryz.underlying446
  a127 := Tryz.isAgg446
  z127 := Tryz.sizeOf446
  v127 := Tryz.zeroValue446 }
theorem Tryz.Builder_Extra_169 : Builder.Extra Tryz.prog Tryz.lays169_ren := {
  sizeBuilder := by kernel_rfl
  liesBuilder := by kernel_rfl
  t5 := Tryz.underlying5
  a5 := Tryz.isAgg5
  z5 := Tryz.sizeOf5
  v5 := Tryz.zeroValue5
  infoByte := by kernel_rfl
  cellsByte := by kernel_rfl
  sizeByte := by kernel_rfl
  neB5 := by decide }
open Go.RowKit in
theorem Tryz.Builder_String_any (B b : Nat) (l : List UInt8) (w : World) (h : Lib.IsBuilder 379 5 B b (Lib.byteCells l) w) (hBw : B ≤ w.heap.size) :
    Calls Tryz.prog 266 #[.pointer (some ⟨b, 0, none⟩)] w fun e w' => e = .returned (.string ⟨l.toArray⟩) ∧ Below B w w' := Any.Builder_String_any Tryz.lays169 Tryz.Builder_Extra_169 B b l w h hBw
end Go.Proofs
end
section
namespace Go.Proofs.J.Print
open Go.RowKit Go.Proofs.PrintWords Go.Proofs.PrintLast Go.Proofs.PrintMore
def hexI (d : Int) : Int := if d < 10 then 48 + d else 87 + d
def escI (c : Int) : List Int := if c = 10 then [92, 110] else if c = 34 then [92, c] else if c = 92 then [92, c] else if c < 32 then [92, 120, hexI (c / 16), hexI (c % 16)] else if 126 < c then [92, 120, hexI (c / 16), hexI (c % 16)] else [c]
def escs (s : ByteArray) (k : Nat) : List Int := (List.range k).flatMap fun (j : Nat) => escI (bt s j)
def quoteI (s : ByteArray) : List Int := (34 :: escs s s.size) ++ [34]
def value_quoted.f (a0 : ByteArray) : Option ByteArray := if a0.size ≤ 1000000 then some (strOfNums (quoteI a0)) else none
theorem escs_succ (s : ByteArray) (k : Nat) : escs s (k + 1) = escs s k ++ escI (bt s k) := by
  unfold escs
  rw [List.range_succ, List.flatMap_append]
  simp
theorem hexI_range {d : Int} (h0 : 0 ≤ d) (h1 : d < 16) : 0 ≤ hexI d ∧ hexI d ≤ 255 := by unfold hexI; split <;> omega
theorem escI_range {c : Int} (h0 : 0 ≤ c) (h1 : c ≤ 255) : ∀ x ∈ escI c, 0 ≤ x ∧ x ≤ 255 := by
  have ha := hexI_range (d := c / 16) (by omega) (by omega)
  have hb := hexI_range (d := c % 16) (by omega) (by omega)
  intro x hx
  unfold escI at hx
  repeat' split at hx
  all_goals simp only [List.mem_cons, List.not_mem_nil, or_false] at hx
  all_goals (rcases hx with rfl | rfl | rfl | rfl) <;> omega
theorem escs_range (s : ByteArray) (k : Nat) : ∀ x ∈ escs s k, 0 ≤ x ∧ x ≤ 255 := by
  intro x hx
  unfold escs at hx
  rw [List.mem_flatMap] at hx
  obtain ⟨j, _, hx⟩ := hx
  have := bt_range s j
  exact escI_range this.1 this.2 x hx
theorem quoteI_range (s : ByteArray) : ∀ x ∈ quoteI s, 0 ≤ x ∧ x ≤ 255 := by
  intro x hx
  unfold quoteI at hx
  simp only [List.cons_append, List.mem_cons, List.mem_append, List.not_mem_nil, or_false] at hx
  rcases hx with rfl | hx | rfl
  · omega
  · exact escs_range s _ x hx
  · omega
theorem cells_of_nums (xs : List Int) (h : ∀ x ∈ xs, 0 ≤ x ∧ x ≤ 255) : nums .u8 xs = Lib.byteCells (strOfNums xs).data.toList := by
  rw [strOfNums_data]
  unfold nums Lib.byteCells
  rw [List.map_map]
  apply List.map_congr_left
  intro x hx
  have := h x hx
  simp
  omega
def hexs : ByteArray := ⟨#[48, 49, 50, 51, 52, 53, 54, 55, 56, 57, 97, 98, 99, 100, 101, 102]⟩
theorem hex_at (d : Int) (h0 : 0 ≤ d) (h1 : d < 16) : bt hexs d = hexI d := by
  obtain ⟨n, rfl⟩ := Int.eq_ofNat_of_zero_le h0
  have hn : n < 16 := by omega
  have : ∀ m : Fin 16, bt hexs (m.val : Int) = hexI (m.val : Int) := by decide
  exact this ⟨n, hn⟩
def BytesAt (g : Nat) (s : ByteArray) (w : World) : Prop := (∃ cs n, w.heap[g]? = some (.cells cs 5 (n, n + 1))) ∧ ∀ k : Nat, k < s.size → w.cell? ⟨g, k, none⟩ = some (.int .u8 (bt s k))
theorem BytesAt.step {g : Nat} {s : ByteArray} {w w' : World} (h : BytesAt g s w) (hg : w'.heap[g]? = w.heap[g]?) : BytesAt g s w' := by
  refine ⟨by rw [hg]; exact h.1, fun k hk => ?_⟩
  rw [← h.2 k hk]
  simp [World.cell?, hg]
theorem bytesAt_new (w : World) (s : ByteArray) : BytesAt w.heap.size s (Lib.bytesWorld w 5 s) := ⟨⟨_, _, Lib.bytesWorld_at_new w 5 s⟩, letters_read w s⟩
structure QInv (B b g : Nat) (s : ByteArray) (k : Nat) (bs : List Value) (w0 w : World) : Prop where
  bld : BldG B b g bs w
  says : bs = nums .u8 (34 :: escs s k)
  byt : BytesAt g s w
  bel : Below B w0 w
  le : B ≤ w.heap.size
theorem QInv.next {B b g : Nat} {s : ByteArray} {k : Nat} {bs bs' : List Value} {w0 w w' : World} (h : QInv B b g s k bs w0 w) (hb : BldG B b g bs' w') (hs : bs' = bs ++ nums .u8 (escI (bt s k))) (hB : Below B w w') (hg : w'.heap[g]? = w.heap[g]?) : QInv B b g s (k + 1) bs' w0 w' := by
  refine ⟨hb, ?_, h.byt.step hg, h.bel.trans hB, Nat.le_trans h.le hB.size⟩
  rw [hs, h.says, escs_succ, ← nums_append]
  rfl
set_option maxHeartbeats 4000000 in
set_option maxRecDepth 100000 in
theorem quoted_main (s : ByteArray) (w : World) (hs : s.size ≤ 1000000) :
    Calls Tryz.prog 253 #[.string s] w fun e w' => e = .returned (.string (strOfNums (quoteI s))) ∧ Below w.heap.size w w' := by
  have kb := fun W => print_bytes (P := Tryz.prog) 9 78 5 Tryz.underlying9 Tryz.underlying78 Tryz.underlying5 s W
  go_enter Tryz.func253, Tryz.ntmps253
  go_wp2_with fail
  refine (Bld_WriteByte w.heap.size w.heap.size [] 34 _ (Lib.fresh_isBuilder 379 5 w) (by simp) (by simp)).mono ?_
  rintro e w1 ⟨rfl, hb1, hbel1⟩
  have hinv := Aside0.mk (show QInv w.heap.size w.heap.size w1.heap.size s 0 [.int .u8 34] w (Lib.bytesWorld w1 5 s) by
    obtain ⟨hB, v, hbk, hown, hne⟩ := hb1
    have hlt : w.heap.size < w1.heap.size := by
      rcases Nat.lt_or_ge w.heap.size w1.heap.size with h' | h'
      · exact h'
      · simp [Array.getElem?_eq_none h'] at hbk
    have hbel : Below w.heap.size w (Lib.bytesWorld w1 5 s) := bytes_below (((Below.refl _ w).alloc (Nat.le_refl _) _).trans hbel1) (by omega) 5 s
    refine ⟨⟨hB, by omega, by rw [Lib.bytesWorld_size]; omega, v, ?_, ?_, hne, fun hv => ?_⟩, by simp [nums, escs], bytesAt_new w1 s, hbel, hbel.size⟩
    · rw [Lib.bytesWorld_at_old w1 5 s _ hlt]; exact hbk
    · exact pw_own_below (by simpa using hown) (bytes_below (Below.refl w1.heap.size w1) (Nat.le_refl _) 5 s)
    · have := own_lt hown _ hv; omega)
  clear hb1 hbel1
  go_wp2_with fail
  clear kb
  generalize w1.heap.size = g at *
  generalize Lib.bytesWorld w1 5 s = W at *
  go_loopw [10] (fun i wr => ∃ k : Nat, ∃ bs : List Value, k ≤ s.size ∧ i = .int .i64 k ∧ bs.length ≤ 4 * k + 1 ∧ Aside0 (QInv w.heap.size w.heap.size g s k bs w wr)) (fun i _ => s.size - (intOf i).toNat)
  case atStart => exact ⟨0, _, Nat.zero_le _, rfl, by simp, hinv⟩
  case round =>
    clear hinv
    obtain ⟨k, bs, hk, rfl, hlen, hq⟩ := hrel
    have hle := hq.out.le
    by_cases hlt : k < s.size
    · have hc := hq.out.byt.2 k hlt
      obtain ⟨c, hx⟩ : ∃ c, Aside0 (bt s k = c) := ⟨_, ⟨rfl⟩⟩
      have hr := bt_range s k
      rw [hx.out] at hc hr
      by_cases h10 : c = 10
      · have e10 : (c == 10) = true := by simpa using h10
        have H10 := Aside0.mk h10
        clear h10
        go_wp2_with fail
        refine (BldG_WriteString _ _ _ _ ⟨#[92, 110]⟩ _ hq.out.bld hq.out.byt.1 (by simp [ByteArray.size]; omega) hle).mono ?_
        rintro e w2 ⟨rfl, hb2, hbel2, hg2⟩
        have hn := Aside0.mk (hq.out.next hb2 (by rw [hx.out, H10.out]; rfl) hbel2 hg2)
        clear hb2 hbel2 hg2
        go_wp2_with fail
        go_roundw
        case rel => exact ⟨k + 1, _, by omega, by go_num, by simp [Lib.strCells]; omega, hn⟩
        case measure => simp [intOf]; omega
      have e10 : (c == 10) = false := by simpa using h10
      by_cases h34 : c = 34
      · have e34 : (c == 34) = true := by simpa using h34
        have H34 := Aside0.mk h34
        clear h34 h10
        go_wp2_with fail
        refine (BldG_WriteByte _ _ _ _ 92 _ hq.out.bld (by omega) hle).mono ?_
        rintro e w2 ⟨rfl, hb2, hbel2, hg2⟩
        go_wp2_with fail
        refine (BldG_WriteByte _ _ _ _ c _ hb2 (by simp; omega) (Nat.le_trans hle hbel2.size)).mono ?_
        rintro e w3 ⟨rfl, hb3, hbel3, hg3⟩
        have hn := Aside0.mk (hq.out.next hb3 (by rw [hx.out, H34.out]; simp [escI, nums]) (hbel2.trans hbel3) (hg3.trans hg2))
        clear hb2 hbel2 hg2 hb3 hbel3 hg3
        go_wp2_with fail
        go_roundw
        case rel => exact ⟨k + 1, _, by omega, by go_num, by simp; omega, hn⟩
        case measure => simp [intOf]; omega
      have e34 : (c == 34) = false := by simpa using h34
      by_cases h92 : c = 92
      · have e92 : (c == 92) = true := by simpa using h92
        have H92 := Aside0.mk h92
        clear h92 h34 h10
        go_wp2_with fail
        refine (BldG_WriteByte _ _ _ _ 92 _ hq.out.bld (by omega) hle).mono ?_
        rintro e w2 ⟨rfl, hb2, hbel2, hg2⟩
        go_wp2_with fail
        refine (BldG_WriteByte _ _ _ _ c _ hb2 (by simp; omega) (Nat.le_trans hle hbel2.size)).mono ?_
        rintro e w3 ⟨rfl, hb3, hbel3, hg3⟩
        have hn := Aside0.mk (hq.out.next hb3 (by rw [hx.out, H92.out]; simp [escI, nums]) (hbel2.trans hbel3) (hg3.trans hg2))
        clear hb2 hbel2 hg2 hb3 hbel3 hg3
        go_wp2_with fail
        go_roundw
        case rel => exact ⟨k + 1, _, by omega, by go_num, by simp; omega, hn⟩
        case measure => simp [intOf]; omega
      have e92 : (c == 92) = false := by simpa using h92
      have hesc : Aside0 (¬ c = 10 ∧ ¬ c = 34 ∧ ¬ c = 92) := ⟨h10, h34, h92⟩
      clear h10 h34 h92
      by_cases hodd : c < 32 ∨ 126 < c
      · have hE : Aside0 (escI c = [92, 120, hexI (c / 16), hexI (c % 16)]) := ⟨by
          unfold escI
          rw [if_neg hesc.out.1, if_neg hesc.out.2.1, if_neg hesc.out.2.2]
          rcases hodd with h | h
          · rw [if_pos h]
          · rw [if_neg (by omega), if_pos h]⟩
        have hlo1 : decide (c < 32) = true ∨ (decide (c < 32) = false ∧ decide (126 < c) = true) := by
          rcases hodd with h | h
          · exact .inl (decide_eq_true h)
          · exact .inr ⟨decide_eq_false (by omega), decide_eq_true h⟩
        clear hodd
        rcases hlo1 with hlo | ⟨hlo, hhi⟩
        all_goals
          have hx1 : ∀ h : (c / 16).toNat < (⟨#[48, 49, 50, 51, 52, 53, 54, 55, 56, 57, 97, 98, 99, 100, 101, 102]⟩ : ByteArray).size, ((((⟨#[48, 49, 50, 51, 52, 53, 54, 55, 56, 57, 97, 98, 99, 100, 101, 102]⟩ : ByteArray)[(c / 16).toNat]'h)).toNat : Int) = hexI (c / 16) := fun h => (bt_at hexs (c / 16) h).trans (hex_at (c / 16) (by omega) (by omega))
          have hr1 := hexI_range (d := c / 16) (by omega) (by omega)
          go_wp2_with fail
          refine (BldG_WriteString _ _ _ _ ⟨#[92, 120]⟩ _ hq.out.bld hq.out.byt.1 (by simp [ByteArray.size]; omega) hle).mono ?_
          rintro e w2 ⟨rfl, hb2, hbel2, hg2⟩
          go_wp2_with fail
          refine (BldG_WriteByte _ _ _ _ (hexI (c / 16)) _ hb2 (by simp [Lib.strCells]; omega) (Nat.le_trans hle hbel2.size)).mono ?_
          rintro e w3 ⟨rfl, hb3, hbel3, hg3⟩
          clear hx1
          have hx2 : ∀ h : (c % 16).toNat < (⟨#[48, 49, 50, 51, 52, 53, 54, 55, 56, 57, 97, 98, 99, 100, 101, 102]⟩ : ByteArray).size, ((((⟨#[48, 49, 50, 51, 52, 53, 54, 55, 56, 57, 97, 98, 99, 100, 101, 102]⟩ : ByteArray)[(c % 16).toNat]'h)).toNat : Int) = hexI (c % 16) := fun h => (bt_at hexs (c % 16) h).trans (hex_at (c % 16) (by omega) (by omega))
          go_wp2_with fail
          refine (BldG_WriteByte _ _ _ _ (hexI (c % 16)) _ hb3 (by simp [Lib.strCells]; omega) (Nat.le_trans (Nat.le_trans hle hbel2.size) hbel3.size)).mono ?_
          rintro e w4 ⟨rfl, hb4, hbel4, hg4⟩
          clear hx2
          have hn := Aside0.mk (hq.out.next hb4 (by rw [hx.out, hE.out]; simp [nums, Lib.strCells]) ((hbel2.trans hbel3).trans hbel4) (hg4.trans (hg3.trans hg2)))
          clear hb2 hbel2 hg2 hb3 hbel3 hg3 hb4 hbel4 hg4
          go_wp2_with fail
          go_roundw
          case rel => exact ⟨k + 1, _, by omega, by go_num, by simp [Lib.strCells]; omega, hn⟩
          case measure => simp [intOf]; omega
      · have hE : Aside0 (escI c = [c]) := ⟨by
          unfold escI
          rw [if_neg hesc.out.1, if_neg hesc.out.2.1, if_neg hesc.out.2.2, if_neg (by omega), if_neg (by omega)]⟩
        have hlo : decide (c < 32) = false := decide_eq_false (by omega)
        have hhi : decide (126 < c) = false := decide_eq_false (by omega)
        clear hodd
        go_wp2_with fail
        refine (BldG_WriteByte _ _ _ _ c _ hq.out.bld (by omega) hle).mono ?_
        rintro e w2 ⟨rfl, hb2, hbel2, hg2⟩
        have hn := Aside0.mk (hq.out.next hb2 (by rw [hx.out, hE.out]; simp [nums]) hbel2 hg2)
        clear hb2 hbel2 hg2
        go_wp2_with fail
        go_roundw
        case rel => exact ⟨k + 1, _, by omega, by go_num, by simp; omega, hn⟩
        case measure => simp [intOf]; omega
    · obtain rfl : k = s.size := by omega
      have hcells := Aside0.mk (cells_of_nums (quoteI s) (quoteI_range s))
      go_wp2_with fail
      refine (BldG_WriteByte _ _ _ _ 34 _ hq.out.bld (by omega) hle).mono ?_
      rintro e w2 ⟨rfl, hb2, hbel2, hg2⟩
      have hs2 : bs ++ [Value.int .u8 34] = Lib.byteCells (strOfNums (quoteI s)).data.toList := by
        rw [← hcells.out, hq.out.says]
        unfold quoteI
        rw [nums_append]
        rfl
      rw [hs2] at hb2
      have hfin := Aside0.mk (hq.out.bel.trans hbel2)
      have hle2 := Nat.le_trans hle hbel2.size
      clear hs2 hcells hbel2 hg2 hq
      go_wp2_with fail
      refine (Tryz.Builder_String_any _ _ _ _ hb2.is hle2).mono ?_
      rintro e w3 ⟨rfl, hbel3⟩
      have hfin2 := Aside0.mk (hfin.out.trans hbel3)
      clear hb2 hbel3 hfin
      go_wp2_with fail
      go_ret
      exact ⟨by simp, hfin2.out⟩
theorem value_quoted.calls (a0 : ByteArray) (r : ByteArray) (w : World) (h : value_quoted.f a0 = some r) :
    Calls Tryz.prog 253 #[.string a0] w fun e w' => e = .returned (.string r) ∧ Below w.heap.size w w' := by
  unfold value_quoted.f at h
  split at h
  · rename_i hs
    obtain rfl := Option.some.inj h
    exact quoted_main a0 w hs
  · exact absurd h (by simp)
end Go.Proofs.J.Print
end
section
namespace Go.Proofs.J.Print
open Go.RowKit Go.Proofs.PrintWords Go.Proofs.PrintLast Go.Proofs.PrintMore
def value_Show.f (a0_0 : Int) (a0_1 : Int) (a0_2 : ByteArray) : Option (ByteArray × Int) := (value_Check.f a0_0 a0_1 a0_2).bind fun t223 => (if t223 = 0 then (if a0_0 = 1 then ((strconv_FormatInt.f a0_1 10).bind fun t224 => (some (t224, 0))) else ((value_name.f a0_2).bind fun t225 => (if t225 = true then (some (a0_2, 0)) else ((value_quoted.f a0_2).bind fun t226 => (some (t226, 0)))))) else (some ((⟨#[]⟩ : ByteArray), t223)))
set_option maxHeartbeats 8000000 in
set_option maxRecDepth 100000 in
theorem value_Show.calls (a0_0 : Int) (a0_1 : Int) (a0_2 : ByteArray) (r1 : ByteArray) (r2 : Int) (w : World) (h : value_Show.f a0_0 a0_1 a0_2 = some (r1, r2)) :
  Calls Tryz.prog 198 #[.agg #[.int .i8 a0_0, .int .i64 a0_1, .string a0_2]] w fun e w' => e = .returned (.tuple #[.string r1, .int .i64 r2]) ∧ Below w.heap.size w w' := by
 have hu85 := Tryz.underlying85
 have HB := Aside0.mk (Below.refl w.heap.size w)
 have H : ((value_Check.f a0_0 a0_1 a0_2).bind fun t223 => (if t223 = 0 then (if a0_0 = 1 then ((strconv_FormatInt.f a0_1 10).bind fun t224 => (some (t224, 0))) else ((value_name.f a0_2).bind fun t225 => (if t225 = true then (some (a0_2, 0)) else ((value_quoted.f a0_2).bind fun t226 => (some (t226, 0)))))) else (some ((⟨#[]⟩ : ByteArray), t223)))) = some (r1, r2) := h
 clear h
 replace H := Option.bind_eq_some_iff.mp H
 obtain ⟨t223, A20, H⟩ := H
 replace H : (if t223 = 0 then (if a0_0 = 1 then ((strconv_FormatInt.f a0_1 10).bind fun t224 => (some (t224, 0))) else ((value_name.f a0_2).bind fun t225 => (if t225 = true then (some (a0_2, 0)) else ((value_quoted.f a0_2).bind fun t226 => (some (t226, 0)))))) else (some ((⟨#[]⟩ : ByteArray), t223))) = some (r1, r2) := H
 have A2 := Aside0.mk A20
 clear A20
 by_cases c3 : t223 = 0
 focus
  rw [if_pos c3] at H
  have c3b0 : (t223 == 0) = true := beq_iff_eq.mpr c3
  have c3b1 : (t223 != 0) = false := bne_eq_false_iff_eq.mpr c3
  clear c3
  by_cases c4 : a0_0 = 1
  focus
   rw [if_pos c4] at H
   have c4b0 : (a0_0 == 1) = true := beq_iff_eq.mpr c4
   have c4b1 : (a0_0 != 1) = false := bne_eq_false_iff_eq.mpr c4
   clear c4
   replace H := Option.bind_eq_some_iff.mp H
   obtain ⟨t224, A50, H⟩ := H
   replace H : (some (t224, 0)) = some (r1, r2) := H
   have A5 := Aside0.mk A50
   clear A50
   simp only [Option.some.injEq, Prod.mk.injEq] at H
   obtain ⟨rfl, rfl⟩ := H
  rotate_right
  focus
   rw [if_neg c4] at H
   have c4b0 : (a0_0 == 1) = false := beq_eq_false_iff_ne.mpr c4
   have c4b1 : (a0_0 != 1) = true := bne_iff_ne.mpr c4
   replace H := Option.bind_eq_some_iff.mp H
   obtain ⟨t225, A100, H⟩ := H
   replace H : (if t225 = true then (some (a0_2, 0)) else ((value_quoted.f a0_2).bind fun t226 => (some (t226, 0)))) = some (r1, r2) := H
   have A10 := Aside0.mk A100
   clear A100
   by_cases c11 : t225 = true
   focus
    subst c11
    have H1 : (some (a0_2, 0)) = some (r1, r2) := by rw [if_pos rfl] at H; exact H
    clear H
    have H := H1
    clear H1
    simp only [Option.some.injEq, Prod.mk.injEq] at H
    obtain ⟨rfl, rfl⟩ := H
   rotate_right
   focus
    replace c11 := Bool.eq_false_iff.mpr c11
    subst c11
    have H1 : ((value_quoted.f a0_2).bind fun t226 => (some (t226, 0))) = some (r1, r2) := by rw [if_neg (show ¬ (false = true) by decide)] at H; exact H
    clear H
    have H := H1
    clear H1
    replace H := Option.bind_eq_some_iff.mp H
    obtain ⟨t226, A180, H⟩ := H
    replace H : (some (t226, 0)) = some (r1, r2) := H
    have A18 := Aside0.mk A180
    clear A180
    simp only [Option.some.injEq, Prod.mk.injEq] at H
    obtain ⟨rfl, rfl⟩ := H
 rotate_right
 focus
  rw [if_neg c3] at H
  have c3b0 : (t223 == 0) = false := beq_eq_false_iff_ne.mpr c3
  have c3b1 : (t223 != 0) = true := bne_iff_ne.mpr c3
  simp only [Option.some.injEq, Prod.mk.injEq] at H
  obtain ⟨rfl, rfl⟩ := H
 all_goals (go_enter Tryz.func198, Tryz.ntmps198; go_wp2_with (first | ((with_reducible refine gate_dst (N := 1) rfl ?_); refine boxS 1 #[.int .i8 a0_0, .int .i64 a0_1, .string a0_2] 85 ?_; intro gb222 hg wq1 hbox hb; have n0_ := Aside0.mk (below_step (upB HB.out) hb); have n1_ := Aside0.mk (hbox); have n2_ := Aside0.mk (geB hg (upB HB.out) : w.heap.size ≤ gb222); have n3_ := Aside0.mk (geB hg (upB HB.out) : w.heap.size ≤ gb222); clear HB; have HB := n0_; have BK222 := n1_; have GW222 := n2_; have GE222 := n3_; clear n0_ n1_ n2_ n3_; clear hb hbox hg; have hczq1_0 : wq1.cell? ⟨gb222, 0, none⟩ = some (.int .i8 a0_0) := (blk_cell BK222.out 0).trans rfl; have hczq1_1 : wq1.cell? ⟨gb222, 1, none⟩ = some (.int .i64 a0_1) := (blk_cell BK222.out 1).trans rfl; have hczq1_2 : wq1.cell? ⟨gb222, 2, none⟩ = some (.string a0_2) := (blk_cell BK222.out 2).trans rfl; have hfzq1_0 := blk_frozen BK222.out 0; have hfzq1_1 := blk_frozen BK222.out 1; have hfzq1_2 := blk_frozen BK222.out 2) | ((with_reducible refine gate_callee (f := 199) rfl ?_); refine goesS (some 6) Tryz.func199 #[.agg #[.int .i8 a0_0, .int .i64 a0_1, .string a0_2]] ?_; (with_reducible refine (value_Check.calls a0_0 a0_1 a0_2 t223 _ A2.out).mono ?_); rintro e wq2 ⟨rfl, hb⟩; refine ⟨_, rfl, ?_⟩; have n0_ := Aside0.mk (blk_below (g := gb222) (o := .cells #[.int .i8 a0_0, .int .i64 a0_1, .string a0_2] 85 (0, 0)) (upO BK222.out) hb); have n1_ := Aside0.mk (below_step (upB HB.out) hb); clear BK222; clear HB; have BK222 := n0_; have HB := n1_; clear n0_ n1_; (try clear hb); (try clear hb2); (try clear hk); (try clear hi); have hczq2_0 : wq2.cell? ⟨gb222, 0, none⟩ = some (.int .i8 a0_0) := (blk_cell BK222.out 0).trans rfl; have hczq2_1 : wq2.cell? ⟨gb222, 1, none⟩ = some (.int .i64 a0_1) := (blk_cell BK222.out 1).trans rfl; have hczq2_2 : wq2.cell? ⟨gb222, 2, none⟩ = some (.string a0_2) := (blk_cell BK222.out 2).trans rfl; have hfzq2_0 := blk_frozen BK222.out 0; have hfzq2_1 := blk_frozen BK222.out 1; have hfzq2_2 := blk_frozen BK222.out 2) | ((with_reducible refine gate_callee (f := 199) rfl ?_); refine goesS (some 6) Tryz.func199 #[.agg #[.int .i8 a0_0, .int .i64 a0_1, .string a0_2]] ?_; (with_reducible refine (value_Check.calls a0_0 a0_1 a0_2 t223 _ A2.out).mono ?_); rintro e wq2 ⟨rfl, hb⟩; refine ⟨_, rfl, ?_⟩; have n0_ := Aside0.mk (blk_below (g := gb222) (o := .cells #[.int .i8 a0_0, .int .i64 a0_1, .string a0_2] 85 (0, 0)) (upO BK222.out) hb); have n1_ := Aside0.mk (below_step (upB HB.out) hb); clear BK222; clear HB; have BK222 := n0_; have HB := n1_; clear n0_ n1_; (try clear hb); (try clear hb2); (try clear hk); (try clear hi)) | ((with_reducible refine gate_callee (f := 251) rfl ?_); refine goesS (some 15) Tryz.func251 #[.int .i64 a0_1, .int .i64 10] ?_; (with_reducible refine (strconv_FormatInt.calls a0_1 10 t224 _ A5.out).mono ?_); rintro e w' ⟨rfl, ⟨nd, rfl⟩⟩; refine ⟨_, rfl, ?_⟩) | ((with_reducible refine gate_callee (f := 252) rfl ?_); refine goesS (some 18) Tryz.func252 #[.string a0_2] ?_; (with_reducible refine (value_name.calls a0_2 false _ A10.out).mono ?_); rintro e wq3 ⟨rfl, hb⟩; refine ⟨_, rfl, ?_⟩; have n0_ := Aside0.mk (blk_below (g := gb222) (o := .cells #[.int .i8 a0_0, .int .i64 a0_1, .string a0_2] 85 (0, 0)) (upO BK222.out) hb); have n1_ := Aside0.mk (below_step (upB HB.out) hb); clear BK222; clear HB; have BK222 := n0_; have HB := n1_; clear n0_ n1_; (try clear hb); (try clear hb2); (try clear hk); (try clear hi); have hczq3_0 : wq3.cell? ⟨gb222, 0, none⟩ = some (.int .i8 a0_0) := (blk_cell BK222.out 0).trans rfl; have hczq3_1 : wq3.cell? ⟨gb222, 1, none⟩ = some (.int .i64 a0_1) := (blk_cell BK222.out 1).trans rfl; have hczq3_2 : wq3.cell? ⟨gb222, 2, none⟩ = some (.string a0_2) := (blk_cell BK222.out 2).trans rfl; have hfzq3_0 := blk_frozen BK222.out 0; have hfzq3_1 := blk_frozen BK222.out 1; have hfzq3_2 := blk_frozen BK222.out 2) | ((with_reducible refine gate_callee (f := 252) rfl ?_); refine goesS (some 18) Tryz.func252 #[.string a0_2] ?_; (with_reducible refine (value_name.calls a0_2 true _ A10.out).mono ?_); rintro e wq3 ⟨rfl, hb⟩; refine ⟨_, rfl, ?_⟩; have n0_ := Aside0.mk (blk_below (g := gb222) (o := .cells #[.int .i8 a0_0, .int .i64 a0_1, .string a0_2] 85 (0, 0)) (upO BK222.out) hb); have n1_ := Aside0.mk (below_step (upB HB.out) hb); clear BK222; clear HB; have BK222 := n0_; have HB := n1_; clear n0_ n1_; (try clear hb); (try clear hb2); (try clear hk); (try clear hi); have hczq3_0 : wq3.cell? ⟨gb222, 0, none⟩ = some (.int .i8 a0_0) := (blk_cell BK222.out 0).trans rfl; have hczq3_1 : wq3.cell? ⟨gb222, 1, none⟩ = some (.int .i64 a0_1) := (blk_cell BK222.out 1).trans rfl; have hczq3_2 : wq3.cell? ⟨gb222, 2, none⟩ = some (.string a0_2) := (blk_cell BK222.out 2).trans rfl; have hfzq3_0 := blk_frozen BK222.out 0; have hfzq3_1 := blk_frozen BK222.out 1; have hfzq3_2 := blk_frozen BK222.out 2) | ((with_reducible refine gate_callee (f := 253) rfl ?_); refine goesS (some 23) Tryz.func253 #[.string a0_2] ?_; (with_reducible refine (value_quoted.calls a0_2 t226 _ A18.out).mono ?_); rintro e wq4 ⟨rfl, hb⟩; refine ⟨_, rfl, ?_⟩; have n0_ := Aside0.mk (blk_below (g := gb222) (o := .cells #[.int .i8 a0_0, .int .i64 a0_1, .string a0_2] 85 (0, 0)) (upO BK222.out) hb); have n1_ := Aside0.mk (below_step (upB HB.out) hb); clear BK222; clear HB; have BK222 := n0_; have HB := n1_; clear n0_ n1_; (try clear hb); (try clear hb2); (try clear hk); (try clear hi))); first | (go_ret2; exact ⟨eqE, upB HB.out⟩))
end Go.Proofs.J.Print
end
