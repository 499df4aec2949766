/- On the way to the law 'JournalEncodes': what the functions that it reaches compute, step by step, and the plain law (JSh .. JSm). Each theorem states its own conditions. -/
import Derived.Test.YtcinnankefollaaGreatDoorWk
set_option linter.unusedVariables false
set_option linter.unusedSimpArgs false
section
namespace Go.Proofs.J.Pure
open Go.RowKit Go.Proofs.J.Print Go.Proofs.PrintWords Go.Proofs.PrintLast Go.Proofs.PrintMore
structure TO {α : Type} (c : α → α → Int) : Prop where
  rng : ∀ a b, c a b = -1 ∨ c a b = 0 ∨ c a b = 1
  anti : ∀ a b, c b a = - c a b
  eq : ∀ a b, c a b = 0 ↔ a = b
  tr : ∀ a b d, c a b = -1 → c b d = -1 → c a d = -1
def cmpI (a b : Int) : Int := if a < b then -1 else if b < a then 1 else 0
theorem to_I : TO cmpI where
  rng a b := by unfold cmpI; split; simp; split <;> simp
  anti a b := by unfold cmpI; split <;> split <;> try omega
                 all_goals (split <;> omega)
  eq a b := by unfold cmpI; constructor <;> intro h
               · split at h
                 · omega
                 · split at h <;> omega
               · subst h; simp
  tr a b d h1 h2 := by
    unfold cmpI at *
    split at h1
    · split at h2
      · rw [if_pos (by omega)]
      · split at h2 <;> omega
    · split at h1 <;> omega
def lex {α β : Type} (c : α → α → Int) (d : β → β → Int) (x y : α × β) : Int := if c x.1 y.1 = 0 then d x.2 y.2 else c x.1 y.1
theorem to_lex {α β : Type} {c : α → α → Int} {d : β → β → Int} (hc : TO c) (hd : TO d) : TO (lex c d) where
  rng a b := by unfold lex; split; exact hd.rng _ _; exact hc.rng _ _
  anti a b := by
    unfold lex
    rw [hc.anti a.1 b.1, hd.anti a.2 b.2]
    by_cases h : c a.1 b.1 = 0
    · rw [if_pos (by omega), if_pos h]
    · rw [if_neg (by omega), if_neg h]
  eq a b := by
    unfold lex
    constructor
    · intro h
      by_cases e : c a.1 b.1 = 0
      · rw [if_pos e] at h
        exact Prod.ext ((hc.eq _ _).1 e) ((hd.eq _ _).1 h)
      · rw [if_neg e] at h
        exact absurd h e
    · rintro rfl
      rw [if_pos ((hc.eq _ _).2 rfl)]
      exact (hd.eq _ _).2 rfl
  tr a b z h1 h2 := by
    unfold lex at *
    by_cases e1 : c a.1 b.1 = 0
    · rw [if_pos e1] at h1
      have e := (hc.eq _ _).1 e1
      by_cases e2 : c b.1 z.1 = 0
      · rw [if_pos e2] at h2
        rw [e, if_pos e2]
        exact hd.tr _ _ _ h1 h2
      · rw [if_neg e2] at h2
        rw [e, if_neg e2]
        exact h2
    · rw [if_neg e1] at h1
      by_cases e2 : c b.1 z.1 = 0
      · have e := (hc.eq _ _).1 e2
        rw [← e, if_neg e1]
        exact h1
      · rw [if_neg e2] at h2
        have := hc.tr _ _ _ h1 h2
        rw [if_neg (by omega)]
        exact this
theorem to_map {α β : Type} {c : β → β → Int} (f : α → β) (hf : ∀ a b, f a = f b → a = b) (hc : TO c) : TO (fun a b => c (f a) (f b)) where
  rng a b := hc.rng _ _
  anti a b := hc.anti _ _
  eq a b := ⟨fun h => hf _ _ ((hc.eq _ _).1 h), fun h => (hc.eq _ _).2 (by rw [h])⟩
  tr a b d h1 h2 := hc.tr _ _ _ h1 h2
def cmpL {α : Type} (c : α → α → Int) : List α → List α → Int
  | [], [] => 0
  | [], _ :: _ => -1
  | _ :: _, [] => 1
  | a :: l, b :: m => if c a b = 0 then cmpL c l m else c a b
theorem to_L {α : Type} {c : α → α → Int} (hc : TO c) : TO (cmpL c) where
  rng a := by
    induction a with
    | nil => intro b; cases b <;> simp [cmpL]
    | cons x l ih =>
      intro b
      cases b with
      | nil => simp [cmpL]
      | cons y m =>
        simp only [cmpL]
        split
        · exact ih m
        · exact hc.rng _ _
  anti a := by
    induction a with
    | nil => intro b; cases b <;> simp [cmpL]
    | cons x l ih =>
      intro b
      cases b with
      | nil => simp [cmpL]
      | cons y m =>
        simp only [cmpL]
        rw [hc.anti x y, ih m]
        by_cases h : c x y = 0
        · rw [if_pos (by omega), if_pos h]
        · rw [if_neg (by omega), if_neg h]
  eq a := by
    induction a with
    | nil => intro b; cases b <;> simp [cmpL]
    | cons x l ih =>
      intro b
      cases b with
      | nil => simp [cmpL]
      | cons y m =>
        simp only [cmpL]
        by_cases h : c x y = 0
        · rw [if_pos h, ih m, (hc.eq x y).1 h]
          simp
        · rw [if_neg h]
          constructor
          · intro e; exact absurd e h
          · intro e; exact absurd ((hc.eq x y).2 (by injection e)) h
  tr a := by
    induction a with
    | nil =>
      intro b d h1 h2
      cases d with
      | nil => cases b with
        | nil => simp [cmpL] at h1
        | cons y m => simp [cmpL] at h2
      | cons z n => simp [cmpL]
    | cons x l ih =>
      intro b d h1 h2
      cases b with
      | nil => simp [cmpL] at h1
      | cons y m =>
        cases d with
        | nil => simp [cmpL] at h2
        | cons z n =>
          simp only [cmpL] at *
          by_cases e1 : c x y = 0
          · rw [if_pos e1] at h1
            have e := (hc.eq _ _).1 e1
            by_cases e2 : c y z = 0
            · rw [if_pos e2] at h2
              rw [e, if_pos e2]
              exact ih _ _ h1 h2
            · rw [if_neg e2] at h2
              rw [e, if_neg e2]
              exact h2
          · rw [if_neg e1] at h1
            by_cases e2 : c y z = 0
            · have e := (hc.eq _ _).1 e2
              rw [← e, if_neg e1]
              exact h1
            · rw [if_neg e2] at h2
              have := hc.tr _ _ _ h1 h2
              rw [if_neg (by omega)]
              exact this
def cmp8 (a b : UInt8) : Int := cmpI a.toNat b.toNat
theorem to_8 : TO cmp8 := to_map (fun a : UInt8 => (a.toNat : Int)) (fun a b h => UInt8.toNat_inj.1 (by exact_mod_cast h)) to_I
def cmpB (a b : Bs) : Int := cmpL cmp8 a b
theorem to_B : TO cmpB := to_L to_8
def cmpV (a b : S85) : Int := lex cmpI (lex cmpI cmpB) (a.f0, a.f1, lb a.f2) (b.f0, b.f1, lb b.f2)
theorem to_V : TO cmpV := to_map (fun a : S85 => (a.f0, a.f1, lb a.f2)) (fun a b h => by
  obtain ⟨a0, a1, a2⟩ := a
  obtain ⟨b0, b1, b2⟩ := b
  simp only [Prod.mk.injEq] at h
  obtain ⟨rfl, rfl, h⟩ := h
  rw [lb_inj h]) (to_lex to_I (to_lex to_I to_B))
def cmpT (a b : List S85) : Int := cmpL cmpV a b
theorem to_T : TO cmpT := to_L to_V
def cmpF (a b : S90) : Int := lex cmpB cmpT (lb a.f0, a.f1) (lb b.f0, b.f1)
theorem to_F : TO cmpF := to_map (fun a : S90 => (lb a.f0, a.f1)) (fun a b h => by
  obtain ⟨a0, a1⟩ := a
  obtain ⟨b0, b1⟩ := b
  simp only [Prod.mk.injEq] at h
  obtain ⟨h, rfl⟩ := h
  rw [lb_inj h]) (to_lex to_B to_T)
theorem cmp8_lt (a b : UInt8) : cmp8 a b = -1 ↔ a < b := by
  unfold cmp8 cmpI
  rw [UInt8.lt_iff_toNat_lt]
  constructor
  · intro h
    split at h
    · omega
    · split at h <;> omega
  · intro h
    rw [if_pos (by omega)]
theorem cmpB_cons (a b : UInt8) (x y : Bs) : cmpB (a :: x) (b :: y) = if cmp8 a b = 0 then cmpB x y else cmp8 a b := rfl
theorem bl_iff : ∀ a b : Bs, Op.bytesLess a b = true ↔ cmpB a b = -1
  | [], [] => by simp [Op.bytesLess, cmpB, cmpL]
  | [], _ :: _ => by simp [Op.bytesLess, cmpB, cmpL]
  | _ :: _, [] => by simp [Op.bytesLess, cmpB, cmpL]
  | a :: x, b :: y => by
    have ih := bl_iff x y
    simp only [Op.bytesLess, cmpB_cons]
    by_cases h : cmp8 a b = 0
    · have e := (to_8.eq a b).1 h
      subst e
      rw [if_pos h, ← ih]
      simp
    · rw [if_neg h]
      have hne : ¬ a = b := fun e => h ((to_8.eq a b).2 e)
      simp [hne, cmp8_lt]
theorem bl_cmp (a b : Bs) : Op.bytesLess a b = decide (cmpB a b = -1) := by
  rw [Bool.eq_iff_iff, bl_iff, decide_eq_true_iff]
theorem cb_cmp : ∀ a b : Bs, Lib.compareBytes a b = cmpB a b
  | [], [] => rfl
  | [], _ :: _ => rfl
  | _ :: _, [] => rfl
  | a :: x, b :: y => by
    have ih := cb_cmp x y
    simp only [Lib.compareBytes]
    rw [ih]
    unfold cmpB
    simp only [cmpL]
    have h1 := cmp8_lt a b
    have h2 := cmp8_lt b a
    have ha := to_8.anti a b
    by_cases c1 : a < b
    · rw [if_pos c1, if_neg (by rw [h1.2 c1]; decide), h1.2 c1]
    · rw [if_neg c1]
      by_cases c2 : b < a
      · have := h2.2 c2
        rw [if_pos c2, if_neg (by omega)]
        omega
      · rw [if_neg c2]
        have hr := to_8.rng a b
        have n1 : ¬ cmp8 a b = -1 := fun e => c1 (h1.1 e)
        have n2 : ¬ cmp8 b a = -1 := fun e => c2 (h2.1 e)
        rw [if_pos (by omega)]
theorem or_three (a b c : Int) : Ev (fun k => cmp_Or_int.f k [a, b, c]) (if a = 0 then (if b = 0 then c else b) else a) := by
  refine ⟨6, fun k hk => ?_⟩
  obtain ⟨j, rfl⟩ : ∃ j, k = j + 6 := ⟨k - 6, by omega⟩
  unfold cmp_Or_int.f
  have r0 : rd [a, b, c] 0 = a := rfl
  have r1 : rd [a, b, c] 1 = b := rfl
  have r2 : rd [a, b, c] 2 = c := rfl
  have w1 : wrap64 (0 + 1) = 1 := by rw [w64] <;> omega
  have w2 : wrap64 (1 + 1) = 2 := by rw [w64] <;> omega
  have w3 : wrap64 (2 + 1) = 3 := by rw [w64] <;> omega
  simp only [cmp_Or_int.l0, List.length_cons, List.length_nil, r0, r1, r2, w1, w2, w3]
  by_cases h1 : a = 0 <;> by_cases h2 : b = 0 <;> by_cases h3 : c = 0 <;> simp [h1, h2, h3, w1, w2, w3, r0, r1, r2]
theorem or_two (a b : Int) : Ev (fun k => cmp_Or_int.f k [a, b]) (if a = 0 then b else a) := by
  refine ⟨6, fun k hk => ?_⟩
  obtain ⟨j, rfl⟩ : ∃ j, k = j + 6 := ⟨k - 6, by omega⟩
  unfold cmp_Or_int.f
  have r0 : rd [a, b] 0 = a := rfl
  have r1 : rd [a, b] 1 = b := rfl
  have w1 : wrap64 (0 + 1) = 1 := by rw [w64] <;> omega
  have w2 : wrap64 (1 + 1) = 2 := by rw [w64] <;> omega
  simp only [cmp_Or_int.l0, List.length_cons, List.length_nil, r0, r1, w1, w2]
  by_cases h1 : a = 0 <;> by_cases h2 : b = 0 <;> simp [h1, h2, w1, w2, r0, r1]
theorem cmp64_f (a b : Int) : cmp_Compare_int64.f a b = some (cmpI a b) := by
  unfold cmp_Compare_int64.f cmp_isNaN_int64.f cmpI
  by_cases h1 : a < b <;> by_cases h2 : b < a <;> simp [h1, h2]
theorem kind_f (a b : Int) : api_Kind_291.f a b = some (cmpI a b) := by
  unfold api_Kind_291.f api_Kind_348.f cmpI
  by_cases h1 : a < b <;> by_cases h2 : b < a <;> simp [h1, h2]
theorem Compare_ev (a b : S85) : Ev (fun k => value_Compare.f k a.f0 a.f1 a.f2 b.f0 b.f1 b.f2) (cmpV a b) := by
  unfold value_Compare.f
  rw [kind_f, cmp64_f]
  unfold strings_Compare.f
  have e : Lib.compareBytes a.f2.data.toList b.f2.data.toList = cmpB (lb a.f2) (lb b.f2) := cb_cmp _ _
  rw [e]
  exact Ev.bind (Ev.const rfl) (Ev.bind (Ev.const rfl) (Ev.bind (Ev.const rfl) (Ev.bind (or_three _ _ _) (Ev.const rfl))))
theorem refCompare_f (a b : S85) : pedigreeref01_Compare.f a.f0 a.f1 a.f2 b.f0 b.f1 b.f2 = some (cmpV a b) := by
  unfold pedigreeref01_Compare.f
  rw [lb_toList, lb_toList, bl_cmp]
  have hV := to_V.eq a b
  unfold cmpV lex cmpI at *
  have hB := to_B.eq (lb a.f2) (lb b.f2)
  have hr := to_B.rng (lb a.f2) (lb b.f2)
  by_cases h0 : a.f0 = b.f0
  · by_cases h1 : a.f1 = b.f1
    · by_cases h2 : lb a.f2 = lb b.f2
      · have := hB.2 h2
        have h3 : cmpB (lb b.f2) (lb b.f2) = 0 := (to_B.eq _ _).2 rfl
        simp [h0, h1, h2, h3]
      · have n : ¬ cmpB (lb a.f2) (lb b.f2) = 0 := fun e => h2 (hB.1 e)
        rcases hr with hr | hr | hr
        · simp [h0, h1, h2, hr]
        · exact absurd hr n
        · simp [h0, h1, h2, hr]
    · by_cases h3 : a.f1 < b.f1
      · simp [h0, h1, h3]
      · have : b.f1 < a.f1 := by omega
        simp [h0, h1, h3, this]
  · by_cases h3 : a.f0 < b.f0
    · simp [h0, h3]
    · have : b.f0 < a.f0 := by omega
      simp [h0, h3, this]
theorem drop_nil85 (l : List S85) (i : Nat) (h : l.length ≤ i) : l.drop i = [] := List.drop_of_length_le h
theorem cmpFunc_ev (l0 l1 : List S85) (h0 : l0.length ≤ 4611686018427387904) (h1 : l1.length ≤ 4611686018427387904) (m : Nat) : ∀ i : Nat, i + m = l0.length → (i ≤ l1.length) →
    cmpT l0 l1 = cmpT (l0.drop i) (l1.drop i) → Ev (fun k => value_cmpFunc.l0 k l0 l1 l0 (l0.length : Int) (i : Int)) (cmpT l0 l1) := by
  induction m with
  | zero =>
    intro i hi hl e
    refine Ev.succ (Ev.congr (fun k => ?_) (Ev.const (o := some _) rfl))
    rw [value_cmpFunc.l0, if_neg (by omega), e, drop_nil85 l0 i (by omega)]
    by_cases c : l0.length < l1.length
    · rw [if_pos (by omega), drop_rd85 l1 i (by omega)]
      rfl
    · rw [if_neg (by omega), drop_nil85 l1 i (by omega)]
      rfl
  | succ m ih =>
    intro i hi hl e
    apply Ev.succ
    have e1 : ∀ k, value_cmpFunc.l0 (k + 1) l0 l1 l0 (l0.length : Int) (i : Int) = _ := fun k => by rw [value_cmpFunc.l0, if_pos (by omega), if_pos (by omega), if_pos (by omega)]
    refine Ev.congr e1 ?_
    have d0 := drop_rd85 l0 i (by omega)
    by_cases c : i < l1.length
    · have d1 := drop_rd85 l1 i c
      rw [d0, d1] at e
      refine Ev.iteF (by omega) (Ev.iteT (by omega) (Ev.bind (Compare_ev _ _) ?_))
      unfold cmpT at e
      simp only [cmpL] at e
      by_cases z : cmpV (rd_T85 l0 i) (rd_T85 l1 i) = 0
      · rw [if_pos z] at e
        refine Ev.iteT z ?_
        rw [w64 _ (by omega) (by omega)]
        exact ih (i + 1) (by omega) (by omega) e
      · rw [if_neg z] at e
        refine Ev.iteF z (Ev.const ?_)
        unfold cmpT
        rw [e]
    · rw [d0, drop_nil85 l1 i (by omega)] at e
      refine Ev.iteT (by omega) (Ev.const ?_)
      rw [e]
      rfl
theorem CompareTuples_ev (l0 l1 : List S85) (h0 : l0.length ≤ 4611686018427387904) (h1 : l1.length ≤ 4611686018427387904) : Ev (fun k => value_CompareTuples.f k l0 l1) (cmpT l0 l1) := by
  unfold value_CompareTuples.f value_cmpFunc.f
  exact Ev.bind (cmpFunc_ev l0 l1 h0 h1 l0.length 0 (by omega) (by omega) rfl) (Ev.const rfl)
theorem CompareFacts_ev (a b : S90) (h0 : a.f1.length ≤ 4611686018427387904) (h1 : b.f1.length ≤ 4611686018427387904) : Ev (fun k => value_CompareFacts.f k a.f0 a.f1 b.f0 b.f1) (cmpF a b) := by
  unfold value_CompareFacts.f strings_Compare.f
  have e : Lib.compareBytes a.f0.data.toList b.f0.data.toList = cmpB (lb a.f0) (lb b.f0) := cb_cmp _ _
  rw [e]
  exact Ev.bind (Ev.const rfl) (Ev.bind (CompareTuples_ev _ _ h0 h1) (Ev.bind (or_two _ _) (Ev.const rfl)))
theorem refTuples_ev (l0 l1 : List S85) (h0 : l0.length ≤ 4611686018427387904) (h1 : l1.length ≤ 4611686018427387904) (m : Nat) : ∀ i : Nat, i + m = l0.length → (i ≤ l1.length) →
    cmpT l0 l1 = cmpT (l0.drop i) (l1.drop i) → Ev (fun k => pedigreeref01_CompareTuples.l0 k l0 l1 (i : Int)) (cmpT l0 l1) := by
  have hend : ∀ (i : Int) (v : Int), (if (l0.length : Int) < (l1.length : Int) then (some (-1)) else (if (l0.length : Int) > (l1.length : Int) then (some 1) else (some 0))) = some v → Ev (fun k => pedigreeref01_CompareTuples.j1 k l0 l1 i false) v := fun i v hv => by
    refine Ev.succ (Ev.congr (fun k => ?_) (Ev.const hv))
    rw [pedigreeref01_CompareTuples.j1, if_neg (by decide)]
  induction m with
  | zero =>
    intro i hi hl e
    apply Ev.succ
    have e1 : ∀ k, pedigreeref01_CompareTuples.l0 (k + 1) l0 l1 (i : Int) = _ := fun k => by rw [pedigreeref01_CompareTuples.l0, if_neg (by omega)]
    refine Ev.congr e1 (hend _ _ ?_)
    rw [e, drop_nil85 l0 i (by omega)]
    by_cases c : l0.length < l1.length
    · rw [if_pos (by omega), drop_rd85 l1 i (by omega)]
      rfl
    · rw [if_neg (by omega), if_neg (by omega), drop_nil85 l1 i (by omega)]
      rfl
  | succ m ih =>
    intro i hi hl e
    apply Ev.succ
    have e1 : ∀ k, pedigreeref01_CompareTuples.l0 (k + 1) l0 l1 (i : Int) = _ := fun k => by rw [pedigreeref01_CompareTuples.l0, if_pos (by omega)]
    refine Ev.congr e1 ?_
    have d0 := drop_rd85 l0 i (by omega)
    by_cases c : i < l1.length
    · have d1 := drop_rd85 l1 i c
      rw [d0, d1] at e
      rw [decide_eq_true (show (i : Int) < (l1.length : Int) by omega)]
      apply Ev.succ
      have e2 : ∀ k, pedigreeref01_CompareTuples.j1 (k + 1) l0 l1 (i : Int) true = _ := fun k => by rw [pedigreeref01_CompareTuples.j1, if_pos rfl, if_pos (by omega), if_pos (by omega), if_pos (by omega), refCompare_f]
      refine Ev.congr e2 (Ev.bind (Ev.const rfl) ?_)
      unfold cmpT at e
      simp only [cmpL] at e
      by_cases z : cmpV (rd_T85 l0 i) (rd_T85 l1 i) = 0
      · rw [if_pos z] at e
        refine Ev.iteT z ?_
        rw [w64 _ (by omega) (by omega)]
        exact ih (i + 1) (by omega) (by omega) e
      · rw [if_neg z] at e
        refine Ev.iteF z (Ev.const ?_)
        unfold cmpT
        rw [e]
    · rw [d0, drop_nil85 l1 i (by omega)] at e
      rw [decide_eq_false (show ¬ (i : Int) < (l1.length : Int) by omega)]
      refine hend _ _ ?_
      rw [if_neg (by omega), if_pos (by omega), e]
      rfl
theorem refCompareFacts_ev (a b : S90) (h0 : a.f1.length ≤ 4611686018427387904) (h1 : b.f1.length ≤ 4611686018427387904) : Ev (fun k => pedigreeref01_CompareFacts.f k a.f0 a.f1 b.f0 b.f1) (cmpF a b) := by
  unfold pedigreeref01_CompareFacts.f
  rw [lb_toList, lb_toList, bl_cmp, bl_cmp]
  have ha := to_B.anti (lb a.f0) (lb b.f0)
  have hr := to_B.rng (lb a.f0) (lb b.f0)
  unfold cmpF lex
  dsimp only
  rcases hr with hr | hr | hr
  · rw [if_neg (by omega), hr]
    exact Ev.iteT (by decide) (Ev.const rfl)
  · have h2 : cmpB (lb b.f0) (lb a.f0) = 0 := by omega
    rw [if_pos hr, hr, h2]
    exact Ev.iteF (by decide) (Ev.iteF (by decide) (Ev.bind (refTuples_ev a.f1 b.f1 h0 h1 a.f1.length 0 (by omega) (by omega) rfl) (Ev.const rfl)))
  · have h2 : cmpB (lb b.f0) (lb a.f0) = -1 := by omega
    rw [if_neg (by omega), hr, h2]
    exact Ev.iteF (by decide) (Ev.iteT (by decide) (Ev.const rfl))
end Go.Proofs.J.Pure
end
section
namespace Go.Proofs.J.Pure
open Go.RowKit Go.Proofs.J.Print Go.Proofs.PrintWords Go.Proofs.PrintLast Go.Proofs.PrintMore
def chkB (v : S85) : Bool := decide (v.f0 = 1 ∧ lb v.f2 = [] ∨ v.f0 = 2 ∧ v.f1 = 0 ∧ v.f2.size ≤ 200)
theorem Check_f (v : S85) : value_Check.f v.f0 v.f1 v.f2 = some (if chkB v = true then 0 else 10) := by
  unfold value_Check.f chkB
  rw [lb_toList]
  by_cases h0 : v.f0 = 1
  · by_cases h2 : lb v.f2 = [] <;> simp [h0, h2]
  · by_cases h1 : v.f0 = 2
    · by_cases h3 : v.f1 = 0
      · by_cases h4 : v.f2.size ≤ 200
        · have : ((v.f2.size : Int) ≤ 200) := by omega
          simp [h0, h1, h3, h4, this]
        · have : ¬ ((v.f2.size : Int) ≤ 200) := by omega
          simp [h0, h1, h3, h4, this]
      · simp [h0, h1, h3]
    · simp [h0, h1]
theorem refCheck_f (v : S85) : pedigreeref01_Check.f v.f0 v.f1 v.f2 = some (if chkB v = true then 0 else 10) := by
  unfold pedigreeref01_Check.f chkB
  rw [lb_toList]
  by_cases h0 : v.f0 = 1
  · by_cases h2 : lb v.f2 = [] <;> simp [h0, h2]
  · by_cases h1 : v.f0 = 2
    · by_cases h3 : v.f1 = 0
      · by_cases h4 : v.f2.size ≤ 200
        · have : ((v.f2.size : Int) ≤ 200) := by omega
          simp [h0, h1, h3, h4, this]
        · have : ¬ ((v.f2.size : Int) ≤ 200) := by omega
          simp [h0, h1, h3, h4, this]
      · simp [h0, h1, h3]
    · simp [h0, h1]
theorem letter_f (c : Int) : pedigreeref01_letter.f c = some (lettB c) := by
  unfold pedigreeref01_letter.f lettB
  by_cases h1 : 97 ≤ c <;> by_cases h2 : c ≤ 122 <;> by_cases h3 : 65 ≤ c <;> by_cases h4 : c ≤ 90 <;> by_cases h5 : 48 ≤ c <;> by_cases h6 : c ≤ 57 <;> simp [h1, h2, h3, h4, h5, h6]
theorem keyword_f (s : ByteArray) : pedigreeref01_Keyword.f s = some (keyB s.toList) := by
  unfold pedigreeref01_Keyword.f keyB
  generalize s.toList = l
  by_cases h1 : l = [110, 111, 116]
  · simp [h1]
  by_cases h2 : l = [99, 111, 117, 110, 116]
  · simp [h2]
  by_cases h3 : l = [115, 117, 109]
  · simp [h3]
  by_cases h4 : l = [109, 105, 110]
  · simp [h4]
  by_cases h5 : l = [109, 97, 120]
  · simp [h5]
  by_cases h6 : l = [108, 101, 110]
  · simp [h6]
  by_cases h7 : l = [99, 104, 97, 114, 115]
  · simp [h7]
  simp [h1, h2, h3, h4, h5, h6, h7]
def lettsFrom (s : ByteArray) (m i : Nat) : Bool := (List.range' i m).all fun j => lettB (bt s (j : Int))
theorem written_loop (s : ByteArray) (hs : s.size ≤ 4611686018427387904) (m : Nat) : ∀ i : Nat, i + m = s.size → Ev (fun k => pedigreeref01_written.l0 k s (i : Int)) (lettsFrom s m i) := by
  induction m with
  | zero =>
    intro i hi
    refine Ev.succ (Ev.congr (fun k => ?_) (Ev.const (o := some _) rfl))
    rw [pedigreeref01_written.l0, if_neg (by omega)]
    rfl
  | succ m ih =>
    intro i hi
    apply Ev.succ
    have e1 : ∀ k, pedigreeref01_written.l0 (k + 1) s (i : Int) = _ := fun k => by rw [pedigreeref01_written.l0, if_pos (by omega), if_pos (by omega), letter_f]
    refine Ev.congr e1 (Ev.bind (Ev.const rfl) ?_)
    have e2 : lettsFrom s (m + 1) i = (lettB (bt s (i : Int)) && lettsFrom s m (i + 1)) := by unfold lettsFrom; rw [List.range'_succ, List.all_cons]
    rw [e2]
    cases h : lettB (bt s (i : Int)) with
    | true =>
      refine Ev.iteT rfl ?_
      rw [w64 _ (by omega) (by omega), Bool.true_and]
      exact ih (i + 1) (by omega)
    | false => exact Ev.iteF (by decide) (Ev.const rfl)
theorem letts_from (s : ByteArray) (h : 0 < s.size) (h0 : 97 ≤ bt s 0) (h1 : bt s 0 ≤ 122) : lettsB s = lettsFrom s (s.size - 1) 1 := by
  unfold lettsB lettsFrom
  obtain ⟨n, hn⟩ : ∃ n, s.size = n + 1 := ⟨s.size - 1, by omega⟩
  rw [hn, List.range_eq_range', List.range'_succ, List.all_cons]
  have : lettB (bt s ((0 : Nat) : Int)) = true := by
    have e : bt s ((0 : Nat) : Int) = bt s 0 := rfl
    rw [e]
    unfold lettB
    simp [h0, h1]
  rw [this]
  simp
theorem Name_ev (s : ByteArray) (hs : s.size ≤ 4611686018427387904) : Ev (fun k => pedigreeref01_Name.f k s) (nameB s) := by
  have hj : Ev (fun k => pedigreeref01_written.j0 k s true) false := Ev.succ (Ev.congr (fun k => by rw [pedigreeref01_written.j0, if_pos rfl]) (Ev.const rfl))
  have hw : Ev (fun k => pedigreeref01_written.f k s 97 122) (decide (0 < s.size) && (decide (s.size ≤ 120) && (decide (97 ≤ bt s 0) && (decide (bt s 0 ≤ 122) && lettsB s)))) := by
    unfold pedigreeref01_written.f
    by_cases c1 : 0 < s.size
    · refine Ev.iteF (by omega) ?_
      by_cases c2 : s.size ≤ 120
      · refine Ev.iteF (by omega) (Ev.iteT (by omega) ?_)
        by_cases c3 : 97 ≤ bt s 0
        · refine Ev.iteF (by omega) ?_
          by_cases c4 : bt s 0 ≤ 122
          · rw [decide_eq_false (show ¬ bt s 0 > 122 by omega), letts_from s c1 c3 c4]
            simp only [c1, c2, c3, c4, decide_true, Bool.true_and]
            apply Ev.succ
            have e1 : ∀ k, pedigreeref01_written.j0 (k + 1) s false = _ := fun k => by rw [pedigreeref01_written.j0, if_neg (by decide)]
            exact Ev.congr e1 (written_loop s hs (s.size - 1) 1 (by omega))
          · rw [decide_eq_true (show bt s 0 > 122 by omega)]
            simp only [c1, c2, c3, c4, decide_true, decide_false, Bool.true_and, Bool.false_and]
            exact hj
        · simp only [c1, c2, c3, decide_true, decide_false, Bool.true_and, Bool.false_and]
          exact Ev.iteT (by omega) hj
      · simp only [c1, c2, decide_true, decide_false, Bool.true_and, Bool.false_and]
        exact Ev.iteT (by omega) hj
    · simp only [c1, decide_false, Bool.false_and]
      exact Ev.iteT (by omega) hj
  have en : nameB s = ((decide (0 < s.size) && (decide (s.size ≤ 120) && (decide (97 ≤ bt s 0) && (decide (bt s 0 ≤ 122) && lettsB s)))) && !keyB s.toList) := by
    unfold nameB
    simp only [Bool.and_assoc]
  rw [en]
  unfold pedigreeref01_Name.f
  refine Ev.bind hw ?_
  generalize (decide (0 < s.size) && (decide (s.size ≤ 120) && (decide (97 ≤ bt s 0) && (decide (bt s 0 ≤ 122) && lettsB s)))) = B
  cases B with
  | true =>
    refine Ev.iteT rfl ?_
    rw [keyword_f]
    exact Ev.bind (Ev.const rfl) (Ev.const rfl)
  | false => exact Ev.iteF (by decide) (Ev.const rfl)
theorem name_len {s : ByteArray} (h : nameB s = true) : s.size ≤ 120 := by
  unfold nameB at h
  simp only [Bool.and_eq_true, decide_eq_true_eq] at h
  exact h.2.1
theorem esc_len (c : Int) : 1 ≤ (escI c).length := by
  unfold escI
  split
  · simp
  · split
    · simp
    · split
      · simp
      · split
        · simp
        · split <;> simp
theorem escs_len (s : ByteArray) (k : Nat) : k ≤ (escs s k).length := by
  induction k with
  | zero => omega
  | succ k ih =>
    unfold escs at *
    rw [List.range_succ, List.flatMap_append, List.length_append]
    have := esc_len (bt s (k : Int))
    simp only [List.flatMap_cons, List.flatMap_nil, List.append_nil]
    omega
theorem Show_f (s : ByteArray) : ∃ t e, value_Show.f 2 0 s = some (t, e) ∧ ((e = 0 ∧ t.toList = s.toList) ↔ nameB s = true) := by
  unfold value_Show.f
  have hc := Check_f ⟨2, 0, s⟩
  dsimp only at hc
  rw [hc]
  by_cases h : s.size ≤ 200
  · have e : chkB ⟨2, 0, s⟩ = true := by simp [chkB, h]
    rw [if_pos e]
    by_cases hn : nameB s = true
    · refine ⟨s, 0, ?_, by simp [hn]⟩
      simp [value_name.f, hn]
    · refine ⟨strOfNums (quoteI s), 0, ?_, ?_⟩
      · simp [value_name.f, hn, value_quoted.f, show s.size ≤ 1000000 by omega]
      · constructor
        · intro h2
          have h3 := congrArg List.length h2.2
          rw [lb_toList, lb_toList, lb_len s, lb_nums, List.length_map] at h3
          have := escs_len s s.size
          unfold quoteI at h3
          simp only [List.length_append, List.length_cons, List.length_nil] at h3
          omega
        · intro h2
          exact absurd h2 hn
  · have e : ¬ chkB ⟨2, 0, s⟩ = true := by simp [chkB, h]
    rw [if_neg e]
    refine ⟨⟨#[]⟩, 10, by simp, ?_⟩
    constructor
    · intro h2
      exact absurd h2.1 (by decide)
    · intro h2
      have := name_len h2
      omega
def mayB (f : S90) : Bool := nameB f.f0 && (decide (f.f1.length ≤ 24) && f.f1.all chkB)
theorem rd90_mem (l : List S90) (i : Nat) (h : i < l.length) : rd_T90 l i ∈ l := by
  have := drop_rd90 l i h
  exact List.mem_of_mem_drop (i := i) (by rw [this]; simp)
theorem may_loop (l : List S85) (hl : l.length ≤ 4611686018427387904) (m : Nat) : ∀ i : Nat, i + m = l.length → Ev (fun k => journal_may.l0 k l (l.length : Int) (i : Int)) ((l.drop i).all chkB) := by
  induction m with
  | zero =>
    intro i hi
    refine Ev.succ (Ev.congr (fun k => ?_) (Ev.const (o := some _) rfl))
    rw [journal_may.l0, if_neg (by omega), List.drop_of_length_le (by omega)]
    rfl
  | succ m ih =>
    intro i hi
    apply Ev.succ
    have e1 : ∀ k, journal_may.l0 (k + 1) l (l.length : Int) (i : Int) = _ := fun k => by rw [journal_may.l0, if_pos (by omega), if_pos (by omega), if_pos (by omega), Check_f]
    refine Ev.congr e1 (Ev.bind (Ev.const rfl) ?_)
    rw [drop_rd85 l i (by omega), List.all_cons]
    cases h : chkB (rd_T85 l i) with
    | true =>
      refine Ev.iteT (by simp) ?_
      rw [w64 _ (by omega) (by omega), Bool.true_and]
      exact ih (i + 1) (by omega)
    | false => exact Ev.iteF (by simp) (Ev.const rfl)
theorem mayBe_loop (s : ByteArray) (l : List S85) (hl : l.length ≤ 4611686018427387904) (m : Nat) : ∀ i : Nat, i + m = l.length → Ev (fun k => pedigreeref29_mayBe.l0 k (i : Int) s l) ((l.drop i).all chkB) := by
  induction m with
  | zero =>
    intro i hi
    refine Ev.succ (Ev.congr (fun k => ?_) (Ev.const (o := some _) rfl))
    rw [pedigreeref29_mayBe.l0, if_neg (by omega), List.drop_of_length_le (by omega)]
    rfl
  | succ m ih =>
    intro i hi
    apply Ev.succ
    have e1 : ∀ k, pedigreeref29_mayBe.l0 (k + 1) (i : Int) s l = _ := fun k => by rw [pedigreeref29_mayBe.l0, if_pos (by omega), if_pos (by omega), refCheck_f]
    refine Ev.congr e1 (Ev.bind (Ev.const rfl) ?_)
    rw [drop_rd85 l i (by omega), List.all_cons]
    cases h : chkB (rd_T85 l i) with
    | true =>
      refine Ev.iteT (by simp) ?_
      rw [w64 _ (by omega) (by omega), Bool.true_and]
      exact ih (i + 1) (by omega)
    | false => exact Ev.iteF (by simp) (Ev.const rfl)
theorem may_ev (f : S90) (hl : f.f1.length ≤ 4611686018427387904) : Ev (fun k => journal_may.f k f.f0 f.f1) (mayB f) := by
  have hj : Ev (fun k => journal_may.j0 k true f.f0 f.f1) false := Ev.succ (Ev.congr (fun k => by rw [journal_may.j0, if_pos rfl]) (Ev.const rfl))
  obtain ⟨t, e, hs, hiff⟩ := Show_f f.f0
  unfold journal_may.f
  refine Ev.bind (Ev.const hs) ?_
  by_cases hn : nameB f.f0 = true
  · obtain ⟨h1, h2⟩ := hiff.2 hn
    refine Ev.iteT h1 (Ev.iteT h2 ?_)
    unfold mayB
    rw [hn, Bool.true_and]
    by_cases c : f.f1.length ≤ 24
    · rw [decide_eq_false (show ¬ (f.f1.length : Int) > 24 by omega), decide_eq_true c, Bool.true_and]
      apply Ev.succ
      have e1 : ∀ k, journal_may.j0 (k + 1) false f.f0 f.f1 = _ := fun k => by rw [journal_may.j0, if_neg (by decide)]
      exact Ev.congr e1 (may_loop f.f1 hl f.f1.length 0 (by omega))
    · rw [decide_eq_true (show (f.f1.length : Int) > 24 by omega), decide_eq_false c, Bool.false_and]
      exact hj
  · have ef : mayB f = false := by unfold mayB; simp [hn]
    rw [ef]
    by_cases h1 : e = 0
    · exact Ev.iteT h1 (Ev.iteF (fun h2 => hn (hiff.1 ⟨h1, h2⟩)) hj)
    · exact Ev.iteF h1 hj
theorem mayBe_ev (f : S90) (hl : f.f1.length ≤ 4611686018427387904) (hs : f.f0.size ≤ 4611686018427387904) : Ev (fun k => pedigreeref29_mayBe.f k f.f0 f.f1) (mayB f) := by
  have hj : Ev (fun k => pedigreeref29_mayBe.j0 k true f.f0 f.f1) false := Ev.succ (Ev.congr (fun k => by rw [pedigreeref29_mayBe.j0, if_pos rfl]) (Ev.const rfl))
  unfold pedigreeref29_mayBe.f
  refine Ev.bind (Name_ev f.f0 hs) ?_
  by_cases hn : nameB f.f0 = true
  · refine Ev.iteT hn ?_
    unfold mayB
    rw [hn, Bool.true_and]
    by_cases c : f.f1.length ≤ 24
    · rw [decide_eq_false (show ¬ (f.f1.length : Int) > 24 by omega), decide_eq_true c, Bool.true_and]
      apply Ev.succ
      have e1 : ∀ k, pedigreeref29_mayBe.j0 (k + 1) false f.f0 f.f1 = _ := fun k => by rw [pedigreeref29_mayBe.j0, if_neg (by decide)]
      exact Ev.congr e1 (mayBe_loop f.f0 f.f1 hl f.f1.length 0 (by omega))
    · rw [decide_eq_true (show (f.f1.length : Int) > 24 by omega), decide_eq_false c, Bool.false_and]
      exact hj
  · have ef : mayB f = false := by unfold mayB; simp [hn]
    rw [ef]
    exact Ev.iteF hn hj
def Fits (l : List S90) : Prop := l.length ≤ 4611686018427387904 ∧ ∀ f ∈ l, f.f1.length ≤ 4611686018427387904 ∧ f.f0.size ≤ 4611686018427387904
def risG (p : Option S90) : List S90 → Bool
  | [] => true
  | f :: r => mayB f && ((match p with | none => true | some q => decide (cmpF q f < 0)) && risG (some f) r)
def risB (l : List S90) : Bool := risG none l
def prevOf (l : List S90) (i : Nat) : Option S90 := if i = 0 then none else some (rd_T90 l ((i : Int) - 1))
theorem prev_succ (l : List S90) (i : Nat) : prevOf l (i + 1) = some (rd_T90 l (i : Int)) := by
  unfold prevOf
  rw [if_neg (by omega), show (((i + 1 : Nat) : Int) - 1) = (i : Int) by omega]
theorem rising_loop (l : List S90) (hf : Fits l) (m : Nat) : ∀ i : Nat, i + m = l.length → Ev (fun k => journal_rising.l0 k l l (l.length : Int) (i : Int)) (risG (prevOf l i) (l.drop i)) := by
  have hl := hf.1
  induction m with
  | zero =>
    intro i hi
    refine Ev.succ (Ev.congr (fun k => ?_) (Ev.const (o := some _) rfl))
    rw [journal_rising.l0, if_neg (by omega), List.drop_of_length_le (by omega)]
    rfl
  | succ m ih =>
    intro i hi
    apply Ev.succ
    have e1 : ∀ k, journal_rising.l0 (k + 1) l l (l.length : Int) (i : Int) = _ := fun k => by rw [journal_rising.l0, if_pos (by omega), if_pos (by omega), if_pos (by omega)]
    have hm := hf.2 _ (rd90_mem l i (by omega))
    refine Ev.congr e1 (Ev.bind (may_ev _ hm.1) ?_)
    rw [drop_rd90 l i (by omega)]
    simp only [risG]
    have ih2 := ih (i + 1) (by omega)
    rw [prev_succ] at ih2
    cases h : mayB (rd_T90 l i) with
    | false => exact Ev.iteF (by decide) (Ev.const rfl)
    | true =>
      refine Ev.iteT rfl ?_
      rw [Bool.true_and, w64 ((i : Int) + 1) (by omega) (by omega)]
      by_cases c : i = 0
      · subst c
        refine Ev.iteF (by omega) ?_
        exact ih2
      · have ep : prevOf l i = some (rd_T90 l ((i : Int) - 1)) := by unfold prevOf; rw [if_neg c]
        rw [ep, w64 ((i : Int) - 1) (by omega) (by omega)]
        have hm2 := hf.2 _ (rd90_mem l (i - 1) (by omega))
        rw [show (((i - 1 : Nat) : Nat) : Int) = (i : Int) - 1 by omega] at hm2
        refine Ev.iteT (by omega) (Ev.iteT (by omega) (Ev.iteT (by omega) (Ev.bind (CompareFacts_ev _ _ hm2.1 hm.1) ?_)))
        dsimp only
        by_cases z : cmpF (rd_T90 l ((i : Int) - 1)) (rd_T90 l i) < 0
        · rw [decide_eq_true z, Bool.true_and]
          exact Ev.iteF (by omega) ih2
        · rw [decide_eq_false z, Bool.false_and]
          exact Ev.iteT (by omega) (Ev.const rfl)
theorem rising_ev (l : List S90) (hf : Fits l) : Ev (fun k => journal_rising.f k l) (risB l) := rising_loop l hf l.length 0 (by omega)
theorem inOrder_loop (l : List S90) (hf : Fits l) (m : Nat) : ∀ i : Nat, i + m = l.length → Ev (fun k => pedigreeref29_inOrder.l0 k l (i : Int)) (risG (prevOf l i) (l.drop i)) := by
  have hl := hf.1
  induction m with
  | zero =>
    intro i hi
    refine Ev.succ (Ev.congr (fun k => ?_) (Ev.const (o := some _) rfl))
    rw [pedigreeref29_inOrder.l0, if_neg (by omega), List.drop_of_length_le (by omega)]
    rfl
  | succ m ih =>
    intro i hi
    apply Ev.succ
    have e1 : ∀ k, pedigreeref29_inOrder.l0 (k + 1) l (i : Int) = _ := fun k => by rw [pedigreeref29_inOrder.l0, if_pos (by omega), if_pos (by omega)]
    have hm := hf.2 _ (rd90_mem l i (by omega))
    refine Ev.congr e1 (Ev.bind (mayBe_ev _ hm.1 hm.2) ?_)
    rw [drop_rd90 l i (by omega)]
    simp only [risG]
    have ih2 := ih (i + 1) (by omega)
    rw [prev_succ] at ih2
    cases h : mayB (rd_T90 l i) with
    | false => exact Ev.iteF (by decide) (Ev.const rfl)
    | true =>
      refine Ev.iteT rfl ?_
      rw [Bool.true_and, w64 ((i : Int) + 1) (by omega) (by omega)]
      by_cases c : i = 0
      · subst c
        refine Ev.iteF (by omega) ?_
        exact ih2
      · have ep : prevOf l i = some (rd_T90 l ((i : Int) - 1)) := by unfold prevOf; rw [if_neg c]
        rw [ep, w64 ((i : Int) - 1) (by omega) (by omega)]
        have hm2 := hf.2 _ (rd90_mem l (i - 1) (by omega))
        rw [show (((i - 1 : Nat) : Nat) : Int) = (i : Int) - 1 by omega] at hm2
        refine Ev.iteT (by omega) (Ev.iteT (by omega) (Ev.iteT (by omega) (Ev.bind (refCompareFacts_ev _ _ hm2.1 hm.1) ?_)))
        dsimp only
        by_cases z : cmpF (rd_T90 l ((i : Int) - 1)) (rd_T90 l i) < 0
        · rw [decide_eq_true z, Bool.true_and]
          exact Ev.iteF (by omega) ih2
        · rw [decide_eq_false z, Bool.false_and]
          exact Ev.iteT (by omega) (Ev.const rfl)
theorem inOrder_ev (l : List S90) (hf : Fits l) : Ev (fun k => pedigreeref29_inOrder.f k l) (risB l) := inOrder_loop l hf l.length 0 (by omega)
theorem cmpF_lt (a b : S90) : cmpF a b < 0 ↔ cmpF a b = -1 := by
  have := to_F.rng a b
  omega
theorem risG_all : ∀ (l : List S90) (p : Option S90), risG p l = true → (∀ f ∈ l, mayB f = true) ∧ (∀ q, p = some q → ∀ f ∈ l, cmpF q f = -1) ∧ l.Pairwise (fun a b => cmpF a b = -1)
  | [], p, _ => ⟨by simp, by simp, List.Pairwise.nil⟩
  | f :: r, p, h => by
    simp only [risG, Bool.and_eq_true] at h
    obtain ⟨h1, h2, h3⟩ := h
    obtain ⟨a1, a2, a3⟩ := risG_all r (some f) h3
    refine ⟨by simpa using ⟨h1, a1⟩, ?_, List.Pairwise.cons (a2 f rfl) a3⟩
    intro q hq
    subst hq
    have hf : cmpF q f = -1 := (cmpF_lt q f).1 (of_decide_eq_true h2)
    intro g hg
    rcases List.mem_cons.1 hg with rfl | hg
    · exact hf
    · exact to_F.tr _ _ _ hf (a2 f rfl g hg)
def com (a b : List S90) : Bool := a.any fun x => b.any fun y => decide (cmpF x y = 0)
theorem com_cons_lt (x y : S90) (a b : List S90) (h : cmpF x y = -1) (hb : (y :: b).Pairwise (fun a b => cmpF a b = -1)) : com (x :: a) (y :: b) = com a (y :: b) := by
  unfold com
  rw [List.any_cons]
  have : ((y :: b).any fun z => decide (cmpF x z = 0)) = false := by
    rw [List.any_eq_false]
    intro z hz
    have hlt : cmpF x z = -1 := by
      rcases List.mem_cons.1 hz with rfl | hz
      · exact h
      · exact to_F.tr _ _ _ h ((List.pairwise_cons.1 hb).1 z hz)
    simp [hlt]
  rw [this, Bool.false_or]
theorem com_mem (a b : List S90) : com a b = true ↔ ∃ x ∈ a, ∃ y ∈ b, cmpF x y = 0 := by
  unfold com
  simp
theorem com_cons_gt (x y : S90) (a b : List S90) (h : cmpF x y = 1) (ha : (x :: a).Pairwise (fun a b => cmpF a b = -1)) : com (x :: a) (y :: b) = com (x :: a) b := by
  rw [Bool.eq_iff_iff, com_mem, com_mem]
  have hyx : cmpF y x = -1 := by rw [to_F.anti x y, h]
  constructor
  · rintro ⟨u, hu, v, hv, e⟩
    rcases List.mem_cons.1 hv with rfl | hv
    · exfalso
      have hlt : cmpF v u = -1 := by
        rcases List.mem_cons.1 hu with rfl | hu
        · exact hyx
        · exact to_F.tr _ _ _ hyx ((List.pairwise_cons.1 ha).1 u hu)
      have := to_F.anti v u
      omega
    · exact ⟨u, hu, v, hv, e⟩
  · rintro ⟨u, hu, v, hv, e⟩
    exact ⟨u, hu, v, List.mem_cons_of_mem _ hv, e⟩
theorem pw_drop {l : List S90} {r : S90 → S90 → Prop} (h : l.Pairwise r) (i : Nat) : (l.drop i).Pairwise r := h.sublist (List.drop_sublist i l)
theorem apart_loop (a b : List S90) (ha : Fits a) (hb : Fits b) (pa : a.Pairwise (fun a b => cmpF a b = -1)) (pb : b.Pairwise (fun a b => cmpF a b = -1)) (m : Nat) : ∀ i j : Nat, i ≤ a.length → j ≤ b.length → i + j + m = a.length + b.length →
    Ev (fun k => journal_apart.l0 k a b (i : Int) (j : Int)) (!com (a.drop i) (b.drop j)) := by
  have hla := ha.1
  have hlb := hb.1
  have hend : ∀ i j : Int, Ev (fun k => journal_apart.j1 k a b i j false) true := fun i j => Ev.succ (Ev.congr (fun k => by rw [journal_apart.j1, if_neg (by decide)]) (Ev.const rfl))
  induction m with
  | zero =>
    intro i j hi hj e
    apply Ev.succ
    have e1 : ∀ k, journal_apart.l0 (k + 1) a b (i : Int) (j : Int) = _ := fun k => by rw [journal_apart.l0, if_neg (by omega)]
    refine Ev.congr e1 ?_
    rw [List.drop_of_length_le (by omega)]
    exact hend _ _
  | succ m ih =>
    intro i j hi hj e
    apply Ev.succ
    by_cases c1 : i < a.length
    · have e1 : ∀ k, journal_apart.l0 (k + 1) a b (i : Int) (j : Int) = _ := fun k => by rw [journal_apart.l0, if_pos (by omega)]
      refine Ev.congr e1 ?_
      by_cases c2 : j < b.length
      · rw [decide_eq_true (show (j : Int) < (b.length : Int) by omega)]
        apply Ev.succ
        have e2 : ∀ k, journal_apart.j1 (k + 1) a b (i : Int) (j : Int) true = _ := fun k => by rw [journal_apart.j1, if_pos rfl, if_pos (by omega), if_pos (by omega), if_pos (by omega), if_pos (by omega)]
        refine Ev.congr e2 ?_
        have hma := ha.2 _ (rd90_mem a i c1)
        have hmb := hb.2 _ (rd90_mem b j c2)
        refine Ev.bind (CompareFacts_ev _ _ hma.1 hmb.1) ?_
        have da := drop_rd90 a i c1
        have db := drop_rd90 b j c2
        have pa2 := pw_drop pa i
        have pb2 := pw_drop pb j
        rw [da] at pa2
        rw [db] at pb2
        rw [w64 ((i : Int) + 1) (by omega) (by omega), w64 ((j : Int) + 1) (by omega) (by omega), da, db]
        rcases to_F.rng (rd_T90 a i) (rd_T90 b j) with z | z | z
        · refine Ev.iteF (by omega) (Ev.iteT z ?_)
          rw [com_cons_lt _ _ _ _ z pb2, ← db]
          exact ih (i + 1) j (by omega) (by omega) (by omega)
        · refine Ev.iteT z (Ev.const ?_)
          have : com (rd_T90 a i :: a.drop (i + 1)) (rd_T90 b j :: b.drop (j + 1)) = true := (com_mem _ _).2 ⟨_, by simp, _, by simp, z⟩
          rw [this]
          rfl
        · refine Ev.iteF (by omega) (Ev.iteF (by omega) ?_)
          rw [com_cons_gt _ _ _ _ z pa2, ← da]
          exact ih i (j + 1) (by omega) (by omega) (by omega)
      · rw [decide_eq_false (show ¬ (j : Int) < (b.length : Int) by omega), List.drop_of_length_le (show b.length ≤ j by omega)]
        have : com (a.drop i) [] = false := by unfold com; simp
        rw [this]
        exact hend _ _
    · have e1 : ∀ k, journal_apart.l0 (k + 1) a b (i : Int) (j : Int) = _ := fun k => by rw [journal_apart.l0, if_neg (by omega)]
      refine Ev.congr e1 ?_
      rw [List.drop_of_length_le (by omega)]
      exact hend _ _
theorem apart_ev (a b : List S90) (ha : Fits a) (hb : Fits b) (ra : risB a = true) (rb : risB b = true) : Ev (fun k => journal_apart.f k a b) (!com a b) :=
  apart_loop a b ha hb (risG_all a none ra).2.2 (risG_all b none rb).2.2 (a.length + b.length) 0 0 (by omega) (by omega) (by omega)
theorem stands_loop (l : List S90) (hf : Fits l) (f : S90) (hf2 : f.f1.length ≤ 4611686018427387904) (m : Nat) : ∀ i : Nat, i + m = l.length → Ev (fun k => pedigreeref29_Stands.l0 k l (i : Int) f.f0 f.f1) ((l.drop i).any fun x => decide (cmpF x f = 0)) := by
  have hl := hf.1
  induction m with
  | zero =>
    intro i hi
    refine Ev.succ (Ev.congr (fun k => ?_) (Ev.const (o := some _) rfl))
    rw [pedigreeref29_Stands.l0, if_neg (by omega), List.drop_of_length_le (by omega)]
    rfl
  | succ m ih =>
    intro i hi
    apply Ev.succ
    have e1 : ∀ k, pedigreeref29_Stands.l0 (k + 1) l (i : Int) f.f0 f.f1 = _ := fun k => by rw [pedigreeref29_Stands.l0, if_pos (by omega), if_pos (by omega)]
    have hm := hf.2 _ (rd90_mem l i (by omega))
    refine Ev.congr e1 (Ev.bind (refCompareFacts_ev _ _ hm.1 hf2) ?_)
    rw [drop_rd90 l i (by omega), List.any_cons]
    by_cases z : cmpF (rd_T90 l i) f = 0
    · rw [decide_eq_true z, Bool.true_or]
      exact Ev.iteT z (Ev.const rfl)
    · rw [decide_eq_false z, Bool.false_or, w64 _ (by omega) (by omega)]
      exact Ev.iteF z (ih (i + 1) (by omega))
theorem good_loop (n : Int) (a b : List S90) (ha : Fits a) (hb : Fits b) (m : Nat) : ∀ i : Nat, i + m = a.length → Ev (fun k => pedigreeref29_Good.l0 k (i : Int) n a b) (!com (a.drop i) b) := by
  have hl := ha.1
  induction m with
  | zero =>
    intro i hi
    refine Ev.succ (Ev.congr (fun k => ?_) (Ev.const (o := some _) rfl))
    rw [pedigreeref29_Good.l0, if_neg (by omega), List.drop_of_length_le (by omega)]
    rfl
  | succ m ih =>
    intro i hi
    apply Ev.succ
    have e1 : ∀ k, pedigreeref29_Good.l0 (k + 1) (i : Int) n a b = _ := fun k => by rw [pedigreeref29_Good.l0, if_pos (by omega), if_pos (by omega)]
    have hm := ha.2 _ (rd90_mem a i (by omega))
    have hS : Ev (fun k => pedigreeref29_Stands.f k b (rd_T90 a i).f0 (rd_T90 a i).f1) (b.any fun x => decide (cmpF x (rd_T90 a i) = 0)) := stands_loop b hb (rd_T90 a i) hm.1 b.length 0 (by omega)
    refine Ev.congr e1 (Ev.bind hS ?_)
    rw [drop_rd90 a i (by omega)]
    have es : (b.any fun x => decide (cmpF x (rd_T90 a i) = 0)) = (b.any fun y => decide (cmpF (rd_T90 a i) y = 0)) := by
      congr 1
      funext y
      rw [to_F.anti (rd_T90 a i) y, decide_eq_decide]
      omega
    have ec : com (rd_T90 a i :: a.drop (i + 1)) b = ((b.any fun y => decide (cmpF (rd_T90 a i) y = 0)) || com (a.drop (i + 1)) b) := by unfold com; rw [List.any_cons]
    rw [es, ec]
    cases (b.any fun y => decide (cmpF (rd_T90 a i) y = 0)) with
    | true => exact Ev.iteT rfl (Ev.const rfl)
    | false =>
      rw [Bool.false_or, w64 _ (by omega) (by omega)]
      exact Ev.iteF (by decide) (ih (i + 1) (by omega))
def goodB (n : Int) (a b : List S90) : Bool := decide (1 ≤ n) && (risB a && (risB b && !com a b))
theorem Good_ev (n : Int) (a b : List S90) (ha : Fits a) (hb : Fits b) : Ev (fun k => pedigreeref29_Good.f k n a b) (goodB n a b) := by
  have hj : Ev (fun k => pedigreeref29_Good.j0 k true n a b) false := Ev.succ (Ev.congr (fun k => by rw [pedigreeref29_Good.j0, if_pos rfl]) (Ev.const rfl))
  unfold pedigreeref29_Good.f goodB
  by_cases c : 1 ≤ n
  · rw [decide_eq_true c, Bool.true_and]
    refine Ev.iteF (by omega) (Ev.bind (inOrder_ev a ha) ?_)
    cases risB a with
    | false => exact Ev.iteF (by decide) hj
    | true =>
      refine Ev.iteT rfl (Ev.bind (inOrder_ev b hb) ?_)
      cases risB b with
      | false => exact hj
      | true =>
        apply Ev.succ
        have e1 : ∀ k, pedigreeref29_Good.j0 (k + 1) (!true) n a b = _ := fun k => by rw [pedigreeref29_Good.j0, if_neg (by decide)]
        exact Ev.congr e1 (good_loop n a b ha hb a.length 0 (by omega))
  · rw [decide_eq_false c, Bool.false_and]
    exact Ev.iteT (by omega) hj
end Go.Proofs.J.Pure
end
section
namespace Go.Proofs.J.Pure
open Go.RowKit Go.Proofs.J.Print Go.Proofs.PrintWords Go.Proofs.PrintLast Go.Proofs.PrintMore
theorem may_ok (f : S90) (h : mayB f = true) (hr : ∀ v ∈ f.f1, rngV v) : okF f := by
  unfold mayB at h
  simp only [Bool.and_eq_true, decide_eq_true_eq, List.all_eq_true] at h
  obtain ⟨h1, h2, h3⟩ := h
  have := name_len h1
  refine ⟨by omega, by omega, fun v hv => ⟨hr v hv, ?_⟩⟩
  have hc := h3 v hv
  unfold chkB at hc
  rw [decide_eq_true_eq] at hc
  rcases hc with ⟨c0, c2⟩ | ⟨c0, c1, c2⟩
  · exact Or.inl ⟨c0, lb_inj c2⟩
  · exact Or.inr ⟨c0, c1, by omega⟩
def bodyCom (x : Bs) : Option (Int × List S90 × List S90) :=
  match x with
  | [] => none
  | t :: r => if t = 67 then if 8 ≤ r.length then match sFs sV (r.drop 8) with
      | none => none
      | some (a, z) => if risB a = true then match sFs sV z with
        | none => none
        | some (b, w) => if risB b = true then if 1 ≤ wrap64 (leN (r.take 8) : Int) then if w.length = 0 then if com a b = false then some (wrap64 (leN (r.take 8) : Int), a, b) else none else none else none else none
        else none else none else none
def comL (l : Bs) : Option ((Int × List S90 × List S90) × ByteArray) := match bodyOf l with
  | none => none
  | some x => match bodyCom x with | none => none | some c => some (c, ob (l.drop (10 + x.length)))
theorem ok_fits {l : List S90} (h : ∀ f ∈ l, okF f) (hl : l.length < 4294967296) : Fits l := ⟨by omega, fun f hf => by have := h f hf; have h1 := this.1; have h2 := this.2.1; omega⟩
theorem ris_ev (fs : List S90) (h : ∀ f ∈ fs, okF f) (hl : fs.length < 4294967296) : Ev (fun k => journal_rising.f k fs) (risB fs) := rising_ev fs (ok_fits h hl)
theorem commitP_ev (b : ByteArray) (hb : b.size ≤ 140737488351232) : Ev (fun k => commitP.f k b) (comL (lb b)) := by
  unfold commitP.f comL
  refine Ev.bind (proBody_ev b hb) ?_
  cases hB : bodyOf (lb b) with
  | none => exact Ev.bindPn rfl
  | some x =>
    have hx := bodyOf_le hB
    refine Ev.bindPs (show proBody (lb b) (some x) = some (ob x, ob ((lb b).drop (10 + x.length))) from rfl) ?_
    dsimp only
    cases x with
    | nil => exact Ev.bindPn (pt_no [] 1 (by simp) 1 rfl)
    | cons t r =>
      refine Ev.bindPs (pt_yes (t :: r) 1 (by simp) 1 rfl) ?_
      have ht : (ob (List.take 1 (t :: r))).toList = [t] := ob_toList [t]
      simp only [bodyCom]
      by_cases t1 : t = 67
      · rw [if_pos t1]
        refine Ev.iteT (ht.trans (by rw [t1])) ?_
        by_cases h8 : 8 ≤ r.length
        · rw [if_pos h8]
          have e8 : (ob (r.take 8)).size = 8 := by rw [ob_size, List.length_take]; omega
          have hg := get64_ev _ e8
          rw [lb_ob] at hg
          refine Ev.bindPs (pt_yes r 8 h8 8 rfl) (Ev.bind hg ?_)
          have hr : ∀ fs : List S90, (∀ f ∈ fs, okF f) → fs.length < 4294967296 → Ev (fun k => journal_rising.f k fs) (risB fs) := fun fs h hl => ris_ev fs h hl
          refine Ev.bind (factsP_ev risB hr (r.drop 8)) ?_
          cases h1 : sFs sV (r.drop 8) with
          | none => exact Ev.bindPn rfl
          | some p =>
            obtain ⟨a, z⟩ := p
            have i1 := sFs_inv h1
            dsimp only
            by_cases ra : risB a = true
            · rw [if_pos ra, if_pos ra]
              refine Ev.bindPs rfl (Ev.bind (factsP_ev risB hr z) ?_)
              cases h2 : sFs sV z with
              | none => exact Ev.bindPn rfl
              | some p =>
                obtain ⟨b2, w⟩ := p
                have i2 := sFs_inv h2
                dsimp only
                by_cases rb : risB b2 = true
                · rw [if_pos rb, if_pos rb]
                  refine Ev.bindPs rfl ?_
                  by_cases hn : 1 ≤ wrap64 (leN (r.take 8) : Int)
                  · rw [if_pos hn]
                    refine Ev.iteF (by omega) ?_
                    by_cases hw : w.length = 0
                    · rw [if_pos hw]
                      refine Ev.iteT (by show ((ob w).size = 0); rw [ob_size]; exact hw) ?_
                      refine Ev.bind (apart_ev a b2 (ok_fits i1.2.1 i1.2.2.1) (ok_fits i2.2.1 i2.2.2.1) ra rb) ?_
                      by_cases hc : com a b2 = false
                      · rw [if_pos hc, hc]
                        exact Ev.iteT rfl (Ev.const rfl)
                      · have hc2 : com a b2 = true := by simpa using hc
                        rw [if_neg hc, hc2]
                        exact Ev.iteF (by decide) (Ev.const rfl)
                    · rw [if_neg hw]
                      exact Ev.iteF (by show ¬ ((ob w).size = 0); rw [ob_size]; exact hw) (Ev.const rfl)
                  · rw [if_neg hn]
                    exact Ev.iteT (by omega) (Ev.const rfl)
                · rw [if_neg rb, if_neg rb]
                  exact Ev.bindPn rfl
            · rw [if_neg ra, if_neg ra]
              exact Ev.bindPn rfl
        · rw [if_neg h8]
          exact Ev.bindPn (pt_no r 8 h8 8 rfl)
      · rw [if_neg t1]
        exact Ev.iteF (fun h => t1 (by have := ht.symm.trans h; simpa using this)) (Ev.const rfl)
theorem bodyCom_mk {n : Int} {a b : List S90} (hn : -9223372036854775808 ≤ n ∧ n ≤ 9223372036854775807) (hg : goodB n a b = true) (ha : ∀ f ∈ a, okF f) (hb : ∀ f ∈ b, okF f) (hla : a.length < 4294967296) (hlb : b.length < 4294967296) : bodyCom (bodyL n a b) = some (n, a, b) := by
  unfold goodB at hg
  simp only [Bool.and_eq_true, decide_eq_true_eq, Bool.not_eq_true'] at hg
  obtain ⟨g1, g2, g3, g4⟩ := hg
  have hlen := leB_len 8 (u64n n)
  unfold bodyCom bodyL
  dsimp only
  rw [if_pos rfl, if_pos (by rw [List.length_append]; omega), app_drop _ _ hlen, app_take _ _ hlen, sFs_enc a _ ha hla, leN_leB, Nat.mod_eq_of_lt (u64n_lt _), u64_w64 _ hn]
  dsimp only
  rw [if_pos g2]
  have e2 := sFs_enc b [] hb hlb
  rw [List.append_nil] at e2
  rw [e2]
  dsimp only
  rw [if_pos g3, if_pos g1, if_pos (show ([] : Bs).length = 0 from rfl), if_pos g4]
end Go.Proofs.J.Pure
end
section
namespace Go.Proofs.J.Pure
open Go.RowKit Go.Proofs.J.Print Go.Proofs.PrintWords Go.Proofs.PrintLast Go.Proofs.PrintMore
theorem sameV_loop (l : List S85) (hl : l.length ≤ 4611686018427387904) (m : Nat) : ∀ i : Nat, i + m = l.length → Ev (fun k => pedigreelaw01_SameValues.l0 k l l (i : Int)) true := by
  induction m with
  | zero =>
    intro i hi
    refine Ev.succ (Ev.congr (fun k => ?_) (Ev.const (o := some _) rfl))
    rw [pedigreelaw01_SameValues.l0, if_neg (by omega)]
  | succ m ih =>
    intro i hi
    apply Ev.succ
    have e1 : ∀ k, pedigreelaw01_SameValues.l0 (k + 1) l l (i : Int) = _ := fun k => by rw [pedigreelaw01_SameValues.l0, if_pos (by omega), if_pos (by omega), if_pos (by omega)]
    refine Ev.congr e1 (Ev.iteF (by simp) ?_)
    rw [w64 _ (by omega) (by omega)]
    exact ih (i + 1) (by omega)
theorem sameF_ev (f : S90) (hl : f.f1.length ≤ 4611686018427387904) : Ev (fun k => pedigreelaw01_SameFact.f k f.f0 f.f1 f.f0 f.f1) true := by
  unfold pedigreelaw01_SameFact.f pedigreelaw01_SameValues.f
  exact Ev.iteT rfl (Ev.bind (Ev.iteT rfl (sameV_loop f.f1 hl f.f1.length 0 (by omega))) (Ev.const rfl))
theorem sameFs_loop (l : List S90) (hf : Fits l) (m : Nat) : ∀ i : Nat, i + m = l.length → Ev (fun k => pedigreelaw01_SameFacts.l0 k l l (i : Int)) true := by
  have hl := hf.1
  induction m with
  | zero =>
    intro i hi
    refine Ev.succ (Ev.congr (fun k => ?_) (Ev.const (o := some _) rfl))
    rw [pedigreelaw01_SameFacts.l0, if_neg (by omega)]
  | succ m ih =>
    intro i hi
    apply Ev.succ
    have e1 : ∀ k, pedigreelaw01_SameFacts.l0 (k + 1) l l (i : Int) = _ := fun k => by rw [pedigreelaw01_SameFacts.l0, if_pos (by omega), if_pos (by omega), if_pos (by omega)]
    have hm := hf.2 _ (rd90_mem l i (by omega))
    refine Ev.congr e1 (Ev.bind (sameF_ev _ hm.1) (Ev.iteT rfl ?_))
    rw [w64 _ (by omega) (by omega)]
    exact ih (i + 1) (by omega)
theorem sameC_ev (n : Int) (a b : List S90) (ha : Fits a) (hb : Fits b) : Ev (fun k => pedigreelaw01_SameCommit.f k n a b n a b) true := by
  unfold pedigreelaw01_SameCommit.f pedigreelaw01_SameFacts.f
  exact Ev.iteT rfl (Ev.bind (Ev.iteT rfl (sameFs_loop a ha a.length 0 (by omega))) (Ev.iteT rfl (Ev.bind (Ev.iteT rfl (sameFs_loop b hb b.length 0 (by omega))) (Ev.const rfl))))
end Go.Proofs.J.Pure
end
section
namespace Go.Proofs.J.Print
open Go.RowKit Go.Proofs.PrintWords Go.Proofs.PrintLast Go.Proofs.PrintMore
attribute [local go_sem high] eqA85
def pedigreelaw01_isValue.f (a0_0 : Int) (a0_1 : Int) (a0_2 : ByteArray) (a1 : Int) : Option (Bool) := some (a0_0 == 99 && (a0_1 == a1 && (a0_2.toList == ([] : List UInt8))))
set_option maxHeartbeats 8000000 in
set_option maxRecDepth 100000 in
theorem pedigreelaw01_isValue.calls (a0_0 : Int) (a0_1 : Int) (a0_2 : ByteArray) (a1 : Int) (r : Bool) (w : World) (h : pedigreelaw01_isValue.f a0_0 a0_1 a0_2 a1 = some r) :
  Calls Tryz.prog 220 #[.agg #[.int .i8 a0_0, .int .i64 a0_1, .string a0_2], .int .i64 a1] w fun e w' => e = .returned (.bool r) ∧ Below w.heap.size w w' := by
 have hu85 := Tryz.underlying85
 have HB := Aside0.mk (Below.refl w.heap.size w)
 have H : (some (a0_0 == 99 && (a0_1 == a1 && (a0_2.toList == ([] : List UInt8))))) = some r := h
 clear h
 obtain rfl := Option.some.inj H
 go_enter Tryz.func220, Tryz.ntmps220
 go_wp2_with (first | ((with_reducible refine gate_dst (N := 2) rfl ?_); refine boxS 2 #[.int .i8 a0_0, .int .i64 a0_1, .string a0_2] 85 ?_; intro gb271 hg w3 hbox hb; have n0_ := Aside0.mk (below_step (upB HB.out) hb); have n1_ := Aside0.mk (hbox); have n2_ := Aside0.mk (geB hg (upB HB.out) : w.heap.size ≤ gb271); have n3_ := Aside0.mk (geB hg (upB HB.out) : w.heap.size ≤ gb271); clear HB; have HB := n0_; have BK271 := n1_; have GW271 := n2_; have GE271 := n3_; clear n0_ n1_ n2_ n3_; clear hb hbox hg; have hcz4_0 : w3.cell? ⟨gb271, 0, none⟩ = some (.int .i8 a0_0) := (blk_cell BK271.out 0).trans rfl; have hcz4_1 : w3.cell? ⟨gb271, 1, none⟩ = some (.int .i64 a0_1) := (blk_cell BK271.out 1).trans rfl; have hcz4_2 : w3.cell? ⟨gb271, 2, none⟩ = some (.string a0_2) := (blk_cell BK271.out 2).trans rfl; have hfz4_0 := blk_frozen BK271.out 0; have hfz4_1 := blk_frozen BK271.out 1; have hfz4_2 := blk_frozen BK271.out 2))
 go_ret
 exact ⟨eqE, upB HB.out⟩
end Go.Proofs.J.Print
end
section
namespace Go.Proofs.J.Print
open Go.RowKit Go.Proofs.PrintWords Go.Proofs.PrintLast Go.Proofs.PrintMore
theorem cut_room {P : Program} (t e : TypeId) (kh : IntKind) {i : TypeInfo} (ht : P.underlying t = some (.slice e)) (hi : P.info? e = some i) (A : Option Addr) (n c : Nat) (j : Int) (h0 : 0 ≤ j) (hm : j ≤ c) :
    ∀ W : World, (Instr.slice t (.slice A n c) none (some (.int kh j)) none).run P W = .ok (.slice A j.toNat c) W := by
  intro W
  have hel : P.elem t = e := by simp [Program.elem, ht]
  have hu : P.underlying t = some (.slice (P.elem t)) := by rw [hel]; exact ht
  have ha : (A.map fun x => x.add 0) = A := by cases A <;> simp [Addr.add]
  rw [run_slice_h W t A n c hu kh j h0 (by omega), hel]
  simp [sizeOf, typeInfo, hi, sliced, Result.andThen, ha]
theorem C_less {α : Type} {d : Kd α} {w : World} {A : Option Addr} {l : List α} {m : α} (h : d.C w A (l.length + 1) (l ++ [m])) : d.C w A l.length l := by
  have e : (l ++ [m]).length = l.length + 1 := by simp
  have := Kd.C_take (m := l.length) (by rw [e]; exact h) (by omega)
  rwa [List.take_left' rfl] at this
theorem rd_mark (l : List S85) : rd_T85 (l ++ [mkv]) (l.length : Int) = mkv := by
  unfold rd_T85
  rw [Int.toNat_natCast, List.getD_eq_getElem?_getD, List.getElem?_append_right (Nat.le_refl _), Nat.sub_self]
  rfl
set_option maxHeartbeats 8000000 in
set_option maxRecDepth 100000 in
theorem leftValues_calls (A0 : Option Addr) (c0 : Nat) (A1 : Option Addr) (c1 : Nat) (l : List S85) (w : World) (h0 : Kd.C k85 w A0 (l.length + 1) (l ++ [mkv])) (hc0 : l.length + 1 ≤ c0) (h1 : Kd.C k85 w A1 l.length l) (hc1 : l.length ≤ c1) (hl : l.length ≤ 1048576) :
    Calls Tryz.prog 203 #[.slice A0 l.length c0, .slice A1 l.length c1] w fun e w' => e = .returned (.bool true) ∧ Below w.heap.size w w' := by
  have hu85 := Tryz.underlying85
  obtain ⟨K, hK⟩ : ∃ K, pedigreelaw01_SameValues.f K l l = some true := by
    obtain ⟨K, hK⟩ := Pure.sameV_loop l (by omega) l.length 0 (by omega)
    exact ⟨K, by unfold pedigreelaw01_SameValues.f; rw [if_pos rfl]; exact hK K (Nat.le_refl _)⟩
  have A3 := Aside0.mk hK
  have HR0 := Aside0.mk (C_less h0)
  have HC0 := Aside0.mk (show l.length ≤ c0 by omega)
  have HR1 := Aside0.mk h1
  have HC1 := Aside0.mk hc1
  have HB := Aside0.mk (Below.refl w.heap.size w)
  obtain ⟨y, hy⟩ : ∃ y : List S85, y = l ++ [mkv] := ⟨_, rfl⟩
  have hyl : y.length = l.length + 1 := by rw [hy]; simp
  have HR276 := Aside0.mk (show Kd.C k85 w A0 y.length y by rw [hyl, hy]; exact h0)
  have A10 : Aside0 (pedigreelaw01_isValue.f ((rd_T85 y (l.length : Int)).f0) ((rd_T85 y (l.length : Int)).f1) ((rd_T85 y (l.length : Int)).f2) 777777 = some true) := ⟨by rw [hy, rd_mark]; decide +kernel⟩
  obtain ⟨ji5, hji5⟩ : ∃ j_ : Int, ((l.length : Int) + 1) = j_ := ⟨_, rfl⟩
  have hji5w : (IntKind.i64.wrap ((l.length : Int) + 1)) = ji5 := (i64_w _).trans ((show wrap64 ((l.length : Int) + 1) = (l.length : Int) + 1 by unfold wrap64; omega).trans hji5)
  have c6b0 := eq_true (show 0 ≤ ji5 by omega)
  have c6b1 : decide (0 ≤ ji5) = true := decide_eq_true (by omega)
  obtain ⟨i011, hi011, _, hsz11, _⟩ := info_parts info85
  have hcut11 := cut_room (P := Tryz.prog) 88 85 .i64 Tryz.underlying88 hi011 A0 l.length c0 ji5 (by omega) (by omega)
  rw [show ji5.toNat = y.length by omega] at hcut11
  have c8b0 : decide (0 ≤ (l.length : Int)) = true := decide_eq_true (by omega)
  have c8b1 : decide (0 ≤ l.length) = true := decide_eq_true (by omega)
  have c9b0 : decide ((l.length : Int) < (y.length : Int)) = true := decide_eq_true (by omega)
  have c9b1 : decide (l.length < y.length) = true := decide_eq_true (by omega)
  clear h0 hc0 h1 hc1 hl hK hy hyl hji5 hi011 hsz11
  go_enter Tryz.func203, Tryz.ntmps203
  go_wp2_with (first | ((with_reducible refine gate_callee (f := 216) rfl ?_); refine goesS (some 7) Tryz.func216 #[.slice A0 l.length c0, .slice A1 l.length c1] ?_; (with_reducible refine (pedigreelaw01_SameValues.calls K _ _ l _ _ l true _ ?side1 ?side2 ?side3 ?side4 A3.out).mono ?_); (case side1 => exact upC HR0.out); (case side2 => exact HC0.out); (case side3 => exact upC HR1.out); (case side4 => exact HC1.out); rintro e w' ⟨rfl, ⟨nd, rfl⟩⟩; refine ⟨_, rfl, ?_⟩; have p277 : 0 ≤ ((l.length : Int) : Int) := of_decide_eq_true byA; have q277 : (l.length : Int) < (y.length : Int) := of_decide_eq_true byA; obtain ⟨ad277, e277, hx277_0, hx277_1, hx277_2⟩ := at_T85 HR276.out (l.length : Int) p277 q277; cases e277; (try simp only [Go.IntWalk.toNatUp] at hx277_0); (try simp only [Go.IntWalk.toNatUp] at hx277_1); (try simp only [Go.IntWalk.toNatUp] at hx277_2); replace p277 := eq_true p277; replace q277 := eq_true q277) | (go_at_call 220; (with_reducible refine (pedigreelaw01_isValue.calls ((rd_T85 y (l.length : Int)).f0) ((rd_T85 y (l.length : Int)).f1) ((rd_T85 y (l.length : Int)).f2) 777777 true _ A10.out).mono ?_); rintro e w12 ⟨rfl, hb⟩; have n0_ := Aside0.mk (below_step (upB HB.out) hb); clear HB; have HB := n0_; clear n0_; (try clear hb); (try clear hb2); (try clear hk); (try clear hi)))
  go_ret
  exact ⟨eqE, upB HB.out⟩
set_option maxHeartbeats 8000000 in
set_option maxRecDepth 100000 in
theorem leftFact_calls (a0_0 : ByteArray) (A0_1 : Option Addr) (c0_1 : Nat) (A1_1 : Option Addr) (c1_1 : Nat) (l0_1 : List S85) (w : World) (h0 : Kd.C k85 w A0_1 (l0_1.length + 1) (l0_1 ++ [mkv])) (hc0 : l0_1.length + 1 ≤ c0_1) (h1 : Kd.C k85 w A1_1 l0_1.length l0_1) (hc1 : l0_1.length ≤ c1_1) (hl : l0_1.length ≤ 1048576) :
    Calls Tryz.prog 88 #[.agg #[.string a0_0, .slice A0_1 l0_1.length c0_1], .agg #[.string a0_0, .slice A1_1 l0_1.length c1_1]] w fun e w' => e = .returned (.bool true) ∧ Below w.heap.size w w' := by
  have hu90 := Tryz.underlying90
  have HR0_1 := Aside0.mk h0
  have HC0_1 := Aside0.mk hc0
  have HR1_1 := Aside0.mk h1
  have HC1_1 := Aside0.mk hc1
  have HN := Aside0.mk hl
  have HB := Aside0.mk (Below.refl w.heap.size w)
  have c3b0 : (a0_0.toList == a0_0.toList) = true := beq_iff_eq.mpr rfl
  have c3b1 : (a0_0.toList != a0_0.toList) = false := bne_eq_false_iff_eq.mpr rfl
  clear h0 hc0 h1 hc1 hl
  go_enter Tryz.func88, Tryz.ntmps88
  go_wp2_with (first | ((with_reducible refine gate_dst (N := 2) rfl ?_); refine boxS 2 #[.string a0_0, .slice A0_1 l0_1.length c0_1] 90 ?_; intro gb279 hg w5 hbox hb; have n0_ := Aside0.mk (below_step (upB HB.out) hb); have n1_ := Aside0.mk (hbox); have n2_ := Aside0.mk (geB hg (upB HB.out) : w.heap.size ≤ gb279); have n3_ := Aside0.mk (geB hg (upB HB.out) : w.heap.size ≤ gb279); clear HB; have HB := n0_; have BK279 := n1_; have GW279 := n2_; have GE279 := n3_; clear n0_ n1_ n2_ n3_; clear hb hbox hg) | ((with_reducible refine gate_dst (N := 3) rfl ?_); refine boxS 3 #[.string a0_0, .slice A1_1 l0_1.length c1_1] 90 ?_; intro gb280 hg w6 hbox hb; have n0_ := Aside0.mk (blk_below (g := gb279) (o := .cells #[.string a0_0, .slice A0_1 l0_1.length c0_1] 90 (0, 0)) (upO BK279.out) hb); have n1_ := Aside0.mk (below_step (upB HB.out) hb); have n2_ := Aside0.mk (hbox); have n3_ := Aside0.mk (geB hg (upB HB.out) : w.heap.size ≤ gb280); have n4_ := Aside0.mk (geB hg (upB HB.out) : w.heap.size ≤ gb280); have n5_ := Aside0.mk ((by rw [hg]; exact Nat.ne_of_lt (blk_lt (g := gb279) (o := .cells #[.string a0_0, .slice A0_1 l0_1.length c0_1] 90 (0, 0)) (upO BK279.out)) : gb279 ≠ gb280)); have n6_ := Aside0.mk ((by rw [hg]; exact Nat.ne_of_gt (blk_lt (g := gb279) (o := .cells #[.string a0_0, .slice A0_1 l0_1.length c0_1] 90 (0, 0)) (upO BK279.out)) : gb280 ≠ gb279)); clear BK279; clear HB; have BK279 := n0_; have HB := n1_; have BK280 := n2_; have GW280 := n3_; have GE280 := n4_; have NB279_280 := n5_; have NB280_279 := n6_; clear n0_ n1_ n2_ n3_ n4_ n5_ n6_; clear hb hbox hg; have hnb7 := NB279_280.out; have hnc7 := NB280_279.out; have hcz8_0 : w6.cell? ⟨gb279, 0, none⟩ = some (.string a0_0) := (blk_cell BK279.out 0).trans rfl; have hcz8_1 : w6.cell? ⟨gb279, 1, none⟩ = some (.slice A0_1 l0_1.length c0_1) := (blk_cell BK279.out 1).trans rfl; have hfz8_0 := blk_frozen BK279.out 0; have hfz8_1 := blk_frozen BK279.out 1; have hcz9_0 : w6.cell? ⟨gb280, 0, none⟩ = some (.string a0_0) := (blk_cell BK280.out 0).trans rfl; have hcz9_1 : w6.cell? ⟨gb280, 1, none⟩ = some (.slice A1_1 l0_1.length c1_1) := (blk_cell BK280.out 1).trans rfl; have hfz9_0 := blk_frozen BK280.out 0; have hfz9_1 := blk_frozen BK280.out 1) | (go_at_call 203; (with_reducible refine (leftValues_calls _ _ _ _ l0_1 _ ?side1 ?side2 ?side3 ?side4 HN.out).mono ?_); (case side1 => exact upC (Kd.C_below HR0_1.out HB.out)); (case side2 => exact HC0_1.out); (case side3 => exact upC (Kd.C_below HR1_1.out HB.out)); (case side4 => exact HC1_1.out); rintro e w10 ⟨rfl, hb⟩; have n0_ := Aside0.mk (blk_below (g := gb279) (o := .cells #[.string a0_0, .slice A0_1 l0_1.length c0_1] 90 (0, 0)) (upO BK279.out) hb); have n1_ := Aside0.mk (blk_below (g := gb280) (o := .cells #[.string a0_0, .slice A1_1 l0_1.length c1_1] 90 (0, 0)) (upO BK280.out) hb); have n2_ := Aside0.mk (below_step (upB HB.out) hb); clear BK279; clear BK280; clear HB; have BK279 := n0_; have BK280 := n1_; have HB := n2_; clear n0_ n1_ n2_; (try clear hb); (try clear hb2); (try clear hk); (try clear hi)))
  go_ret
  exact ⟨eqE, upB HB.out⟩
end Go.Proofs.J.Print
end
section
namespace Go.Proofs.J.Print
open Go.RowKit Go.Proofs.PrintWords Go.Proofs.PrintLast Go.Proofs.PrintMore
theorem rdM_lt (m : ByteArray) (l : List S90) (i : Int) (h0 : 0 ≤ i) (h1 : i < (l.length : Int)) : rdM (SMs m l) i = ⟨(rd_T90 l i).f0, (rd_T90 l i).f1, true⟩ := by
  have h : i.toNat < l.length := by omega
  unfold rdM rd_T90 SMs
  rw [List.getD_eq_getElem?_getD, List.getElem?_append_left (by rw [List.length_map]; exact h), List.getElem?_map, List.getD_eq_getElem?_getD, List.getElem?_eq_getElem h]
  rfl
theorem rdM_at (m : ByteArray) (l : List S90) : rdM (SMs m l) (l.length : Int) = ⟨m, [], false⟩ := by
  unfold rdM SMs
  rw [Int.toNat_natCast, List.getD_eq_getElem?_getD, List.getElem?_append_right (by rw [List.length_map]; exact Nat.le_refl _), List.length_map, Nat.sub_self]
  rfl
theorem at_M {w : World} {A : Option Addr} {n : Nat} {xs : List SM} (h : Kd.C kM w A n xs) (i : Int) (h0 : 0 ≤ i) (h1 : i < n) : ∃ ad A1 c1, A = some ad ∧ w.cell? (ad.add (i.toNat * 2)) = some (.string (rdM xs i).f0) ∧ w.cell? ⟨(ad.add (i.toNat * 2)).block, (ad.add (i.toNat * 2)).off + 1, none⟩ = some (.slice A1 (rdM xs i).f1.length c1) ∧ (rdM xs i).f1.length ≤ c1 ∧ k85.C w A1 (rdM xs i).f1.length (rdM xs i).f1 ∧ ((rdM xs i).fl = true → (rdM xs i).f1.length + 1 ≤ c1 ∧ k85.C w A1 ((rdM xs i).f1.length + 1) ((rdM xs i).f1 ++ [mkv])) := by
  obtain ⟨ad, c, e, _, hK, hc0⟩ := Kd.C_get h zM i h0 h1
  have hc : ∀ j u, c[j]? = some u → w.cell? (ad.add (i.toNat * 2 + j)) = some u := hc0
  obtain ⟨A1, c1, rfl, l1, g1, g2⟩ := kM_open hK
  exact ⟨ad, A1, c1, e, hc 0 _ rfl, by rw [← add_field _ _ 1 (by omega)]; exact hc 1 _ rfl, l1, g1, g2⟩
theorem at_TM {w : World} {A : Option Addr} {m : ByteArray} {l : List S90} (h : Kd.C kM w A (l.length + 1) (SMs m l)) (i : Int) (h0 : 0 ≤ i) (h1 : i < (l.length : Int)) : ∃ ad A1 c1, A = some ad ∧ w.cell? (ad.add (i.toNat * 2)) = some (.string (rd_T90 l i).f0) ∧ w.cell? ⟨(ad.add (i.toNat * 2)).block, (ad.add (i.toNat * 2)).off + 1, none⟩ = some (.slice A1 (rd_T90 l i).f1.length c1) ∧ (rd_T90 l i).f1.length + 1 ≤ c1 ∧ k85.C w A1 ((rd_T90 l i).f1.length + 1) ((rd_T90 l i).f1 ++ [mkv]) := by
  obtain ⟨ad, A1, c1, e, x0, x1, _, _, g⟩ := at_M h i h0 (by omega)
  rw [rdM_lt m l i h0 h1] at x0 x1 g
  exact ⟨ad, A1, c1, e, x0, x1, g rfl⟩
theorem at_TE {w : World} {A : Option Addr} {m : ByteArray} {l : List S90} (h : Kd.C kM w A (l.length + 1) (SMs m l)) : ∃ ad A1 c1, A = some ad ∧ w.cell? (ad.add (l.length * 2)) = some (.string m) ∧ w.cell? ⟨(ad.add (l.length * 2)).block, (ad.add (l.length * 2)).off + 1, none⟩ = some (.slice A1 ([] : List S85).length c1) ∧ k85.C w A1 ([] : List S85).length [] := by
  obtain ⟨ad, A1, c1, e, x0, x1, _, g, _⟩ := at_M h (l.length : Int) (by omega) (by omega)
  rw [rdM_at m l, Int.toNat_natCast] at x0 x1
  rw [rdM_at m l] at g
  exact ⟨ad, A1, c1, e, x0, x1, g⟩
def pedigreelaw01_LeftFacts.T6 : Bool × List (List Nat × List Nat) := (true, [([], []), ([], []), ([0, 1], [0, 1]), ([2], [2]), ([], []), ([], []), ([4, 5], [4, 5]), ([6], [6]), ([3, 7], [3, 7]), ([8], [8])])
def pedigreelaw01_LeftFacts.B6 : List Nat := [0, 0, 3, 7, 0, 0, 48, 112, 255, 511]
theorem pedigreelaw01_LeftFacts.tab6 : rtab .any (opsOf Tryz.f28 6) = pedigreelaw01_LeftFacts.T6 := by kernel_rfl
theorem pedigreelaw01_LeftFacts.bits6 : waitsOk pedigreelaw01_LeftFacts.T6.2 pedigreelaw01_LeftFacts.B6 = true := by kernel_rfl
set_option maxHeartbeats 8000000 in
set_option maxRecDepth 100000 in
theorem leftFacts_calls (A0 : Option Addr) (c0 : Nat) (A1 : Option Addr) (c1 : Nat) (l : List S90) (w : World) (h0 : Kd.C kM w A0 (l.length + 1) (SMs (mwd 777777) l)) (hc0 : l.length + 1 ≤ c0) (h1 : Kd.C k90 w A1 l.length l) (hc1 : l.length ≤ c1) (hw : WordOk 777777 w) (hs : ∀ i : Int, (rd_T90 l i).f1.length ≤ 1048576) (hl : l.length ≤ 1048576) :
    Calls Tryz.prog 28 #[.slice A0 l.length c0, .slice A1 l.length c1] w fun e w' => e = .returned (.bool true) ∧ Below w.heap.size w w' := by
  have hu90 := Tryz.underlying90
  have HR0 := Aside0.mk h0
  have HC0 := Aside0.mk hc0
  have HR1 := Aside0.mk h1
  have HC1 := Aside0.mk hc1
  have HW0_ := Aside0.mk hw
  have HS := Aside0.mk hs
  have HL := Aside0.mk hl
  clear h0 hc0 h1 hc1 hw hs hl
  have HB := Aside0.mk (Below.refl w.heap.size w)
  have c3b0 : ((l.length : Int) == (l.length : Int)) = true := beq_iff_eq.mpr rfl
  have c3b1 : ((l.length : Int) != (l.length : Int)) = false := bne_eq_false_iff_eq.mpr rfl
  have c3b2 : (l.length == l.length) = true := by simp
  go_enter Tryz.func28, Tryz.ntmps28
  go_wp2
  go_loopg [5] (l.length + 1) (fun kq v5 w' => ∃ (x5_1 : Int), v5 = .int .i64 x5_1 ∧ Aside0 (0 ≤ x5_1 ∧ x5_1 ≤ l.length ∧ x5_1 + kq = l.length + 1) ∧ Aside0 (kq ≤ l.length + 1) ∧ Aside0 (Below w.heap.size w w'))
  case atStart => exact ⟨0, rfl, ⟨by omega, by omega, by omega⟩, ⟨Nat.le_refl _⟩, HB⟩
  case round =>
    clear c3b0 c3b1 c3b2
    obtain ⟨x5_1, rfl, HA, HK1, HB⟩ := hrel
    cases gk with
    | zero => exact absurd HA.out (by omega)
    | succ k1 =>
      by_cases c4 : x5_1 < (l.length : Int)
      · have c4b0 := decide_eq_true c4
        have c5b0 : decide (0 ≤ x5_1) = true := decide_eq_true HA.out.1
        clear c4
        try go_wp2
        have n0_ := Aside0.mk (below_drew1 HB.out)
        clear HB
        have HB := n0_
        clear n0_
        have p284 : 0 ≤ (x5_1 : Int) := of_decide_eq_true byA
        have q284 : x5_1 < (l.length : Int) := of_decide_eq_true byA
        obtain ⟨ad284, A284_1, c284_1, e284, hx284_0, hx284_1, hl284_1, hi284_1⟩ := at_TM HR0.out x5_1 p284 q284
        have hw284_1 := hx284_1
        have hw284_0 := hx284_0
        cases e284
        replace hx284_0 := cellB HB.out hx284_0
        replace hx284_1 := cellB HB.out hx284_1
        have HR284_1 := Aside0.mk hi284_1
        have HC284_1 := Aside0.mk hl284_1
        clear hi284_1 hl284_1
        replace p284 := eq_true p284
        replace q284 := eq_true q284
        have p285 : 0 ≤ (x5_1 : Int) := of_decide_eq_true byA
        have q285 : x5_1 < (l.length : Int) := of_decide_eq_true byA
        obtain ⟨ad285, A285_1, c285_1, e285, hx285_0, hx285_1, hl285_1, hi285_1⟩ := at_T90 HR1.out x5_1 p285 q285
        have hw285_1 := hx285_1
        have hw285_0 := hx285_0
        cases e285
        replace hx285_0 := cellB HB.out hx285_0
        replace hx285_1 := cellB HB.out hx285_1
        have HR285_1 := Aside0.mk hi285_1
        have HC285_1 := Aside0.mk hl285_1
        clear hi285_1 hl285_1
        replace p285 := eq_true p285
        replace q285 := eq_true q285
        refine start_ (n := 10) (S := fun w' => w'.cell? (ad284.add ((x5_1).toNat * 2)) = some (.string ((rd_T90 l x5_1).f0)) ∧ w'.cell? ⟨(ad284.add ((x5_1).toNat * 2)).block, (ad284.add ((x5_1).toNat * 2)).off + 1, none⟩ = some (.slice A284_1 ((rd_T90 l x5_1).f1).length c284_1) ∧ w'.cell? (ad285.add ((x5_1).toNat * 2)) = some (.string ((rd_T90 l x5_1).f0)) ∧ w'.cell? ⟨(ad285.add ((x5_1).toNat * 2)).block, (ad285.add ((x5_1).toNat * 2)).off + 1, none⟩ = some (.slice A285_1 ((rd_T90 l x5_1).f1).length c285_1)) (ds := []) #[false,false,false,false,false,false,false,false,false,false] (by kernel_rfl) rfl rfl ⟨(cellB HB.out hw284_0), (cellB HB.out hw284_1), (cellB HB.out hw285_0), (cellB HB.out hw285_1)⟩ (fun hHeld => ?_); refine with_tabW pedigreelaw01_LeftFacts.tab6 pedigreelaw01_LeftFacts.bits6 (fun HT_ HW_ => ?_)
        generalize wr.drew = w9 at HB HR284_1 HR285_1 hx284_0 hx284_1 hx285_0 hx285_1 hHeld ⊢
        refine pureS 0 (some 17) HT_ ?_
        refine pureS 1 (some 18) HT_ ?_
        refine pureS 2 (some 19) HT_ ?_
        refine pureS 4 (some 21) HT_ ?_
        refine pureS 5 (some 22) HT_ ?_
        refine pureS 6 (some 23) HT_ ?_
        refine takeS 3 (some 20) HT_ HW_ hHeld ?_
        refine takeS 7 (some 24) HT_ HW_ hHeld ?_
        refine one_ (i := 8) (N := some 25) #[true, true, true, true, true, true, true, true, true, false] rfl rfl (one_of HT_.out (by kernel_rfl)) (by decide) (fun K hK => ?_)
        refine goes_ Tryz.func88 (by kernel_rfl) rfl #[.agg #[.string ((rd_T90 l x5_1).f0), .slice A284_1 ((rd_T90 l x5_1).f1).length c284_1], .agg #[.string ((rd_T90 l x5_1).f0), .slice A285_1 ((rd_T90 l x5_1).f1).length c285_1]] (by rfl) rfl rfl (by (try simp only [List.map_toArray, List.map_cons, List.map_nil]); first | done | rfl | (simp only [List.length_drop, List.length_take]; rfl)) ?_
        with_reducible refine (leftFact_calls ((rd_T90 l x5_1).f0) _ _ _ _ ((rd_T90 l x5_1).f1) _ ?side1 ?side2 ?side3 ?side4 (HS.out x5_1)).mono ?_
        (case side1 => exact upC (Kd.C_below HR284_1.out HB.out))
        (case side2 => exact HC284_1.out)
        (case side3 => exact upC (Kd.C_below HR285_1.out HB.out))
        (case side4 => exact HC285_1.out)
        rintro e w10 ⟨rfl, hb⟩
        refine ⟨_, rfl, ?_⟩
        have n0_ := Aside0.mk (below_step (upB HB.out) hb)
        clear HB
        have HB := n0_
        clear n0_
        (try clear hb)
        (try clear hb2)
        (try clear hk)
        (try clear hi)
        refine hK.out _ _ ⟨(cellB HB.out hw284_0), (cellB HB.out hw284_1), (cellB HB.out hw285_0), (cellB HB.out hw285_1)⟩ (fun hHeld => ?_)
        clear hK K
        refine normS (some 25) ?_
        refine pureS 9 (some 26) HT_ ?_
        refine done_ (done_of HT_.out (by kernel_rfl)) ?_
        try go_wp2
        go_roundg k1
        case measure => have := HK1.out; omega
        case rel => exact ⟨(wrap64 (x5_1 + 1)), rfl, ⟨by have := HA.out; have := HL.out; unfold wrap64; omega, by have := HA.out; have := HL.out; have := of_decide_eq_true c4b0; unfold wrap64; omega, by have := HA.out; have := HL.out; unfold wrap64; omega⟩, ⟨by have := HK1.out; omega⟩, ⟨upB HB.out⟩⟩
      · have c4b0 := decide_eq_false c4
        clear c4
        obtain ⟨ji13, hji13⟩ : ∃ j_ : Int, ((l.length : Int) + 1) = j_ := ⟨_, rfl⟩
        have hji13w : (IntKind.i64.wrap ((l.length : Int) + 1)) = ji13 := (i64_w _).trans ((show wrap64 ((l.length : Int) + 1) = (l.length : Int) + 1 by have := HL.out; unfold wrap64; omega).trans hji13)
        have c14b0 := eq_true (show 0 ≤ ji13 by omega)
        have c14b1 : decide (0 ≤ ji13) = true := decide_eq_true (by omega)
        obtain ⟨y287, hy287⟩ : ∃ y_ : List SM, y_ = SMs (mwd 777777) l := ⟨_, rfl⟩
        have hyl : y287.length = l.length + 1 := by rw [hy287, SMs_length]
        obtain ⟨i019, hi019, _, hsz19, _⟩ := info_parts info90
        have hcut19 := cut_room (P := Tryz.prog) 22 90 .i64 Tryz.underlying22 hi019 A0 l.length c0 ji13 (by omega) (by have := HC0.out; omega)
        rw [show ji13.toNat = y287.length by omega] at hcut19
        have c16b0 : decide (0 ≤ (l.length : Int)) = true := decide_eq_true (by omega)
        have c16b1 : decide (0 ≤ l.length) = true := decide_eq_true (by omega)
        have c17b0 : decide ((l.length : Int) < (y287.length : Int)) = true := decide_eq_true (by omega)
        have c17b1 : decide (l.length < y287.length) = true := decide_eq_true (by omega)
        have p291 := eq_true (show (0 : Int) ≤ (l.length : Int) by omega)
        have q291 := eq_true (show (l.length : Int) < (y287.length : Int) by omega)
        obtain ⟨ad291, A291_1, c291_1, e291, hx291_0, hx291_1, hi291_1⟩ := at_TE HR0.out
        cases e291
        replace hx291_0 := cellB HB.out hx291_0
        replace hx291_1 := cellB HB.out hx291_1
        have HR291_1 := Aside0.mk hi291_1
        have HC291_1 : Aside0 (([] : List S85).length ≤ c291_1) := ⟨Nat.zero_le _⟩
        have A18 : Aside0 (pedigreelaw01_isFact.f (mwd 777777) ([] : List S85) 777777 = some true) := ⟨by unfold pedigreelaw01_isFact.f pedigreelaw01_word.f; rw [Option.bind_some, if_pos rfl]; rfl⟩
        clear hi291_1 hy287 hyl hi019 hsz19 hji13 HA
        go_wp2_with (first | ((with_reducible refine gate_callee (f := 89) rfl ?_); refine goesS (some 36) Tryz.func89 #[.agg #[.string (mwd 777777), .slice A291_1 ([] : List S85).length c291_1], .int .i64 777777] ?_; (with_reducible refine (pedigreelaw01_isFact.calls (mwd 777777) _ _ ([] : List S85) 777777 true _ ?side1 ?side2 (HW0_.out.below (upB HB.out)) A18.out).mono ?_); (case side1 => exact upC (Kd.C_below HR291_1.out HB.out)); (case side2 => exact HC291_1.out); rintro e w20 ⟨rfl, hb⟩; refine ⟨_, rfl, ?_⟩; have n0_ := Aside0.mk (below_step (upB HB.out) hb); clear HB; have HB := n0_; clear n0_; (try clear hb); (try clear hb2); (try clear hk); (try clear hi)))
        go_ret
        exact ⟨rfl, upB HB.out⟩
end Go.Proofs.J.Print
end
section
namespace Go.Proofs.J.Print
open Go.RowKit Go.Proofs.PrintWords Go.Proofs.PrintLast Go.Proofs.PrintMore
set_option maxHeartbeats 8000000 in
set_option maxRecDepth 100000 in
theorem leftCommit_calls (a0_0 : Int) (A0_1 : Option Addr) (c0_1 : Nat) (A0_2 : Option Addr) (c0_2 : Nat) (A1_1 : Option Addr) (c1_1 : Nat) (A1_2 : Option Addr) (c1_2 : Nat) (l0_1 l0_2 : List S90) (w : World)
    (h1 : Kd.C kM w A0_1 (l0_1.length + 1) (SMs (mwd 777777) l0_1)) (hc1 : l0_1.length + 1 ≤ c0_1) (h2 : Kd.C kM w A0_2 (l0_2.length + 1) (SMs (mwd 777777) l0_2)) (hc2 : l0_2.length + 1 ≤ c0_2)
    (k1 : Kd.C k90 w A1_1 l0_1.length l0_1) (kc1 : l0_1.length ≤ c1_1) (k2 : Kd.C k90 w A1_2 l0_2.length l0_2) (kc2 : l0_2.length ≤ c1_2) (hw : WordOk 777777 w)
    (hs1 : ∀ i : Int, (rd_T90 l0_1 i).f1.length ≤ 1048576) (hs2 : ∀ i : Int, (rd_T90 l0_2 i).f1.length ≤ 1048576) (hl1 : l0_1.length ≤ 1048576) (hl2 : l0_2.length ≤ 1048576) :
    Calls Tryz.prog 10 #[.agg #[.int .i64 a0_0, .slice A0_1 l0_1.length c0_1, .slice A0_2 l0_2.length c0_2], .agg #[.int .i64 a0_0, .slice A1_1 l0_1.length c1_1, .slice A1_2 l0_2.length c1_2]] w fun e w' => e = .returned (.bool true) ∧ Below w.heap.size w w' := by
  have hu24 := Tryz.underlying24
  have HR0_1 := Aside0.mk h1
  have HC0_1 := Aside0.mk hc1
  have HR0_2 := Aside0.mk h2
  have HC0_2 := Aside0.mk hc2
  have HR1_1 := Aside0.mk k1
  have HC1_1 := Aside0.mk kc1
  have HR1_2 := Aside0.mk k2
  have HC1_2 := Aside0.mk kc2
  have HW0_ := Aside0.mk hw
  have HS1 := Aside0.mk hs1
  have HS2 := Aside0.mk hs2
  have HL1 := Aside0.mk hl1
  have HL2 := Aside0.mk hl2
  have HB := Aside0.mk (Below.refl w.heap.size w)
  have c3b0 : (a0_0 == a0_0) = true := beq_iff_eq.mpr rfl
  have c3b1 : (a0_0 != a0_0) = false := bne_eq_false_iff_eq.mpr rfl
  clear h1 hc1 h2 hc2 k1 kc1 k2 kc2 hw hs1 hs2 hl1 hl2
  go_enter Tryz.func10, Tryz.ntmps10
  go_wp2_with (first | ((with_reducible refine gate_dst (N := 2) rfl ?_); refine boxS 2 #[.int .i64 a0_0, .slice A0_1 l0_1.length c0_1, .slice A0_2 l0_2.length c0_2] 24 ?_; intro gb293 hg w7 hbox hb; have n0_ := Aside0.mk (below_step (upB HB.out) hb); have n1_ := Aside0.mk (hbox); have n2_ := Aside0.mk (geB hg (upB HB.out) : w.heap.size ≤ gb293); have n3_ := Aside0.mk (geB hg (upB HB.out) : w.heap.size ≤ gb293); clear HB; have HB := n0_; have BK293 := n1_; have GW293 := n2_; have GE293 := n3_; clear n0_ n1_ n2_ n3_; clear hb hbox hg) | ((with_reducible refine gate_dst (N := 3) rfl ?_); refine boxS 3 #[.int .i64 a0_0, .slice A1_1 l0_1.length c1_1, .slice A1_2 l0_2.length c1_2] 24 ?_; intro gb294 hg w8 hbox hb; have n0_ := Aside0.mk (blk_below (g := gb293) (o := .cells #[.int .i64 a0_0, .slice A0_1 l0_1.length c0_1, .slice A0_2 l0_2.length c0_2] 24 (0, 0)) (upO BK293.out) hb); have n1_ := Aside0.mk (below_step (upB HB.out) hb); have n2_ := Aside0.mk (hbox); have n3_ := Aside0.mk (geB hg (upB HB.out) : w.heap.size ≤ gb294); have n4_ := Aside0.mk (geB hg (upB HB.out) : w.heap.size ≤ gb294); have n5_ := Aside0.mk ((by rw [hg]; exact Nat.ne_of_lt (blk_lt (g := gb293) (o := .cells #[.int .i64 a0_0, .slice A0_1 l0_1.length c0_1, .slice A0_2 l0_2.length c0_2] 24 (0, 0)) (upO BK293.out)) : gb293 ≠ gb294)); have n6_ := Aside0.mk ((by rw [hg]; exact Nat.ne_of_gt (blk_lt (g := gb293) (o := .cells #[.int .i64 a0_0, .slice A0_1 l0_1.length c0_1, .slice A0_2 l0_2.length c0_2] 24 (0, 0)) (upO BK293.out)) : gb294 ≠ gb293)); clear BK293; clear HB; have BK293 := n0_; have HB := n1_; have BK294 := n2_; have GW294 := n3_; have GE294 := n4_; have NB293_294 := n5_; have NB294_293 := n6_; clear n0_ n1_ n2_ n3_ n4_ n5_ n6_; clear hb hbox hg; have hnb9 := NB293_294.out; have hnc9 := NB294_293.out; have hcz10_0 : w8.cell? ⟨gb293, 0, none⟩ = some (.int .i64 a0_0) := (blk_cell BK293.out 0).trans rfl; have hcz10_1 : w8.cell? ⟨gb293, 1, none⟩ = some (.slice A0_1 l0_1.length c0_1) := (blk_cell BK293.out 1).trans rfl; have hcz10_2 : w8.cell? ⟨gb293, 2, none⟩ = some (.slice A0_2 l0_2.length c0_2) := (blk_cell BK293.out 2).trans rfl; have hfz10_0 := blk_frozen BK293.out 0; have hfz10_1 := blk_frozen BK293.out 1; have hfz10_2 := blk_frozen BK293.out 2; have hcz11_0 : w8.cell? ⟨gb294, 0, none⟩ = some (.int .i64 a0_0) := (blk_cell BK294.out 0).trans rfl; have hcz11_1 : w8.cell? ⟨gb294, 1, none⟩ = some (.slice A1_1 l0_1.length c1_1) := (blk_cell BK294.out 1).trans rfl; have hcz11_2 : w8.cell? ⟨gb294, 2, none⟩ = some (.slice A1_2 l0_2.length c1_2) := (blk_cell BK294.out 2).trans rfl; have hfz11_0 := blk_frozen BK294.out 0; have hfz11_1 := blk_frozen BK294.out 1; have hfz11_2 := blk_frozen BK294.out 2) | (go_at_call 28; (with_reducible refine (leftFacts_calls _ _ _ _ l0_1 _ ?side1 ?side2 ?side3 ?side4 (HW0_.out.below (upB HB.out)) HS1.out HL1.out).mono ?_); (case side1 => exact upC (Kd.C_below HR0_1.out HB.out)); (case side2 => exact HC0_1.out); (case side3 => exact upC (Kd.C_below HR1_1.out HB.out)); (case side4 => exact HC1_1.out); rintro e w12 ⟨rfl, hb⟩; have n0_ := Aside0.mk (blk_below (g := gb293) (o := .cells #[.int .i64 a0_0, .slice A0_1 l0_1.length c0_1, .slice A0_2 l0_2.length c0_2] 24 (0, 0)) (upO BK293.out) hb); have n1_ := Aside0.mk (blk_below (g := gb294) (o := .cells #[.int .i64 a0_0, .slice A1_1 l0_1.length c1_1, .slice A1_2 l0_2.length c1_2] 24 (0, 0)) (upO BK294.out) hb); have n2_ := Aside0.mk (below_step (upB HB.out) hb); clear BK293; clear BK294; clear HB; have BK293 := n0_; have BK294 := n1_; have HB := n2_; clear n0_ n1_ n2_; (try clear hb); (try clear hb2); (try clear hk); (try clear hi); have hcz13_0 : w12.cell? ⟨gb293, 0, none⟩ = some (.int .i64 a0_0) := (blk_cell BK293.out 0).trans rfl; have hcz13_1 : w12.cell? ⟨gb293, 1, none⟩ = some (.slice A0_1 l0_1.length c0_1) := (blk_cell BK293.out 1).trans rfl; have hcz13_2 : w12.cell? ⟨gb293, 2, none⟩ = some (.slice A0_2 l0_2.length c0_2) := (blk_cell BK293.out 2).trans rfl; have hfz13_0 := blk_frozen BK293.out 0; have hfz13_1 := blk_frozen BK293.out 1; have hfz13_2 := blk_frozen BK293.out 2; have hcz14_0 : w12.cell? ⟨gb294, 0, none⟩ = some (.int .i64 a0_0) := (blk_cell BK294.out 0).trans rfl; have hcz14_1 : w12.cell? ⟨gb294, 1, none⟩ = some (.slice A1_1 l0_1.length c1_1) := (blk_cell BK294.out 1).trans rfl; have hcz14_2 : w12.cell? ⟨gb294, 2, none⟩ = some (.slice A1_2 l0_2.length c1_2) := (blk_cell BK294.out 2).trans rfl; have hfz14_0 := blk_frozen BK294.out 0; have hfz14_1 := blk_frozen BK294.out 1; have hfz14_2 := blk_frozen BK294.out 2) | (go_at_call 28; (with_reducible refine (leftFacts_calls _ _ _ _ l0_2 _ ?side1 ?side2 ?side3 ?side4 (HW0_.out.below (upB HB.out)) HS2.out HL2.out).mono ?_); (case side1 => exact upC (Kd.C_below HR0_2.out HB.out)); (case side2 => exact HC0_2.out); (case side3 => exact upC (Kd.C_below HR1_2.out HB.out)); (case side4 => exact HC1_2.out); rintro e w15 ⟨rfl, hb⟩; have n0_ := Aside0.mk (blk_below (g := gb293) (o := .cells #[.int .i64 a0_0, .slice A0_1 l0_1.length c0_1, .slice A0_2 l0_2.length c0_2] 24 (0, 0)) (upO BK293.out) hb); have n1_ := Aside0.mk (blk_below (g := gb294) (o := .cells #[.int .i64 a0_0, .slice A1_1 l0_1.length c1_1, .slice A1_2 l0_2.length c1_2] 24 (0, 0)) (upO BK294.out) hb); have n2_ := Aside0.mk (below_step (upB HB.out) hb); clear BK293; clear BK294; clear HB; have BK293 := n0_; have BK294 := n1_; have HB := n2_; clear n0_ n1_ n2_; (try clear hb); (try clear hb2); (try clear hk); (try clear hi)))
  go_ret
  exact ⟨eqE, upB HB.out⟩
end Go.Proofs.J.Print
end
section
namespace Go.Proofs.J.Print
open Go.RowKit Go.Proofs.PrintWords Go.Proofs.PrintLast Go.Proofs.PrintMore
theorem twinFacts_loop (l : List S90) (hl : l.length ≤ 1048576) (hs : ∀ i : Int, (rd_T90 l i).f1.length ≤ 1048576) : ∀ (m i : Nat), i + m = l.length → ∀ k, m + 1048577 < k → pedigreelaw01_TwinFacts.l0 k l ((l.take i).map (fun x => (⟨x.f0, x.f1, true⟩ : SM)) ++ List.replicate (m + 1) zM) (i : Int) = some (SMs (mwd 777777) l) := by
  intro m
  induction m with
  | zero =>
    intro i hi k hk
    obtain ⟨k, rfl⟩ : ∃ j, k = j + 1 := ⟨k - 1, by omega⟩
    obtain rfl : i = l.length := by omega
    simp only [pedigreelaw01_TwinFacts.l0]
    rw [if_neg (by omega)]
    show (some ((mwd 777777, []) : ByteArray × List S85)).bind _ = _
    rw [Option.bind_some, if_pos (by omega), if_pos (by simp; omega), if_pos (by simp; omega), Int.toNat_natCast, List.take_length]
    show some ((l.map _ ++ [zM]).set l.length _) = _
    rw [set_at (l.map _) _ zM [] _ (by simp)]
    rfl
  | succ m ih =>
    intro i hi k hk
    obtain ⟨k, rfl⟩ : ∃ j, k = j + 1 := ⟨k - 1, by omega⟩
    have hlt : i < l.length := by omega
    have ht : ((l.take i).map (fun x => (⟨x.f0, x.f1, true⟩ : SM))).length = i := by rw [List.length_map, List.length_take]; omega
    simp only [pedigreelaw01_TwinFacts.l0]
    rw [if_pos (by omega), if_pos (by omega), twinFact_f _ _ (hs i) k (by have := hs i; omega), Option.bind_some, if_pos (by rw [List.length_append, ht, List.length_replicate]; omega), Int.toNat_natCast, List.replicate_succ, set_at _ _ zM _ i ht]
    have e : (l.take i).map (fun x => (⟨x.f0, x.f1, true⟩ : SM)) ++ (⟨(rd_T90 l i).f0, (rd_T90 l i).f1, true⟩ : SM) :: List.replicate (m + 1) zM = (l.take (i + 1)).map (fun x => (⟨x.f0, x.f1, true⟩ : SM)) ++ List.replicate (m + 1) zM := by
      rw [take_at l z90 i hlt, List.map_append, List.append_assoc]
      rfl
    rw [e, show wrap64 ((i : Int) + 1) = ((i + 1 : Nat) : Int) by unfold wrap64; omega]
    exact ih (i + 1) (by omega) k (by omega)
theorem twinFacts_f (l : List S90) (hl : l.length ≤ 1048576) (hs : ∀ i : Int, (rd_T90 l i).f1.length ≤ 1048576) (k : Nat) (hk : l.length + 1048577 < k) : pedigreelaw01_TwinFacts.f k l = some (SMs (mwd 777777) l) := by
  unfold pedigreelaw01_TwinFacts.f
  rw [show wrap64 ((l.length : Int) + 1) = ((l.length + 1 : Nat) : Int) by unfold wrap64; omega, if_pos (by omega), Int.toNat_natCast, if_pos (by omega)]
  exact twinFacts_loop l hl hs l.length 0 (by omega) k hk
theorem twinCommit_calls (a0_0 : Int) (A0_1 : Option Addr) (c0_1 : Nat) (l0_1 : List S90) (A0_2 : Option Addr) (c0_2 : Nat) (l0_2 : List S90) (w : World) (hr0_1 : Kd.C k90 w A0_1 l0_1.length l0_1) (hc0_1 : l0_1.length ≤ c0_1) (hr0_2 : Kd.C k90 w A0_2 l0_2.length l0_2) (hc0_2 : l0_2.length ≤ c0_2) (hw : WordOk 777777 w)
    (hs1 : ∀ i : Int, (rd_T90 l0_1 i).f1.length ≤ 1048576) (hs2 : ∀ i : Int, (rd_T90 l0_2 i).f1.length ≤ 1048576) (hl1 : l0_1.length ≤ 1048576) (hl2 : l0_2.length ≤ 1048576) :
    Calls Tryz.prog 8 #[.agg #[.int .i64 a0_0, .slice A0_1 l0_1.length c0_1, .slice A0_2 l0_2.length c0_2]] w fun e w' => ∃ (A1 : Option Addr) (c1 : Nat) (A2 : Option Addr) (c2 : Nat), e = .returned (.agg #[.int .i64 a0_0, .slice A1 l0_1.length c1, .slice A2 l0_2.length c2]) ∧ Kd.S kM 90 w' w.heap.size (fun _ => True) (.slice A1 (SMs (mwd 777777) l0_1).length c1) (SMs (mwd 777777) l0_1) ∧ Kd.S kM 90 w' w.heap.size (fun _ => True) (.slice A2 (SMs (mwd 777777) l0_2).length c2) (SMs (mwd 777777) l0_2) ∧ Below w.heap.size w w' := by
  refine pedigreelaw01_TwinCommit.calls (l0_1.length + l0_2.length + 1048578) a0_0 A0_1 c0_1 l0_1 A0_2 c0_2 l0_2 a0_0 (SMs (mwd 777777) l0_1) (SMs (mwd 777777) l0_2) w hr0_1 hc0_1 hr0_2 hc0_2 hw hs1 hs2 ?_
  unfold pedigreelaw01_TwinCommit.f
  rw [twinFacts_f l0_1 hl1 hs1 _ (by omega), Option.bind_some, twinFacts_f l0_2 hl2 hs2 _ (by omega), Option.bind_some]
end Go.Proofs.J.Print
end
section
namespace Go.Proofs.J.Print
open Go.RowKit Go.Proofs.PrintWords Go.Proofs.PrintLast Go.Proofs.PrintMore
theorem body_empty (k : Nat) : body.f k (⟨#[]⟩ : ByteArray) = some none := by
  unfold body.f
  rw [show tk (⟨#[]⟩ : ByteArray) 4 = none from rfl]
  rfl
set_option maxHeartbeats 8000000 in
set_option maxRecDepth 100000 in
theorem first_empty (g : Nat) (w0 w : World) (hI : IsS103 w0 w g ⟨#[]⟩) (hB : Below w0.heap.size w0 w) :
    Calls Tryz.prog 91 #[.pointer (some ⟨g, 0, none⟩)] w fun e w' => e = .panicked logChain ∧ Below w0.heap.size w0 w' ∧ KeepBut w w' g none := by
  have hI := Aside0.mk hI
  have hB := Aside0.mk hB
  go_enter Tryz.func91, Tryz.ntmps91
  go_wp2_with (first | ((with_reducible refine gate_callee (f := 96) rfl ?_); refine goesP (some 13) Tryz.func96 #[.pointer (some ⟨g, 0, none⟩)] ?_; (with_reducible refine (body.calls 0 g ⟨#[]⟩ none w0 _ ?side1 ?side2 (body_empty 0)).mono ?_); (case side1 => exact hI.out); (case side2 => exact hB.out); rintro e wC hE; unfold Ends at hE; dsimp only at hE; obtain ⟨⟨rfl, hi⟩, hb, hk⟩ := hE; refine ⟨_, rfl, ?_⟩))
  exact ⟨rfl, rfl, hb, hk⟩
set_option maxHeartbeats 8000000 in
set_option maxRecDepth 100000 in
theorem open_closure (g1 g2 g3 : Nat) (c0 d0 d1 : Value) (older : List PanicEntry) (w : World)
    (h1 : w.heap[g1]? = some (.cells #[c0] 91 (0, 0))) (h2 : w.heap[g2]? = some (.cells #[d0] 3 (0, 0))) (h3 : w.heap[g3]? = some (.cells #[d1] 26 (0, 0))) (h12 : g1 ≠ g2) (h13 : g1 ≠ g3) (h23 : g2 ≠ g3) :
    CallsD Tryz.prog 90 #[.pointer (some ⟨g1, 0, none⟩), .pointer (some ⟨g2, 0, none⟩), .pointer (some ⟨g3, 0, none⟩)] (.panicking ({ v := .iface 128 (.agg #[.int .i64 290]), recovered := false } :: older)) w fun e u' w' =>
      e = .returned (.tuple #[]) ∧ u' = .panicking ({ v := .iface 128 (.agg #[.int .i64 290]), recovered := true } :: older) ∧ ∃ w1, Below w.heap.size w w1 ∧ w' = ((w1.setCell ⟨g1, 0, none⟩ (.pointer none)).setCell ⟨g2, 0, none⟩ (.int .i64 0)).setCell ⟨g3, 0, none⟩ (.int .i64 290) := by
  refine callsD_of_wpS Tryz.func90 rfl fun c₀ cs hu => ?_
  apply wpS_seq
  apply wpS_region
  simp [wpOpsS, go_sem, recoverD, hu, Tryz.ntmps90, Exit.thenS]
  refine (settled_log w).mono ?_
  rintro e w1 ⟨rfl, hb⟩
  have b1 := blk_below h1 hb
  have b2 := blk_below h2 hb
  have b3 := blk_below h3 hb
  have e10 : w1.cell? ⟨g1, 0, none⟩ = some c0 := (blk_cell b1 0).trans rfl
  have e20 : w1.cell? ⟨g2, 0, none⟩ = some d0 := (blk_cell b2 0).trans rfl
  have e30 : w1.cell? ⟨g3, 0, none⟩ = some d1 := (blk_cell b3 0).trans rfl
  have f10 := blk_frozen b1 0
  have f20 := blk_frozen b2 0
  have f30 := blk_frozen b3 0
  apply wpS_seq
  apply wpS_region
  simp [wpOpsS, go_sem, Exit.thenS]
  refine wpS_cond (t := true) (by simp [Act.eval, Array.replicate]) ?_
  simp only [if_true]
  apply wpS_region
  simp [wpOpsS, go_sem, e10, e20, e30, f10, f20, f30, bodyPostS, results, Tryz.results90, h13, h23, h12.symm, h13.symm, h23.symm]
  exact ⟨w1, hb, rfl⟩
set_option maxHeartbeats 8000000 in
set_option maxRecDepth 100000 in
theorem open_empty (w : World) :
    Calls Tryz.prog 31 #[.string (⟨#[]⟩ : ByteArray)] w fun e w' => e = .returned (.tuple #[.pointer none, .int .i64 0, .int .i64 290]) ∧ Below w.heap.size w w' := by
  have hu103 := Tryz.underlying103
  have HB1 := Aside0.mk (Below.refl w.heap.size w)
  have hmf : ∀ (fn : Fn) (first cap : Array Value) (w : World), (Instr.makeFunc fn first cap).run Tryz.prog w = .ok (.func fn first cap) w := fun _ _ _ _ => rfl
  go_enter_defers Tryz.func31, Tryz.ntmps31
  go_wp2_with (first | ((with_reducible refine gate_dst (N := 2) rfl ?_); refine boxS 2 #[.pointer none] 91 ?_; intro g2 hg W2 hbox hb; have HB2 := Aside0.mk (below_step HB1.out hb); have L2 := Aside0.mk (by rw [hg]; exact HB1.out.size : w.heap.size ≤ g2); have B2 := Aside0.mk hbox; clear hb hbox hg) | ((with_reducible refine gate_dst (N := 3) rfl ?_); refine boxS 3 #[.int .i64 0] 3 ?_; intro g3 hg W3 hbox hb; have HB3 := Aside0.mk (below_step HB2.out hb); have L3 := Aside0.mk (by rw [hg]; exact HB2.out.size : w.heap.size ≤ g3); have NE2_3 := Aside0.mk (by rw [hg]; exact Nat.ne_of_lt (blk_lt B2.out) : g2 ≠ g3); have n_ := Aside0.mk (blk_below B2.out hb); clear B2; have B2 := n_; clear n_; have B3 := Aside0.mk hbox; clear hb hbox hg) | ((with_reducible refine gate_dst (N := 4) rfl ?_); refine boxS 4 #[.int .i64 0] 26 ?_; intro g4 hg W4 hbox hb; have HB4 := Aside0.mk (below_step HB3.out hb); have L4 := Aside0.mk (by rw [hg]; exact HB3.out.size : w.heap.size ≤ g4); have NE2_4 := Aside0.mk (by rw [hg]; exact Nat.ne_of_lt (blk_lt B2.out) : g2 ≠ g4); have NE3_4 := Aside0.mk (by rw [hg]; exact Nat.ne_of_lt (blk_lt B3.out) : g3 ≠ g4); have n_ := Aside0.mk (blk_below B2.out hb); clear B2; have B2 := n_; clear n_; have n_ := Aside0.mk (blk_below B3.out hb); clear B3; have B3 := n_; clear n_; have B4 := Aside0.mk hbox; clear hb hbox hg) | ((with_reducible refine gate_dst (N := 5) rfl ?_); refine boxS 5 #[.string (⟨#[]⟩ : ByteArray)] 103 ?_; intro g5 hg W5 hbox hb; have HB5 := Aside0.mk (below_step HB4.out hb); have L5 := Aside0.mk (by rw [hg]; exact HB4.out.size : w.heap.size ≤ g5); have NE2_5 := Aside0.mk (by rw [hg]; exact Nat.ne_of_lt (blk_lt B2.out) : g2 ≠ g5); have NE3_5 := Aside0.mk (by rw [hg]; exact Nat.ne_of_lt (blk_lt B3.out) : g3 ≠ g5); have NE4_5 := Aside0.mk (by rw [hg]; exact Nat.ne_of_lt (blk_lt B4.out) : g4 ≠ g5); have n_ := Aside0.mk (blk_below B2.out hb); clear B2; have B2 := n_; clear n_; have n_ := Aside0.mk (blk_below B3.out hb); clear B3; have B3 := n_; clear n_; have n_ := Aside0.mk (blk_below B4.out hb); clear B4; have B4 := n_; clear n_; have B5 := Aside0.mk hbox; clear hb hbox hg; have hc5 : W5.cell? ⟨g5, 0, none⟩ = some (.string (⟨#[]⟩ : ByteArray)) := (blk_cell B5.out 0).trans rfl; have hf5 := blk_frozen B5.out 0) | ((with_reducible refine gate_callee (f := 91) rfl ?_); refine goesP (some 15) Tryz.func91 #[.pointer (some ⟨g5, 0, none⟩)] ?_; (with_reducible refine (first_empty g5 w _ ?side1 ?side2).mono ?_); (case side1 => exact (show IsS103 w (W5.setCell ⟨g5, 0, none⟩ (.string (⟨#[]⟩ : ByteArray))) g5 ⟨#[]⟩ from ⟨by simpa using blk_set B5.out 0 (.string (⟨#[]⟩ : ByteArray)), L5.out⟩)); (case side2 => exact below_set HB5.out L5.out); rintro e wC ⟨rfl, hb, hk⟩; refine ⟨_, rfl, ?_⟩; have n_ := Aside0.mk (KeepBut.blk hk (g' := g2) (o := .cells #[.pointer none] 91 (0, 0)) (blk_far B2.out NE2_5.out _) NE2_5.out (by simp)); clear B2; have B2 := n_; clear n_; have n_ := Aside0.mk (KeepBut.blk hk (g' := g3) (o := .cells #[.int .i64 0] 3 (0, 0)) (blk_far B3.out NE3_5.out _) NE3_5.out (by simp)); clear B3; have B3 := n_; clear n_; have n_ := Aside0.mk (KeepBut.blk hk (g' := g4) (o := .cells #[.int .i64 0] 26 (0, 0)) (blk_far B4.out NE4_5.out _) NE4_5.out (by simp)); clear B4; have B4 := n_; clear n_; have HBC := Aside0.mk hb; clear hb hk))
  unfold logChain
  refine leaves_cons (f := 90) (args := #[.pointer (some ⟨g2, 0, none⟩), .pointer (some ⟨g3, 0, none⟩), .pointer (some ⟨g4, 0, none⟩)]) (by simp) (by simp [go_sem]) ?_
  refine (open_closure g2 g3 g4 _ _ _ [] _ B2.out B3.out B4.out NE2_3.out NE2_4.out NE3_4.out).mono ?_
  rintro e u' w'' ⟨rfl, rfl, w1, hb, rfl⟩
  have b2 := blk_below B2.out hb
  have b3 := blk_below B3.out hb
  have b4 := blk_below B4.out hb
  have c2 : (((w1.setCell ⟨g2, 0, none⟩ (.pointer none)).setCell ⟨g3, 0, none⟩ (.int .i64 0)).setCell ⟨g4, 0, none⟩ (.int .i64 290)).heap[g2]? = some (.cells #[.pointer none] 91 (0, 0)) := blk_far (blk_far (blk_put b2 0 _ rfl) NE2_3.out _) NE2_4.out _
  have c3 : (((w1.setCell ⟨g2, 0, none⟩ (.pointer none)).setCell ⟨g3, 0, none⟩ (.int .i64 0)).setCell ⟨g4, 0, none⟩ (.int .i64 290)).heap[g3]? = some (.cells #[.int .i64 0] 3 (0, 0)) := blk_far (blk_put (blk_far b3 (Ne.symm NE2_3.out) _) 0 _ rfl) NE3_4.out _
  have c4 : (((w1.setCell ⟨g2, 0, none⟩ (.pointer none)).setCell ⟨g3, 0, none⟩ (.int .i64 0)).setCell ⟨g4, 0, none⟩ (.int .i64 290)).heap[g4]? = some (.cells #[.int .i64 290] 26 (0, 0)) := blk_put (blk_far (blk_far b4 (Ne.symm NE2_4.out) _) (Ne.symm NE3_4.out) _) 0 _ rfl
  have hfin : Below w.heap.size w (((w1.setCell ⟨g2, 0, none⟩ (.pointer none)).setCell ⟨g3, 0, none⟩ (.int .i64 0)).setCell ⟨g4, 0, none⟩ (.int .i64 290)) := below_set (below_set (below_set (below_step HBC.out hb) L2.out) L3.out) L4.out
  generalize (((w1.setCell ⟨g2, 0, none⟩ (.pointer none)).setCell ⟨g3, 0, none⟩ (.int .i64 0)).setCell ⟨g4, 0, none⟩ (.int .i64 290)) = W2 at c2 c3 c4 hfin ⊢
  have e0 : W2.cell? ⟨g2, 0, none⟩ = some (.pointer none) := (blk_cell c2 0).trans rfl
  have e3 : W2.cell? ⟨g3, 0, none⟩ = some (.int .i64 0) := (blk_cell c3 0).trans rfl
  have e4 : W2.cell? ⟨g4, 0, none⟩ = some (.int .i64 290) := (blk_cell c4 0).trans rfl
  simp [Leaves, settle, results, Tryz.results31, go_sem, e0, e3, e4]
  exact hfin
end Go.Proofs.J.Print
end
section
namespace Go.Proofs.J.Print
open Go.RowKit Go.Proofs.PrintWords Go.Proofs.PrintLast Go.Proofs.PrintMore
set_option maxHeartbeats 8000000 in
set_option maxRecDepth 100000 in
theorem num_calls (n : Int) (w : World) : Calls Tryz.prog 29 #[.int .i64 n] w fun e w' => e = .returned (.agg #[.int .i8 1, .int .i64 n, .string (⟨#[]⟩ : ByteArray)]) ∧ Below w.heap.size w w' := by
  have hu85 := Tryz.underlying85
  have HB1 := Aside0.mk (Below.refl w.heap.size w)
  go_enter Tryz.func29, Tryz.ntmps29
  go_wp2_with (first | ((with_reducible refine gate_dst (N := 2) rfl ?_); refine boxS 2 #[.int .i8 0, .int .i64 0, .string (⟨#[]⟩ : ByteArray)] 85 ?_; intro g2 hg W2 hbox hb; have HB2 := Aside0.mk (below_step HB1.out hb); have L2 := Aside0.mk (by rw [hg]; exact HB1.out.size : w.heap.size ≤ g2); have B2 := Aside0.mk hbox; clear hb hbox hg; have hc0 : W2.cell? ⟨g2, 0, none⟩ = some (.int .i8 0) := (blk_cell B2.out 0).trans rfl; have hc1 : W2.cell? ⟨g2, 1, none⟩ = some (.int .i64 0) := (blk_cell B2.out 1).trans rfl; have hc2 : W2.cell? ⟨g2, 2, none⟩ = some (.string (⟨#[]⟩ : ByteArray)) := (blk_cell B2.out 2).trans rfl; have hf0 := blk_frozen B2.out 0; have hf1 := blk_frozen B2.out 1; have hf2 := blk_frozen B2.out 2))
  refine bodyPost_ret (results_cell1 rfl _ _ g2 85 #[.int .i8 1, .int .i64 n, .string (⟨#[]⟩ : ByteArray)] (0, 0) _ rfl (by refine blk_put (cs := #[.int .i8 1, .int .i64 n, .string (⟨#[]⟩ : ByteArray)]) ?_ 2 _ rfl; refine blk_put (cs := #[.int .i8 1, .int .i64 0, .string (⟨#[]⟩ : ByteArray)]) ?_ 1 _ rfl; refine blk_put (cs := #[.int .i8 0, .int .i64 0, .string (⟨#[]⟩ : ByteArray)]) ?_ 0 _ rfl; exact B2.out) Tryz.underlying85 rfl (by kernel_rfl)) rfl ?_
  exact ⟨rfl, below_set (below_set (below_set HB2.out L2.out) L2.out) L2.out⟩
set_option maxHeartbeats 8000000 in
set_option maxRecDepth 100000 in
theorem word_calls (s : ByteArray) (w : World) : Calls Tryz.prog 30 #[.string s] w fun e w' => e = .returned (.agg #[.int .i8 2, .int .i64 0, .string s]) ∧ Below w.heap.size w w' := by
  have hu85 := Tryz.underlying85
  have HB1 := Aside0.mk (Below.refl w.heap.size w)
  go_enter Tryz.func30, Tryz.ntmps30
  go_wp2_with (first | ((with_reducible refine gate_dst (N := 2) rfl ?_); refine boxS 2 #[.int .i8 0, .int .i64 0, .string (⟨#[]⟩ : ByteArray)] 85 ?_; intro g2 hg W2 hbox hb; have HB2 := Aside0.mk (below_step HB1.out hb); have L2 := Aside0.mk (by rw [hg]; exact HB1.out.size : w.heap.size ≤ g2); have B2 := Aside0.mk hbox; clear hb hbox hg; have hc0 : W2.cell? ⟨g2, 0, none⟩ = some (.int .i8 0) := (blk_cell B2.out 0).trans rfl; have hc1 : W2.cell? ⟨g2, 1, none⟩ = some (.int .i64 0) := (blk_cell B2.out 1).trans rfl; have hc2 : W2.cell? ⟨g2, 2, none⟩ = some (.string (⟨#[]⟩ : ByteArray)) := (blk_cell B2.out 2).trans rfl; have hf0 := blk_frozen B2.out 0; have hf1 := blk_frozen B2.out 1; have hf2 := blk_frozen B2.out 2))
  refine bodyPost_ret (results_cell1 rfl _ _ g2 85 #[.int .i8 2, .int .i64 0, .string s] (0, 0) _ rfl (by refine blk_put (cs := #[.int .i8 2, .int .i64 0, .string (⟨#[]⟩ : ByteArray)]) ?_ 2 _ rfl; refine blk_put (cs := #[.int .i8 2, .int .i64 0, .string (⟨#[]⟩ : ByteArray)]) ?_ 1 _ rfl; refine blk_put (cs := #[.int .i8 0, .int .i64 0, .string (⟨#[]⟩ : ByteArray)]) ?_ 0 _ rfl; exact B2.out) Tryz.underlying85 rfl (by kernel_rfl)) rfl ?_
  exact ⟨rfl, below_set (below_set (below_set HB2.out L2.out) L2.out) L2.out⟩
end Go.Proofs.J.Print
end
section
namespace Go.Proofs.J.Pure
open Go.RowKit Go.Proofs.J.Print Go.Proofs.PrintWords Go.Proofs.PrintLast Go.Proofs.PrintMore
theorem bn_one (x : Nat) : [(x : Int) % 256] = bn [UInt8.ofNat (x % 256)] := by
  simp [bn]
theorem put64_loop (n : Nat) (hn : n ≤ 8) (m : Nat) : ∀ (i x : Nat) (l : Bs), i + m = n → x < 18446744073709551616 → l.length + m ≤ 140737488355328 → Ev (fun k => journal_put_uint64.l0 k (bn l) (x : Int) (n : Int) (i : Int)) (bn (l ++ leB m x)) := by
  induction m with
  | zero =>
    intro i x l hi hx hl
    refine Ev.succ (Ev.congr (fun k => ?_) (Ev.const (o := some _) rfl))
    rw [journal_put_uint64.l0, if_neg (by omega)]
    simp [leB]
  | succ m ih =>
    intro i x l hi hx hl
    have h := ih (i + 1) (x / 256) (l ++ [UInt8.ofNat (x % 256)]) (by omega) (by omega) (by simp; omega)
    rw [List.append_assoc] at h
    refine Ev.succ (Ev.congr (fun k => ?_) h)
    rw [journal_put_uint64.l0, if_pos (by omega), if_pos (by rw [bn_len]; omega), bn_one, ← bn_append, w64 _ (by omega) (by omega)]
    rfl
theorem put32_loop (n : Nat) (hn : n ≤ 8) (m : Nat) : ∀ (i x : Nat) (l : Bs), i + m = n → x < 4294967296 → l.length + m ≤ 140737488355328 → Ev (fun k => journal_put_uint32.l0 k (bn l) (x : Int) (n : Int) (i : Int)) (bn (l ++ leB m x)) := by
  induction m with
  | zero =>
    intro i x l hi hx hl
    refine Ev.succ (Ev.congr (fun k => ?_) (Ev.const (o := some _) rfl))
    rw [journal_put_uint32.l0, if_neg (by omega)]
    simp [leB]
  | succ m ih =>
    intro i x l hi hx hl
    have h := ih (i + 1) (x / 256) (l ++ [UInt8.ofNat (x % 256)]) (by omega) (by omega) (by simp; omega)
    rw [List.append_assoc] at h
    refine Ev.succ (Ev.congr (fun k => ?_) h)
    have e : IntKind.u64.wrap (x : Int) / 256 % 4294967296 = ((x / 256 : Nat) : Int) := by rw [wraps_u64 _ (by omega) (by omega)]; omega
    rw [journal_put_uint32.l0, if_pos (by omega), if_pos (by rw [bn_len]; omega), bn_one, ← bn_append, w64 _ (by omega) (by omega), e]
    rfl
theorem put16_loop (n : Nat) (hn : n ≤ 8) (m : Nat) : ∀ (i x : Nat) (l : Bs), i + m = n → x < 65536 → l.length + m ≤ 140737488355328 → Ev (fun k => journal_put_uint16.l0 k (bn l) (x : Int) (n : Int) (i : Int)) (bn (l ++ leB m x)) := by
  induction m with
  | zero =>
    intro i x l hi hx hl
    refine Ev.succ (Ev.congr (fun k => ?_) (Ev.const (o := some _) rfl))
    rw [journal_put_uint16.l0, if_neg (by omega)]
    simp [leB]
  | succ m ih =>
    intro i x l hi hx hl
    have h := ih (i + 1) (x / 256) (l ++ [UInt8.ofNat (x % 256)]) (by omega) (by omega) (by simp; omega)
    rw [List.append_assoc] at h
    refine Ev.succ (Ev.congr (fun k => ?_) h)
    have e : IntKind.u16.wrap (IntKind.u64.wrap (x : Int) / 256) = ((x / 256 : Nat) : Int) := by rw [wraps_u64 _ (by omega) (by omega), wrap_u16]; omega
    rw [journal_put_uint16.l0, if_pos (by omega), if_pos (by rw [bn_len]; omega), bn_one, ← bn_append, w64 _ (by omega) (by omega), e]
    rfl
theorem put8_ev (x : Nat) (l : Bs) (hl : l.length < 140737488355328) : Ev (fun k => journal_put_uint8.f k (bn l) ((x : Int) % 256) 1) (bn (l ++ leB 1 x)) := by
  unfold journal_put_uint8.f
  apply Ev.succ
  have e1 : ∀ k, journal_put_uint8.l0 (k + 1) (bn l) ((x : Int) % 256) 1 0 = _ := fun k => by rw [journal_put_uint8.l0, if_pos (by omega), if_pos (by rw [bn_len]; omega), bn_one, ← bn_append, w64 _ (by omega) (by omega)]
  refine Ev.congr e1 (Ev.succ (Ev.congr (fun k => ?_) (Ev.const (o := some _) rfl)))
  rw [journal_put_uint8.l0, if_neg (by omega)]
  rfl
theorem bytesOf_bn (s : ByteArray) : bytesOf s = bn (lb s) := rfl
theorem putArgs_step (fs : List S90) (c x16 : Int) (args : List S85) (i : Nat) (hi : i < args.length) (hA : args.length ≤ 4611686018427387904) (l : Bs) (hl : l.length + (encV (rd_T85 args i)).length < 140737488355328) (v : List Int)
    (h : Ev (fun k => journal_putFacts.l1 k (bn (l ++ encV (rd_T85 args i))) fs c x16 args (args.length : Int) ((i + 1 : Nat) : Int)) v) :
    Ev (fun k => journal_putFacts.l1 k (bn l) fs c x16 args (args.length : Int) (i : Int)) v := by
  apply Ev.succ
  have ei : wrap64 ((i : Int) + 1) = ((i + 1 : Nat) : Int) := by rw [w64] <;> omega
  have e1 : ∀ k, journal_putFacts.l1 (k + 1) (bn l) fs c x16 args (args.length : Int) (i : Int) = _ := fun k => by rw [journal_putFacts.l1, if_pos (by omega), if_pos (by omega), if_pos (by omega), ei]
  refine Ev.congr e1 ?_
  clear e1
  unfold encV at hl h
  by_cases z : (rd_T85 args i).f0 = 1
  · rw [if_pos z] at hl h
    simp only [List.length_cons, leB_len] at hl
    have hp := put64_loop 8 (by omega) 8 0 (u64n (rd_T85 args i).f1) (l ++ [78]) (by omega) (u64n_lt _) (by simp; omega)
    rw [u64n_cast, bn_append, List.append_assoc] at hp
    exact Ev.iteT z (Ev.iteT (by rw [bn_len]; omega) (Ev.bind hp h))
  · rw [if_neg z] at hl h
    simp only [List.length_cons, List.length_append, leB_len, lb_len] at hl
    have hp := put8_ev (rd_T85 args i).f2.size (l ++ [84]) (by simp; omega)
    rw [bn_append l] at hp
    refine Ev.iteF z (Ev.iteT (by rw [bn_len]; omega) (Ev.bind hp (Ev.iteT (by rw [bn_len]; simp only [List.length_append, List.length_cons, List.length_nil, leB_len]; omega) ?_)))
    rw [bytesOf_bn, ← bn_append]
    simp only [List.append_assoc, List.cons_append, List.nil_append]
    exact h
theorem putArgs_loop (fs : List S90) (c : Int) (x16 : Int) (args : List S85) (hA : args.length ≤ 4611686018427387904) (v : List Int) (m : Nat) : ∀ (i : Nat) (l : Bs), i + m = args.length → l.length + ((args.drop i).flatMap encV).length < 140737488355328 →
    Ev (fun k => journal_putFacts.l0 k (bn (l ++ (args.drop i).flatMap encV)) fs c (wrap64 (x16 + 1))) v →
    Ev (fun k => journal_putFacts.l1 k (bn l) fs c x16 args (args.length : Int) (i : Int)) v := by
  induction m with
  | zero =>
    intro i l hi hl h
    rw [List.drop_of_length_le (by omega), List.flatMap_nil, List.append_nil] at h
    refine Ev.succ (Ev.congr (fun k => ?_) h)
    rw [journal_putFacts.l1, if_neg (by omega)]
  | succ m ih =>
    intro i l hi hl h
    have hd := drop_rd85 args i (by omega)
    rw [hd, List.flatMap_cons, List.length_append] at hl
    rw [hd, List.flatMap_cons, ← List.append_assoc] at h
    exact putArgs_step fs c x16 args i (by omega) hA l (by omega) v (ih (i + 1) _ (by omega) (by rw [List.length_append]; omega) h)
theorem putFacts_step (fs : List S90) (i : Nat) (hi : i < fs.length) (hF : Fits fs) (l : Bs) (hl : l.length + (encF (rd_T90 fs i)).length < 140737488355328) (v : List Int)
    (h : Ev (fun k => journal_putFacts.l0 k (bn (l ++ encF (rd_T90 fs i))) fs (fs.length : Int) ((i + 1 : Nat) : Int)) v) :
    Ev (fun k => journal_putFacts.l0 k (bn l) fs (fs.length : Int) (i : Int)) v := by
  have hfl := hF.1
  have hm := hF.2 _ (rd90_mem fs i hi)
  have ei : wrap64 ((i : Int) + 1) = ((i + 1 : Nat) : Int) := by rw [w64] <;> omega
  apply Ev.succ
  have e1 : ∀ k, journal_putFacts.l0 (k + 1) (bn l) fs (fs.length : Int) (i : Int) = _ := fun k => by rw [journal_putFacts.l0, if_pos (by omega), if_pos (by omega), if_pos (by omega)]
  refine Ev.congr e1 ?_
  clear e1
  unfold encF at hl h
  simp only [List.length_append, leB_len, lb_len] at hl
  have hp := put8_ev (rd_T90 fs i).f0.size l (by omega)
  refine Ev.bind hp (Ev.iteT (by rw [bn_len]; simp only [List.length_append, leB_len]; omega) ?_)
  rw [bytesOf_bn, ← bn_append]
  have hp2 := put8_ev (rd_T90 fs i).f1.length (l ++ leB 1 (rd_T90 fs i).f0.size ++ lb (rd_T90 fs i).f0) (by simp only [List.length_append, leB_len, lb_len]; omega)
  refine Ev.bind hp2 ?_
  refine putArgs_loop fs (fs.length : Int) (i : Int) (rd_T90 fs i).f1 hm.1 v (rd_T90 fs i).f1.length 0 _ (by omega) (by simp only [List.length_append, leB_len, lb_len, List.drop_zero]; omega) ?_
  rw [List.drop_zero, ei]
  simp only [List.append_assoc] at h ⊢
  exact h
theorem putFacts_loop (fs : List S90) (hF : Fits fs) (m : Nat) : ∀ (i : Nat) (l : Bs), i + m = fs.length → l.length + ((fs.drop i).flatMap encF).length < 140737488355328 →
    Ev (fun k => journal_putFacts.l0 k (bn l) fs (fs.length : Int) (i : Int)) (bn (l ++ (fs.drop i).flatMap encF)) := by
  induction m with
  | zero =>
    intro i l hi hl
    rw [List.drop_of_length_le (by omega), List.flatMap_nil, List.append_nil]
    refine Ev.succ (Ev.congr (fun k => ?_) (Ev.const (o := some _) rfl))
    rw [journal_putFacts.l0, if_neg (by omega)]
  | succ m ih =>
    intro i l hi hl
    have hd := drop_rd90 fs i (by omega)
    rw [hd, List.flatMap_cons, List.length_append] at hl
    rw [hd, List.flatMap_cons, ← List.append_assoc]
    exact putFacts_step fs i (by omega) hF l (by omega) _ (ih (i + 1) _ (by omega) (by rw [List.length_append]; omega))
theorem putFacts_ev (fs : List S90) (hF : Fits fs) (l : Bs) (hl : l.length + (encFs fs).length < 140737488355328) (h32 : fs.length < 4294967296) : Ev (fun k => journal_putFacts.f k (bn l) fs) (bn (l ++ encFs fs)) := by
  unfold encFs at hl ⊢
  rw [List.length_append, leB_len] at hl
  unfold journal_putFacts.f
  have hp := put32_loop 4 (by omega) 4 0 fs.length l (by omega) h32 (by omega)
  rw [show ((fs.length : Nat) : Int) = ((fs.length : Int)) % 4294967296 by omega] at hp
  refine Ev.bind hp ?_
  have h := putFacts_loop fs hF fs.length 0 (l ++ leB 4 fs.length) (by omega) (by rw [List.drop_zero, List.length_append, leB_len]; omega)
  rw [List.drop_zero, List.append_assoc] at h
  exact h
theorem tur_leB4 (n : Nat) (h : n < 4294967296) : leB 4 (4294967295 - n) = tur (leB 4 n) := by
  apply leN_inj (by rw [tur_len, leB_len, leB_len])
  rw [leN_leB, leN_tur, leN_leB, leB_len, Nat.mod_eq_of_lt (by omega), Nat.mod_eq_of_lt (by omega)]
theorem frame_ev (x : Bs) (h : x.length ≤ 16777216) : Ev (fun k => journal_frame.f k (bn x)) (ob (frL x)) := by
  unfold journal_frame.f
  have e0 : (((bn x).length : Nat) : Int) % 4294967296 = ((x.length : Nat) : Int) := by rw [bn_len]; omega
  rw [e0, not_u32 _ (by omega)]
  have h1 := put32_loop 4 (by omega) 4 0 x.length [] (by omega) (by omega) (by simp)
  rw [List.nil_append] at h1
  have h2 := put32_loop 4 (by omega) 4 0 (4294967295 - x.length) (leB 4 x.length) (by omega) (by omega) (by rw [leB_len]; omega)
  rw [tur_leB4 _ (by omega)] at h2
  have hS := Sum_ev1 (ob x) (by rw [ob_size]; omega)
  rw [lb_ob, ← str_bn] at hS
  have hc := crc_lt x
  have h3 := put16_loop 2 (by omega) 2 0 (crcL x) (leB 4 x.length ++ tur (leB 4 x.length) ++ x) (by omega) hc (by simp only [List.length_append, leB_len, tur_len]; omega)
  rw [bn_append _ x] at h3
  refine Ev.bind h1 (Ev.bind h2 (Ev.iteT (by rw [bn_len, bn_len]; simp only [List.length_append, leB_len, tur_len]; omega) (Ev.bind hS (Ev.bind h3 (Ev.const ?_)))))
  rw [str_bn]
  unfold frL
  simp only [List.append_assoc]
theorem proEncode_ev (n : Int) (a b : List S90) (ha : Fits a) (hb : Fits b) (h : goodB n a b = true → (bodyL n a b).length ≤ 140737488351232) (h32 : a.length < 4294967296 ∧ b.length < 4294967296) :
    Ev (fun k => journal_Encode.f k n a b) (if goodB n a b = true then (if (bodyL n a b).length > 16777216 then (⟨#[]⟩, 30) else (ob (frL (bodyL n a b)), 0)) else (⟨#[]⟩, 1)) := by
  have hj : Ev (fun k => journal_Encode.j0 k true n a b) (⟨#[]⟩, 1) := Ev.succ (Ev.congr (fun k => by rw [journal_Encode.j0, if_pos rfl]) (Ev.const rfl))
  unfold journal_Encode.f goodB
  by_cases c : 1 ≤ n
  · rw [decide_eq_true c, Bool.true_and]
    refine Ev.iteF (by omega) (Ev.bind (rising_ev a ha) ?_)
    by_cases ra : risB a = true
    · refine Ev.iteT ra (Ev.bind (rising_ev b hb) ?_)
      by_cases rb : risB b = true
      · refine Ev.iteT rb (Ev.bind (apart_ev a b ha hb ra rb) ?_)
        have h : com a b = false → (bodyL n a b).length ≤ 140737488351232 := fun z => h (by unfold goodB; rw [decide_eq_true c, ra, rb, z]; rfl)
        rw [ra, rb, Bool.true_and, Bool.true_and]
        cases hz : com a b with
        | true => exact hj
        | false =>
          have h := h hz
          apply Ev.succ
          have e1 : ∀ k, journal_Encode.j0 (k + 1) (!!false) n a b = _ := fun k => by rw [journal_Encode.j0, if_neg (by decide)]
          refine Ev.congr e1 ?_
          have e0 : (bodyL n a b).length = 1 + 8 + (encFs a).length + (encFs b).length := by unfold bodyL; simp only [List.length_cons, List.length_append, leB_len]; omega
          have h1 := put64_loop 8 (by omega) 8 0 (u64n n) [67] (by omega) (u64n_lt _) (by simp)
          rw [u64n_cast] at h1
          have h2 := putFacts_ev a ha ([67] ++ leB 8 (u64n n)) (by simp only [List.length_append, List.length_cons, List.length_nil, leB_len]; omega) h32.1
          have h3 := putFacts_ev b hb ([67] ++ leB 8 (u64n n) ++ encFs a) (by simp only [List.length_append, List.length_cons, List.length_nil, leB_len]; omega) h32.2
          have eb : [67] ++ leB 8 (u64n n) ++ encFs a ++ encFs b = bodyL n a b := by unfold bodyL; simp
          rw [eb] at h3
          refine Ev.bind h1 (Ev.bind h2 (Ev.bind h3 ?_))
          rw [bn_len, if_pos (show (!false) = true from rfl)]
          by_cases z : (bodyL n a b).length > 16777216
          · rw [if_pos z]
            exact Ev.iteT (by omega) (Ev.const rfl)
          · rw [if_neg z]
            exact Ev.iteF (by omega) (Ev.bind (frame_ev _ (by omega)) (Ev.const rfl))
      · have e : risB b = false := by simpa using rb
        rw [e, Bool.false_and, Bool.and_false]
        exact Ev.iteF (by decide) hj
    · have e : risB a = false := by simpa using ra
      rw [e, Bool.false_and]
      exact Ev.iteF (by decide) hj
  · rw [decide_eq_false c, Bool.false_and]
    exact Ev.iteT (by omega) hj
end Go.Proofs.J.Pure
end
section
namespace Go.Proofs.J.Pure
open Go.RowKit Go.Proofs.J.Print Go.Proofs.PrintWords Go.Proofs.PrintLast Go.Proofs.PrintMore
def liV : List S85 := [⟨1, -1, ⟨#[]⟩⟩, ⟨2, 0, ⟨#[97]⟩⟩]
def liF : List S90 := [⟨⟨#[112]⟩, liV⟩]
def liS : ByteArray := ob (frL (bodyL 3 liF []))
theorem li_name : nameB (⟨#[112]⟩ : ByteArray) = true := by
  unfold nameB
  rw [lb_toList]
  decide +kernel
theorem li_chk : liV.all chkB = true := by
  decide +kernel
theorem li_may : mayB ⟨⟨#[112]⟩, liV⟩ = true := by
  unfold mayB
  rw [li_name, li_chk]
  rfl
theorem li_ris : risB liF = true := by
  unfold risB liF
  simp only [risG, li_may]
  rfl
theorem li_good : goodB 3 liF [] = true := by
  unfold goodB
  rw [li_ris]
  rfl
theorem li_ok : ∀ f ∈ liF, okF f := by
  intro f hf
  have : f = ⟨⟨#[112]⟩, liV⟩ := by simpa [liF] using hf
  subst this
  refine may_ok _ li_may (fun v hv => ?_)
  simp only [liV, List.mem_cons, List.not_mem_nil, or_false] at hv
  rcases hv with rfl | rfl <;> simp [rngV]
theorem li_len : (bodyL 3 liF []).length = 32 := by decide +kernel
theorem li_fits : Fits liF := ok_fits li_ok (by decide)
theorem li_fits0 : Fits [] := ⟨by simp, by simp⟩
theorem li_size : liS.size = 42 := by
  unfold liS
  rw [ob_size, frL_len, li_len]
theorem li_enc : Ev (fun k => journal_Encode.f k 3 liF []) (liS, 0) := by
  have h := proEncode_ev 3 liF [] li_fits li_fits0 (fun _ => by rw [li_len]; decide) ⟨by decide, by decide⟩
  rw [li_good, if_pos rfl, if_neg (by rw [li_len]; decide)] at h
  exact h
theorem li_dec : Ev (fun k => journal_Decode.f k liS) (3, liF, [], 42, 0) := by
  have hb : bodyOf (lb liS) = some (bodyL 3 liF []) := by
    have := bodyOf_frL (bodyL 3 liF []) [] (by rw [li_len]; decide)
    rw [List.append_nil] at this
    exact this
  have hc : bodyCom (bodyL 3 liF []) = some (3, liF, []) := bodyCom_mk (by decide) li_good li_ok (by simp) (by decide) (by decide)
  have h := commitP_ev liS (by rw [li_size]; decide)
  have e : comL (lb liS) = some ((3, liF, []), ob ((lb liS).drop (10 + 32))) := by
    unfold comL
    rw [hb]
    dsimp only
    rw [hc, li_len]
  rw [e] at h
  refine Ev.bind h (Ev.const ?_)
  show some (3, liF, [], wrap64 ((liS.size : Int) - ((ob ((lb liS).drop (10 + 32))).size : Int)), 0) = _
  rw [ob_size, List.length_drop, lb_len, li_size, w64 _ (by decide) (by decide)]
  rfl
theorem li_same : Ev (fun k => pedigreelaw01_SameCommit.f k 3 liF [] 3 liF []) true := sameC_ev 3 liF [] li_fits li_fits0
theorem li_sum : Ev (fun k => journal_Sum.f k (⟨#[49, 50, 51, 52, 53, 54, 55, 56, 57]⟩ : ByteArray)) 10673 := by
  have h := Sum_ev1 (⟨#[49, 50, 51, 52, 53, 54, 55, 56, 57]⟩ : ByteArray) (by decide)
  have e : crcL (lb (⟨#[49, 50, 51, 52, 53, 54, 55, 56, 57]⟩ : ByteArray)) = 10673 := by decide +kernel
  rw [e] at h
  exact h
end Go.Proofs.J.Pure
end
