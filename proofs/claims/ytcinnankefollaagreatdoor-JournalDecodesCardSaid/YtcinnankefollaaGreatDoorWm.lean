/- On the way to the law 'JournalDecodes': what the functions that it reaches compute, step by step, and the plain law (JSi .. JSn). Each theorem states its own conditions. -/
import Derived.Test.YtcinnankefollaaGreatDoorWl
set_option linter.unusedVariables false
set_option linter.unusedSimpArgs false
section
namespace Go.Proofs.J.Pure
open Go.RowKit Go.Proofs.J.Print Go.Proofs.PrintWords Go.Proofs.PrintLast Go.Proofs.PrintMore
def chkB (v : S85) : Bool := decide (v.f0 = 1 ∧ lb v.f2 = [] ∨ v.f0 = 2 ∧ v.f1 = 0 ∧ v.f2.size ≤ 200)
theorem Check_f (v : S85) : value_Check.f v.f0 v.f1 v.f2 = some (if chkB v = true then 0 else 10) := by
  unfold value_Check.f chkB
  rw [lb_toList]
  by_cases h0 : v.f0 = 1
  · by_cases h2 : lb v.f2 = [] <;> simp [h0, h2]
  · by_cases h1 : v.f0 = 2
    · by_cases h3 : v.f1 = 0
      · by_cases h4 : v.f2.size ≤ 200
        · have : ((v.f2.size : Int) ≤ 200) := by omega
          simp [h0, h1, h3, h4, this]
        · have : ¬ ((v.f2.size : Int) ≤ 200) := by omega
          simp [h0, h1, h3, h4, this]
      · simp [h0, h1, h3]
    · simp [h0, h1]
theorem refCheck_f (v : S85) : pedigreeref01_Check.f v.f0 v.f1 v.f2 = some (if chkB v = true then 0 else 10) := by
  unfold pedigreeref01_Check.f chkB
  rw [lb_toList]
  by_cases h0 : v.f0 = 1
  · by_cases h2 : lb v.f2 = [] <;> simp [h0, h2]
  · by_cases h1 : v.f0 = 2
    · by_cases h3 : v.f1 = 0
      · by_cases h4 : v.f2.size ≤ 200
        · have : ((v.f2.size : Int) ≤ 200) := by omega
          simp [h0, h1, h3, h4, this]
        · have : ¬ ((v.f2.size : Int) ≤ 200) := by omega
          simp [h0, h1, h3, h4, this]
      · simp [h0, h1, h3]
    · simp [h0, h1]
theorem letter_f (c : Int) : pedigreeref01_letter.f c = some (lettB c) := by
  unfold pedigreeref01_letter.f lettB
  by_cases h1 : 97 ≤ c <;> by_cases h2 : c ≤ 122 <;> by_cases h3 : 65 ≤ c <;> by_cases h4 : c ≤ 90 <;> by_cases h5 : 48 ≤ c <;> by_cases h6 : c ≤ 57 <;> simp [h1, h2, h3, h4, h5, h6]
theorem keyword_f (s : ByteArray) : pedigreeref01_Keyword.f s = some (keyB s.toList) := by
  unfold pedigreeref01_Keyword.f keyB
  generalize s.toList = l
  by_cases h1 : l = [110, 111, 116]
  · simp [h1]
  by_cases h2 : l = [99, 111, 117, 110, 116]
  · simp [h2]
  by_cases h3 : l = [115, 117, 109]
  · simp [h3]
  by_cases h4 : l = [109, 105, 110]
  · simp [h4]
  by_cases h5 : l = [109, 97, 120]
  · simp [h5]
  by_cases h6 : l = [108, 101, 110]
  · simp [h6]
  by_cases h7 : l = [99, 104, 97, 114, 115]
  · simp [h7]
  simp [h1, h2, h3, h4, h5, h6, h7]
def lettsFrom (s : ByteArray) (m i : Nat) : Bool := (List.range' i m).all fun j => lettB (bt s (j : Int))
theorem written_loop (s : ByteArray) (hs : s.size ≤ 4611686018427387904) (m : Nat) : ∀ i : Nat, i + m = s.size → Ev (fun k => pedigreeref01_written.l0 k s (i : Int)) (lettsFrom s m i) := by
  induction m with
  | zero =>
    intro i hi
    refine Ev.succ (Ev.congr (fun k => ?_) (Ev.const (o := some _) rfl))
    rw [pedigreeref01_written.l0, if_neg (by omega)]
    rfl
  | succ m ih =>
    intro i hi
    apply Ev.succ
    have e1 : ∀ k, pedigreeref01_written.l0 (k + 1) s (i : Int) = _ := fun k => by rw [pedigreeref01_written.l0, if_pos (by omega), if_pos (by omega), letter_f]
    refine Ev.congr e1 (Ev.bind (Ev.const rfl) ?_)
    have e2 : lettsFrom s (m + 1) i = (lettB (bt s (i : Int)) && lettsFrom s m (i + 1)) := by unfold lettsFrom; rw [List.range'_succ, List.all_cons]
    rw [e2]
    cases h : lettB (bt s (i : Int)) with
    | true =>
      refine Ev.iteT rfl ?_
      rw [w64 _ (by omega) (by omega), Bool.true_and]
      exact ih (i + 1) (by omega)
    | false => exact Ev.iteF (by decide) (Ev.const rfl)
theorem letts_from (s : ByteArray) (h : 0 < s.size) (h0 : 97 ≤ bt s 0) (h1 : bt s 0 ≤ 122) : lettsB s = lettsFrom s (s.size - 1) 1 := by
  unfold lettsB lettsFrom
  obtain ⟨n, hn⟩ : ∃ n, s.size = n + 1 := ⟨s.size - 1, by omega⟩
  rw [hn, List.range_eq_range', List.range'_succ, List.all_cons]
  have : lettB (bt s ((0 : Nat) : Int)) = true := by
    have e : bt s ((0 : Nat) : Int) = bt s 0 := rfl
    rw [e]
    unfold lettB
    simp [h0, h1]
  rw [this]
  simp
theorem Name_ev (s : ByteArray) (hs : s.size ≤ 4611686018427387904) : Ev (fun k => pedigreeref01_Name.f k s) (nameB s) := by
  have hj : Ev (fun k => pedigreeref01_written.j0 k s true) false := Ev.succ (Ev.congr (fun k => by rw [pedigreeref01_written.j0, if_pos rfl]) (Ev.const rfl))
  have hw : Ev (fun k => pedigreeref01_written.f k s 97 122) (decide (0 < s.size) && (decide (s.size ≤ 120) && (decide (97 ≤ bt s 0) && (decide (bt s 0 ≤ 122) && lettsB s)))) := by
    unfold pedigreeref01_written.f
    by_cases c1 : 0 < s.size
    · refine Ev.iteF (by omega) ?_
      by_cases c2 : s.size ≤ 120
      · refine Ev.iteF (by omega) (Ev.iteT (by omega) ?_)
        by_cases c3 : 97 ≤ bt s 0
        · refine Ev.iteF (by omega) ?_
          by_cases c4 : bt s 0 ≤ 122
          · rw [decide_eq_false (show ¬ bt s 0 > 122 by omega), letts_from s c1 c3 c4]
            simp only [c1, c2, c3, c4, decide_true, Bool.true_and]
            apply Ev.succ
            have e1 : ∀ k, pedigreeref01_written.j0 (k + 1) s false = _ := fun k => by rw [pedigreeref01_written.j0, if_neg (by decide)]
            exact Ev.congr e1 (written_loop s hs (s.size - 1) 1 (by omega))
          · rw [decide_eq_true (show bt s 0 > 122 by omega)]
            simp only [c1, c2, c3, c4, decide_true, decide_false, Bool.true_and, Bool.false_and]
            exact hj
        · simp only [c1, c2, c3, decide_true, decide_false, Bool.true_and, Bool.false_and]
          exact Ev.iteT (by omega) hj
      · simp only [c1, c2, decide_true, decide_false, Bool.true_and, Bool.false_and]
        exact Ev.iteT (by omega) hj
    · simp only [c1, decide_false, Bool.false_and]
      exact Ev.iteT (by omega) hj
  have en : nameB s = ((decide (0 < s.size) && (decide (s.size ≤ 120) && (decide (97 ≤ bt s 0) && (decide (bt s 0 ≤ 122) && lettsB s)))) && !keyB s.toList) := by
    unfold nameB
    simp only [Bool.and_assoc]
  rw [en]
  unfold pedigreeref01_Name.f
  refine Ev.bind hw ?_
  generalize (decide (0 < s.size) && (decide (s.size ≤ 120) && (decide (97 ≤ bt s 0) && (decide (bt s 0 ≤ 122) && lettsB s)))) = B
  cases B with
  | true =>
    refine Ev.iteT rfl ?_
    rw [keyword_f]
    exact Ev.bind (Ev.const rfl) (Ev.const rfl)
  | false => exact Ev.iteF (by decide) (Ev.const rfl)
theorem name_len {s : ByteArray} (h : nameB s = true) : s.size ≤ 120 := by
  unfold nameB at h
  simp only [Bool.and_eq_true, decide_eq_true_eq] at h
  exact h.2.1
theorem esc_len (c : Int) : 1 ≤ (escI c).length := by
  unfold escI
  split
  · simp
  · split
    · simp
    · split
      · simp
      · split
        · simp
        · split <;> simp
theorem escs_len (s : ByteArray) (k : Nat) : k ≤ (escs s k).length := by
  induction k with
  | zero => omega
  | succ k ih =>
    unfold escs at *
    rw [List.range_succ, List.flatMap_append, List.length_append]
    have := esc_len (bt s (k : Int))
    simp only [List.flatMap_cons, List.flatMap_nil, List.append_nil]
    omega
theorem Show_f (s : ByteArray) : ∃ t e, value_Show.f 2 0 s = some (t, e) ∧ ((e = 0 ∧ t.toList = s.toList) ↔ nameB s = true) := by
  unfold value_Show.f
  have hc := Check_f ⟨2, 0, s⟩
  dsimp only at hc
  rw [hc]
  by_cases h : s.size ≤ 200
  · have e : chkB ⟨2, 0, s⟩ = true := by simp [chkB, h]
    rw [if_pos e]
    by_cases hn : nameB s = true
    · refine ⟨s, 0, ?_, by simp [hn]⟩
      simp [value_name.f, hn]
    · refine ⟨strOfNums (quoteI s), 0, ?_, ?_⟩
      · simp [value_name.f, hn, value_quoted.f, show s.size ≤ 1000000 by omega]
      · constructor
        · intro h2
          have h3 := congrArg List.length h2.2
          rw [lb_toList, lb_toList, lb_len s, lb_nums, List.length_map] at h3
          have := escs_len s s.size
          unfold quoteI at h3
          simp only [List.length_append, List.length_cons, List.length_nil] at h3
          omega
        · intro h2
          exact absurd h2 hn
  · have e : ¬ chkB ⟨2, 0, s⟩ = true := by simp [chkB, h]
    rw [if_neg e]
    refine ⟨⟨#[]⟩, 10, by simp, ?_⟩
    constructor
    · intro h2
      exact absurd h2.1 (by decide)
    · intro h2
      have := name_len h2
      omega
def mayB (f : S90) : Bool := nameB f.f0 && (decide (f.f1.length ≤ 24) && f.f1.all chkB)
theorem rd90_mem (l : List S90) (i : Nat) (h : i < l.length) : rd_T90 l i ∈ l := by
  have := drop_rd90 l i h
  exact List.mem_of_mem_drop (i := i) (by rw [this]; simp)
theorem may_loop (l : List S85) (hl : l.length ≤ 4611686018427387904) (m : Nat) : ∀ i : Nat, i + m = l.length → Ev (fun k => journal_may.l0 k l (l.length : Int) (i : Int)) ((l.drop i).all chkB) := by
  induction m with
  | zero =>
    intro i hi
    refine Ev.succ (Ev.congr (fun k => ?_) (Ev.const (o := some _) rfl))
    rw [journal_may.l0, if_neg (by omega), List.drop_of_length_le (by omega)]
    rfl
  | succ m ih =>
    intro i hi
    apply Ev.succ
    have e1 : ∀ k, journal_may.l0 (k + 1) l (l.length : Int) (i : Int) = _ := fun k => by rw [journal_may.l0, if_pos (by omega), if_pos (by omega), if_pos (by omega), Check_f]
    refine Ev.congr e1 (Ev.bind (Ev.const rfl) ?_)
    rw [drop_rd85 l i (by omega), List.all_cons]
    cases h : chkB (rd_T85 l i) with
    | true =>
      refine Ev.iteT (by simp) ?_
      rw [w64 _ (by omega) (by omega), Bool.true_and]
      exact ih (i + 1) (by omega)
    | false => exact Ev.iteF (by simp) (Ev.const rfl)
theorem mayBe_loop (s : ByteArray) (l : List S85) (hl : l.length ≤ 4611686018427387904) (m : Nat) : ∀ i : Nat, i + m = l.length → Ev (fun k => pedigreeref29_mayBe.l0 k (i : Int) s l) ((l.drop i).all chkB) := by
  induction m with
  | zero =>
    intro i hi
    refine Ev.succ (Ev.congr (fun k => ?_) (Ev.const (o := some _) rfl))
    rw [pedigreeref29_mayBe.l0, if_neg (by omega), List.drop_of_length_le (by omega)]
    rfl
  | succ m ih =>
    intro i hi
    apply Ev.succ
    have e1 : ∀ k, pedigreeref29_mayBe.l0 (k + 1) (i : Int) s l = _ := fun k => by rw [pedigreeref29_mayBe.l0, if_pos (by omega), if_pos (by omega), refCheck_f]
    refine Ev.congr e1 (Ev.bind (Ev.const rfl) ?_)
    rw [drop_rd85 l i (by omega), List.all_cons]
    cases h : chkB (rd_T85 l i) with
    | true =>
      refine Ev.iteT (by simp) ?_
      rw [w64 _ (by omega) (by omega), Bool.true_and]
      exact ih (i + 1) (by omega)
    | false => exact Ev.iteF (by simp) (Ev.const rfl)
theorem may_ev (f : S90) (hl : f.f1.length ≤ 4611686018427387904) : Ev (fun k => journal_may.f k f.f0 f.f1) (mayB f) := by
  have hj : Ev (fun k => journal_may.j0 k true f.f0 f.f1) false := Ev.succ (Ev.congr (fun k => by rw [journal_may.j0, if_pos rfl]) (Ev.const rfl))
  obtain ⟨t, e, hs, hiff⟩ := Show_f f.f0
  unfold journal_may.f
  refine Ev.bind (Ev.const hs) ?_
  by_cases hn : nameB f.f0 = true
  · obtain ⟨h1, h2⟩ := hiff.2 hn
    refine Ev.iteT h1 (Ev.iteT h2 ?_)
    unfold mayB
    rw [hn, Bool.true_and]
    by_cases c : f.f1.length ≤ 24
    · rw [decide_eq_false (show ¬ (f.f1.length : Int) > 24 by omega), decide_eq_true c, Bool.true_and]
      apply Ev.succ
      have e1 : ∀ k, journal_may.j0 (k + 1) false f.f0 f.f1 = _ := fun k => by rw [journal_may.j0, if_neg (by decide)]
      exact Ev.congr e1 (may_loop f.f1 hl f.f1.length 0 (by omega))
    · rw [decide_eq_true (show (f.f1.length : Int) > 24 by omega), decide_eq_false c, Bool.false_and]
      exact hj
  · have ef : mayB f = false := by unfold mayB; simp [hn]
    rw [ef]
    by_cases h1 : e = 0
    · exact Ev.iteT h1 (Ev.iteF (fun h2 => hn (hiff.1 ⟨h1, h2⟩)) hj)
    · exact Ev.iteF h1 hj
theorem mayBe_ev (f : S90) (hl : f.f1.length ≤ 4611686018427387904) (hs : f.f0.size ≤ 4611686018427387904) : Ev (fun k => pedigreeref29_mayBe.f k f.f0 f.f1) (mayB f) := by
  have hj : Ev (fun k => pedigreeref29_mayBe.j0 k true f.f0 f.f1) false := Ev.succ (Ev.congr (fun k => by rw [pedigreeref29_mayBe.j0, if_pos rfl]) (Ev.const rfl))
  unfold pedigreeref29_mayBe.f
  refine Ev.bind (Name_ev f.f0 hs) ?_
  by_cases hn : nameB f.f0 = true
  · refine Ev.iteT hn ?_
    unfold mayB
    rw [hn, Bool.true_and]
    by_cases c : f.f1.length ≤ 24
    · rw [decide_eq_false (show ¬ (f.f1.length : Int) > 24 by omega), decide_eq_true c, Bool.true_and]
      apply Ev.succ
      have e1 : ∀ k, pedigreeref29_mayBe.j0 (k + 1) false f.f0 f.f1 = _ := fun k => by rw [pedigreeref29_mayBe.j0, if_neg (by decide)]
      exact Ev.congr e1 (mayBe_loop f.f0 f.f1 hl f.f1.length 0 (by omega))
    · rw [decide_eq_true (show (f.f1.length : Int) > 24 by omega), decide_eq_false c, Bool.false_and]
      exact hj
  · have ef : mayB f = false := by unfold mayB; simp [hn]
    rw [ef]
    exact Ev.iteF hn hj
def Fits (l : List S90) : Prop := l.length ≤ 4611686018427387904 ∧ ∀ f ∈ l, f.f1.length ≤ 4611686018427387904 ∧ f.f0.size ≤ 4611686018427387904
def risG (p : Option S90) : List S90 → Bool
  | [] => true
  | f :: r => mayB f && ((match p with | none => true | some q => decide (cmpF q f < 0)) && risG (some f) r)
def risB (l : List S90) : Bool := risG none l
def prevOf (l : List S90) (i : Nat) : Option S90 := if i = 0 then none else some (rd_T90 l ((i : Int) - 1))
theorem prev_succ (l : List S90) (i : Nat) : prevOf l (i + 1) = some (rd_T90 l (i : Int)) := by
  unfold prevOf
  rw [if_neg (by omega), show (((i + 1 : Nat) : Int) - 1) = (i : Int) by omega]
theorem rising_loop (l : List S90) (hf : Fits l) (m : Nat) : ∀ i : Nat, i + m = l.length → Ev (fun k => journal_rising.l0 k l l (l.length : Int) (i : Int)) (risG (prevOf l i) (l.drop i)) := by
  have hl := hf.1
  induction m with
  | zero =>
    intro i hi
    refine Ev.succ (Ev.congr (fun k => ?_) (Ev.const (o := some _) rfl))
    rw [journal_rising.l0, if_neg (by omega), List.drop_of_length_le (by omega)]
    rfl
  | succ m ih =>
    intro i hi
    apply Ev.succ
    have e1 : ∀ k, journal_rising.l0 (k + 1) l l (l.length : Int) (i : Int) = _ := fun k => by rw [journal_rising.l0, if_pos (by omega), if_pos (by omega), if_pos (by omega)]
    have hm := hf.2 _ (rd90_mem l i (by omega))
    refine Ev.congr e1 (Ev.bind (may_ev _ hm.1) ?_)
    rw [drop_rd90 l i (by omega)]
    simp only [risG]
    have ih2 := ih (i + 1) (by omega)
    rw [prev_succ] at ih2
    cases h : mayB (rd_T90 l i) with
    | false => exact Ev.iteF (by decide) (Ev.const rfl)
    | true =>
      refine Ev.iteT rfl ?_
      rw [Bool.true_and, w64 ((i : Int) + 1) (by omega) (by omega)]
      by_cases c : i = 0
      · subst c
        refine Ev.iteF (by omega) ?_
        exact ih2
      · have ep : prevOf l i = some (rd_T90 l ((i : Int) - 1)) := by unfold prevOf; rw [if_neg c]
        rw [ep, w64 ((i : Int) - 1) (by omega) (by omega)]
        have hm2 := hf.2 _ (rd90_mem l (i - 1) (by omega))
        rw [show (((i - 1 : Nat) : Nat) : Int) = (i : Int) - 1 by omega] at hm2
        refine Ev.iteT (by omega) (Ev.iteT (by omega) (Ev.iteT (by omega) (Ev.bind (CompareFacts_ev _ _ hm2.1 hm.1) ?_)))
        dsimp only
        by_cases z : cmpF (rd_T90 l ((i : Int) - 1)) (rd_T90 l i) < 0
        · rw [decide_eq_true z, Bool.true_and]
          exact Ev.iteF (by omega) ih2
        · rw [decide_eq_false z, Bool.false_and]
          exact Ev.iteT (by omega) (Ev.const rfl)
theorem rising_ev (l : List S90) (hf : Fits l) : Ev (fun k => journal_rising.f k l) (risB l) := rising_loop l hf l.length 0 (by omega)
theorem inOrder_loop (l : List S90) (hf : Fits l) (m : Nat) : ∀ i : Nat, i + m = l.length → Ev (fun k => pedigreeref29_inOrder.l0 k l (i : Int)) (risG (prevOf l i) (l.drop i)) := by
  have hl := hf.1
  induction m with
  | zero =>
    intro i hi
    refine Ev.succ (Ev.congr (fun k => ?_) (Ev.const (o := some _) rfl))
    rw [pedigreeref29_inOrder.l0, if_neg (by omega), List.drop_of_length_le (by omega)]
    rfl
  | succ m ih =>
    intro i hi
    apply Ev.succ
    have e1 : ∀ k, pedigreeref29_inOrder.l0 (k + 1) l (i : Int) = _ := fun k => by rw [pedigreeref29_inOrder.l0, if_pos (by omega), if_pos (by omega)]
    have hm := hf.2 _ (rd90_mem l i (by omega))
    refine Ev.congr e1 (Ev.bind (mayBe_ev _ hm.1 hm.2) ?_)
    rw [drop_rd90 l i (by omega)]
    simp only [risG]
    have ih2 := ih (i + 1) (by omega)
    rw [prev_succ] at ih2
    cases h : mayB (rd_T90 l i) with
    | false => exact Ev.iteF (by decide) (Ev.const rfl)
    | true =>
      refine Ev.iteT rfl ?_
      rw [Bool.true_and, w64 ((i : Int) + 1) (by omega) (by omega)]
      by_cases c : i = 0
      · subst c
        refine Ev.iteF (by omega) ?_
        exact ih2
      · have ep : prevOf l i = some (rd_T90 l ((i : Int) - 1)) := by unfold prevOf; rw [if_neg c]
        rw [ep, w64 ((i : Int) - 1) (by omega) (by omega)]
        have hm2 := hf.2 _ (rd90_mem l (i - 1) (by omega))
        rw [show (((i - 1 : Nat) : Nat) : Int) = (i : Int) - 1 by omega] at hm2
        refine Ev.iteT (by omega) (Ev.iteT (by omega) (Ev.iteT (by omega) (Ev.bind (refCompareFacts_ev _ _ hm2.1 hm.1) ?_)))
        dsimp only
        by_cases z : cmpF (rd_T90 l ((i : Int) - 1)) (rd_T90 l i) < 0
        · rw [decide_eq_true z, Bool.true_and]
          exact Ev.iteF (by omega) ih2
        · rw [decide_eq_false z, Bool.false_and]
          exact Ev.iteT (by omega) (Ev.const rfl)
theorem inOrder_ev (l : List S90) (hf : Fits l) : Ev (fun k => pedigreeref29_inOrder.f k l) (risB l) := inOrder_loop l hf l.length 0 (by omega)
theorem cmpF_lt (a b : S90) : cmpF a b < 0 ↔ cmpF a b = -1 := by
  have := to_F.rng a b
  omega
theorem risG_all : ∀ (l : List S90) (p : Option S90), risG p l = true → (∀ f ∈ l, mayB f = true) ∧ (∀ q, p = some q → ∀ f ∈ l, cmpF q f = -1) ∧ l.Pairwise (fun a b => cmpF a b = -1)
  | [], p, _ => ⟨by simp, by simp, List.Pairwise.nil⟩
  | f :: r, p, h => by
    simp only [risG, Bool.and_eq_true] at h
    obtain ⟨h1, h2, h3⟩ := h
    obtain ⟨a1, a2, a3⟩ := risG_all r (some f) h3
    refine ⟨by simpa using ⟨h1, a1⟩, ?_, List.Pairwise.cons (a2 f rfl) a3⟩
    intro q hq
    subst hq
    have hf : cmpF q f = -1 := (cmpF_lt q f).1 (of_decide_eq_true h2)
    intro g hg
    rcases List.mem_cons.1 hg with rfl | hg
    · exact hf
    · exact to_F.tr _ _ _ hf (a2 f rfl g hg)
def com (a b : List S90) : Bool := a.any fun x => b.any fun y => decide (cmpF x y = 0)
theorem com_cons_lt (x y : S90) (a b : List S90) (h : cmpF x y = -1) (hb : (y :: b).Pairwise (fun a b => cmpF a b = -1)) : com (x :: a) (y :: b) = com a (y :: b) := by
  unfold com
  rw [List.any_cons]
  have : ((y :: b).any fun z => decide (cmpF x z = 0)) = false := by
    rw [List.any_eq_false]
    intro z hz
    have hlt : cmpF x z = -1 := by
      rcases List.mem_cons.1 hz with rfl | hz
      · exact h
      · exact to_F.tr _ _ _ h ((List.pairwise_cons.1 hb).1 z hz)
    simp [hlt]
  rw [this, Bool.false_or]
theorem com_mem (a b : List S90) : com a b = true ↔ ∃ x ∈ a, ∃ y ∈ b, cmpF x y = 0 := by
  unfold com
  simp
theorem com_cons_gt (x y : S90) (a b : List S90) (h : cmpF x y = 1) (ha : (x :: a).Pairwise (fun a b => cmpF a b = -1)) : com (x :: a) (y :: b) = com (x :: a) b := by
  rw [Bool.eq_iff_iff, com_mem, com_mem]
  have hyx : cmpF y x = -1 := by rw [to_F.anti x y, h]
  constructor
  · rintro ⟨u, hu, v, hv, e⟩
    rcases List.mem_cons.1 hv with rfl | hv
    · exfalso
      have hlt : cmpF v u = -1 := by
        rcases List.mem_cons.1 hu with rfl | hu
        · exact hyx
        · exact to_F.tr _ _ _ hyx ((List.pairwise_cons.1 ha).1 u hu)
      have := to_F.anti v u
      omega
    · exact ⟨u, hu, v, hv, e⟩
  · rintro ⟨u, hu, v, hv, e⟩
    exact ⟨u, hu, v, List.mem_cons_of_mem _ hv, e⟩
theorem pw_drop {l : List S90} {r : S90 → S90 → Prop} (h : l.Pairwise r) (i : Nat) : (l.drop i).Pairwise r := h.sublist (List.drop_sublist i l)
theorem apart_loop (a b : List S90) (ha : Fits a) (hb : Fits b) (pa : a.Pairwise (fun a b => cmpF a b = -1)) (pb : b.Pairwise (fun a b => cmpF a b = -1)) (m : Nat) : ∀ i j : Nat, i ≤ a.length → j ≤ b.length → i + j + m = a.length + b.length →
    Ev (fun k => journal_apart.l0 k a b (i : Int) (j : Int)) (!com (a.drop i) (b.drop j)) := by
  have hla := ha.1
  have hlb := hb.1
  have hend : ∀ i j : Int, Ev (fun k => journal_apart.j1 k a b i j false) true := fun i j => Ev.succ (Ev.congr (fun k => by rw [journal_apart.j1, if_neg (by decide)]) (Ev.const rfl))
  induction m with
  | zero =>
    intro i j hi hj e
    apply Ev.succ
    have e1 : ∀ k, journal_apart.l0 (k + 1) a b (i : Int) (j : Int) = _ := fun k => by rw [journal_apart.l0, if_neg (by omega)]
    refine Ev.congr e1 ?_
    rw [List.drop_of_length_le (by omega)]
    exact hend _ _
  | succ m ih =>
    intro i j hi hj e
    apply Ev.succ
    by_cases c1 : i < a.length
    · have e1 : ∀ k, journal_apart.l0 (k + 1) a b (i : Int) (j : Int) = _ := fun k => by rw [journal_apart.l0, if_pos (by omega)]
      refine Ev.congr e1 ?_
      by_cases c2 : j < b.length
      · rw [decide_eq_true (show (j : Int) < (b.length : Int) by omega)]
        apply Ev.succ
        have e2 : ∀ k, journal_apart.j1 (k + 1) a b (i : Int) (j : Int) true = _ := fun k => by rw [journal_apart.j1, if_pos rfl, if_pos (by omega), if_pos (by omega), if_pos (by omega), if_pos (by omega)]
        refine Ev.congr e2 ?_
        have hma := ha.2 _ (rd90_mem a i c1)
        have hmb := hb.2 _ (rd90_mem b j c2)
        refine Ev.bind (CompareFacts_ev _ _ hma.1 hmb.1) ?_
        have da := drop_rd90 a i c1
        have db := drop_rd90 b j c2
        have pa2 := pw_drop pa i
        have pb2 := pw_drop pb j
        rw [da] at pa2
        rw [db] at pb2
        rw [w64 ((i : Int) + 1) (by omega) (by omega), w64 ((j : Int) + 1) (by omega) (by omega), da, db]
        rcases to_F.rng (rd_T90 a i) (rd_T90 b j) with z | z | z
        · refine Ev.iteF (by omega) (Ev.iteT z ?_)
          rw [com_cons_lt _ _ _ _ z pb2, ← db]
          exact ih (i + 1) j (by omega) (by omega) (by omega)
        · refine Ev.iteT z (Ev.const ?_)
          have : com (rd_T90 a i :: a.drop (i + 1)) (rd_T90 b j :: b.drop (j + 1)) = true := (com_mem _ _).2 ⟨_, by simp, _, by simp, z⟩
          rw [this]
          rfl
        · refine Ev.iteF (by omega) (Ev.iteF (by omega) ?_)
          rw [com_cons_gt _ _ _ _ z pa2, ← da]
          exact ih i (j + 1) (by omega) (by omega) (by omega)
      · rw [decide_eq_false (show ¬ (j : Int) < (b.length : Int) by omega), List.drop_of_length_le (show b.length ≤ j by omega)]
        have : com (a.drop i) [] = false := by unfold com; simp
        rw [this]
        exact hend _ _
    · have e1 : ∀ k, journal_apart.l0 (k + 1) a b (i : Int) (j : Int) = _ := fun k => by rw [journal_apart.l0, if_neg (by omega)]
      refine Ev.congr e1 ?_
      rw [List.drop_of_length_le (by omega)]
      exact hend _ _
theorem apart_ev (a b : List S90) (ha : Fits a) (hb : Fits b) (ra : risB a = true) (rb : risB b = true) : Ev (fun k => journal_apart.f k a b) (!com a b) :=
  apart_loop a b ha hb (risG_all a none ra).2.2 (risG_all b none rb).2.2 (a.length + b.length) 0 0 (by omega) (by omega) (by omega)
theorem stands_loop (l : List S90) (hf : Fits l) (f : S90) (hf2 : f.f1.length ≤ 4611686018427387904) (m : Nat) : ∀ i : Nat, i + m = l.length → Ev (fun k => pedigreeref29_Stands.l0 k l (i : Int) f.f0 f.f1) ((l.drop i).any fun x => decide (cmpF x f = 0)) := by
  have hl := hf.1
  induction m with
  | zero =>
    intro i hi
    refine Ev.succ (Ev.congr (fun k => ?_) (Ev.const (o := some _) rfl))
    rw [pedigreeref29_Stands.l0, if_neg (by omega), List.drop_of_length_le (by omega)]
    rfl
  | succ m ih =>
    intro i hi
    apply Ev.succ
    have e1 : ∀ k, pedigreeref29_Stands.l0 (k + 1) l (i : Int) f.f0 f.f1 = _ := fun k => by rw [pedigreeref29_Stands.l0, if_pos (by omega), if_pos (by omega)]
    have hm := hf.2 _ (rd90_mem l i (by omega))
    refine Ev.congr e1 (Ev.bind (refCompareFacts_ev _ _ hm.1 hf2) ?_)
    rw [drop_rd90 l i (by omega), List.any_cons]
    by_cases z : cmpF (rd_T90 l i) f = 0
    · rw [decide_eq_true z, Bool.true_or]
      exact Ev.iteT z (Ev.const rfl)
    · rw [decide_eq_false z, Bool.false_or, w64 _ (by omega) (by omega)]
      exact Ev.iteF z (ih (i + 1) (by omega))
theorem good_loop (n : Int) (a b : List S90) (ha : Fits a) (hb : Fits b) (m : Nat) : ∀ i : Nat, i + m = a.length → Ev (fun k => pedigreeref29_Good.l0 k (i : Int) n a b) (!com (a.drop i) b) := by
  have hl := ha.1
  induction m with
  | zero =>
    intro i hi
    refine Ev.succ (Ev.congr (fun k => ?_) (Ev.const (o := some _) rfl))
    rw [pedigreeref29_Good.l0, if_neg (by omega), List.drop_of_length_le (by omega)]
    rfl
  | succ m ih =>
    intro i hi
    apply Ev.succ
    have e1 : ∀ k, pedigreeref29_Good.l0 (k + 1) (i : Int) n a b = _ := fun k => by rw [pedigreeref29_Good.l0, if_pos (by omega), if_pos (by omega)]
    have hm := ha.2 _ (rd90_mem a i (by omega))
    have hS : Ev (fun k => pedigreeref29_Stands.f k b (rd_T90 a i).f0 (rd_T90 a i).f1) (b.any fun x => decide (cmpF x (rd_T90 a i) = 0)) := stands_loop b hb (rd_T90 a i) hm.1 b.length 0 (by omega)
    refine Ev.congr e1 (Ev.bind hS ?_)
    rw [drop_rd90 a i (by omega)]
    have es : (b.any fun x => decide (cmpF x (rd_T90 a i) = 0)) = (b.any fun y => decide (cmpF (rd_T90 a i) y = 0)) := by
      congr 1
      funext y
      rw [to_F.anti (rd_T90 a i) y, decide_eq_decide]
      omega
    have ec : com (rd_T90 a i :: a.drop (i + 1)) b = ((b.any fun y => decide (cmpF (rd_T90 a i) y = 0)) || com (a.drop (i + 1)) b) := by unfold com; rw [List.any_cons]
    rw [es, ec]
    cases (b.any fun y => decide (cmpF (rd_T90 a i) y = 0)) with
    | true => exact Ev.iteT rfl (Ev.const rfl)
    | false =>
      rw [Bool.false_or, w64 _ (by omega) (by omega)]
      exact Ev.iteF (by decide) (ih (i + 1) (by omega))
def goodB (n : Int) (a b : List S90) : Bool := decide (1 ≤ n) && (risB a && (risB b && !com a b))
theorem Good_ev (n : Int) (a b : List S90) (ha : Fits a) (hb : Fits b) : Ev (fun k => pedigreeref29_Good.f k n a b) (goodB n a b) := by
  have hj : Ev (fun k => pedigreeref29_Good.j0 k true n a b) false := Ev.succ (Ev.congr (fun k => by rw [pedigreeref29_Good.j0, if_pos rfl]) (Ev.const rfl))
  unfold pedigreeref29_Good.f goodB
  by_cases c : 1 ≤ n
  · rw [decide_eq_true c, Bool.true_and]
    refine Ev.iteF (by omega) (Ev.bind (inOrder_ev a ha) ?_)
    cases risB a with
    | false => exact Ev.iteF (by decide) hj
    | true =>
      refine Ev.iteT rfl (Ev.bind (inOrder_ev b hb) ?_)
      cases risB b with
      | false => exact hj
      | true =>
        apply Ev.succ
        have e1 : ∀ k, pedigreeref29_Good.j0 (k + 1) (!true) n a b = _ := fun k => by rw [pedigreeref29_Good.j0, if_neg (by decide)]
        exact Ev.congr e1 (good_loop n a b ha hb a.length 0 (by omega))
  · rw [decide_eq_false c, Bool.false_and]
    exact Ev.iteT (by omega) hj
end Go.Proofs.J.Pure
end
section
namespace Go.Proofs.J.Pure
open Go.RowKit Go.Proofs.J.Print Go.Proofs.PrintWords Go.Proofs.PrintLast Go.Proofs.PrintMore
theorem encF_ge (f : S90) : f.f1.length + f.f0.size ≤ (encF f).length := by
  unfold encF
  have := flatV_len f.f1
  simp only [List.length_append, leB_len, lb_len]
  omega
theorem flat_mem {l : List S90} {f : S90} (h : f ∈ l) : (encF f).length ≤ (l.flatMap encF).length := by
  induction l with
  | nil => cases h
  | cons x l ih =>
    rw [List.flatMap_cons, List.length_append]
    rcases List.mem_cons.1 h with rfl | h
    · omega
    · have := ih h
      omega
theorem fits_of (l : List S90) (h : (encFs l).length ≤ 4611686018427387904) : Fits l := by
  unfold encFs at h
  rw [List.length_append, leB_len] at h
  have := flatF_len l
  refine ⟨by omega, fun f hf => ?_⟩
  have h1 := flat_mem hf
  have h2 := encF_ge f
  omega
theorem may_ok (f : S90) (h : mayB f = true) (hr : ∀ v ∈ f.f1, rngV v) : okF f := by
  unfold mayB at h
  simp only [Bool.and_eq_true, decide_eq_true_eq, List.all_eq_true] at h
  obtain ⟨h1, h2, h3⟩ := h
  have := name_len h1
  refine ⟨by omega, by omega, fun v hv => ⟨hr v hv, ?_⟩⟩
  have hc := h3 v hv
  unfold chkB at hc
  rw [decide_eq_true_eq] at hc
  rcases hc with ⟨c0, c2⟩ | ⟨c0, c1, c2⟩
  · exact Or.inl ⟨c0, lb_inj c2⟩
  · exact Or.inr ⟨c0, c1, by omega⟩
def bodyCom (x : Bs) : Option (Int × List S90 × List S90) :=
  match x with
  | [] => none
  | t :: r => if t = 67 then if 8 ≤ r.length then match sFs sV (r.drop 8) with
      | none => none
      | some (a, z) => if risB a = true then match sFs sV z with
        | none => none
        | some (b, w) => if risB b = true then if 1 ≤ wrap64 (leN (r.take 8) : Int) then if w.length = 0 then if com a b = false then some (wrap64 (leN (r.take 8) : Int), a, b) else none else none else none else none
        else none else none else none
def comL (l : Bs) : Option ((Int × List S90 × List S90) × ByteArray) := match bodyOf l with
  | none => none
  | some x => match bodyCom x with | none => none | some c => some (c, ob (l.drop (10 + x.length)))
theorem ok_fits {l : List S90} (h : ∀ f ∈ l, okF f) (hl : l.length < 4294967296) : Fits l := ⟨by omega, fun f hf => by have := h f hf; have h1 := this.1; have h2 := this.2.1; omega⟩
theorem ris_ev (fs : List S90) (h : ∀ f ∈ fs, okF f) (hl : fs.length < 4294967296) : Ev (fun k => journal_rising.f k fs) (risB fs) := rising_ev fs (ok_fits h hl)
theorem commitP_ev (b : ByteArray) (hb : b.size ≤ 140737488351232) : Ev (fun k => commitP.f k b) (comL (lb b)) := by
  unfold commitP.f comL
  refine Ev.bind (proBody_ev b hb) ?_
  cases hB : bodyOf (lb b) with
  | none => exact Ev.bindPn rfl
  | some x =>
    have hx := bodyOf_le hB
    refine Ev.bindPs (show proBody (lb b) (some x) = some (ob x, ob ((lb b).drop (10 + x.length))) from rfl) ?_
    dsimp only
    cases x with
    | nil => exact Ev.bindPn (pt_no [] 1 (by simp) 1 rfl)
    | cons t r =>
      refine Ev.bindPs (pt_yes (t :: r) 1 (by simp) 1 rfl) ?_
      have ht : (ob (List.take 1 (t :: r))).toList = [t] := ob_toList [t]
      simp only [bodyCom]
      by_cases t1 : t = 67
      · rw [if_pos t1]
        refine Ev.iteT (ht.trans (by rw [t1])) ?_
        by_cases h8 : 8 ≤ r.length
        · rw [if_pos h8]
          have e8 : (ob (r.take 8)).size = 8 := by rw [ob_size, List.length_take]; omega
          have hg := get64_ev _ e8
          rw [lb_ob] at hg
          refine Ev.bindPs (pt_yes r 8 h8 8 rfl) (Ev.bind hg ?_)
          have hr : ∀ fs : List S90, (∀ f ∈ fs, okF f) → fs.length < 4294967296 → Ev (fun k => journal_rising.f k fs) (risB fs) := fun fs h hl => ris_ev fs h hl
          refine Ev.bind (factsP_ev risB hr (r.drop 8)) ?_
          cases h1 : sFs sV (r.drop 8) with
          | none => exact Ev.bindPn rfl
          | some p =>
            obtain ⟨a, z⟩ := p
            have i1 := sFs_inv h1
            dsimp only
            by_cases ra : risB a = true
            · rw [if_pos ra, if_pos ra]
              refine Ev.bindPs rfl (Ev.bind (factsP_ev risB hr z) ?_)
              cases h2 : sFs sV z with
              | none => exact Ev.bindPn rfl
              | some p =>
                obtain ⟨b2, w⟩ := p
                have i2 := sFs_inv h2
                dsimp only
                by_cases rb : risB b2 = true
                · rw [if_pos rb, if_pos rb]
                  refine Ev.bindPs rfl ?_
                  by_cases hn : 1 ≤ wrap64 (leN (r.take 8) : Int)
                  · rw [if_pos hn]
                    refine Ev.iteF (by omega) ?_
                    by_cases hw : w.length = 0
                    · rw [if_pos hw]
                      refine Ev.iteT (by show ((ob w).size = 0); rw [ob_size]; exact hw) ?_
                      refine Ev.bind (apart_ev a b2 (ok_fits i1.2.1 i1.2.2.1) (ok_fits i2.2.1 i2.2.2.1) ra rb) ?_
                      by_cases hc : com a b2 = false
                      · rw [if_pos hc, hc]
                        exact Ev.iteT rfl (Ev.const rfl)
                      · have hc2 : com a b2 = true := by simpa using hc
                        rw [if_neg hc, hc2]
                        exact Ev.iteF (by decide) (Ev.const rfl)
                    · rw [if_neg hw]
                      exact Ev.iteF (by show ¬ ((ob w).size = 0); rw [ob_size]; exact hw) (Ev.const rfl)
                  · rw [if_neg hn]
                    exact Ev.iteT (by omega) (Ev.const rfl)
                · rw [if_neg rb, if_neg rb]
                  exact Ev.bindPn rfl
            · rw [if_neg ra, if_neg ra]
              exact Ev.bindPn rfl
        · rw [if_neg h8]
          exact Ev.bindPn (pt_no r 8 h8 8 rfl)
      · rw [if_neg t1]
        exact Ev.iteF (fun h => t1 (by have := ht.symm.trans h; simpa using this)) (Ev.const rfl)
theorem bodyCom_inv {x : Bs} {n : Int} {a b : List S90} (h : bodyCom x = some (n, a, b)) : ∃ r, x = 67 :: r ∧ 8 ≤ r.length ∧ n = wrap64 (leN (r.take 8) : Int) ∧ x = bodyL n a b ∧ goodB n a b = true ∧ (∃ z, sFs lV (r.drop 8) = some (a, z) ∧ sFs lV z = some (b, [])) ∧ (∀ f ∈ a, okF f) ∧ (∀ f ∈ b, okF f) := by
  unfold bodyCom at h
  split at h
  · cases h
  · rename_i t r
    split at h
    · rename_i ht
      subst ht
      split at h
      · rename_i h8
        split at h
        · cases h
        · rename_i a1 z1 h1
          split at h
          · rename_i ra
            split at h
            · cases h
            · rename_i b1 w1 h2
              split at h
              · rename_i rb
                split at h
                · rename_i hn
                  split at h
                  · rename_i hw
                    split at h
                    · rename_i hc
                      cases h
                      have i1 := sFs_inv h1
                      have i2 := sFs_inv h2
                      have hw0 : w1 = [] := List.length_eq_zero_iff.1 hw
                      subst hw0
                      have hlt := leN_lt (r.take 8)
                      have e8 : (r.take 8).length = 8 := by rw [List.length_take]; omega
                      rw [e8] at hlt
                      refine ⟨r, rfl, h8, rfl, ?_, ?_, ⟨z1, i1.2.2.2, i2.2.2.2⟩, i1.2.1, i2.2.1⟩
                      · unfold bodyL
                        rw [w64_u64 _ (by omega)]
                        have hB := leB_leN (r.take 8)
                        rw [e8] at hB
                        rw [hB]
                        congr 1
                        have := i2.1
                        rw [List.append_nil] at this
                        rw [← this, ← i1.1, List.take_append_drop]
                      · unfold goodB
                        rw [decide_eq_true hn, ra, rb, hc]
                        rfl
                    · cases h
                  · cases h
                · cases h
              · cases h
          · cases h
      · cases h
    · cases h
theorem bodyCom_mk {n : Int} {a b : List S90} (hn : -9223372036854775808 ≤ n ∧ n ≤ 9223372036854775807) (hg : goodB n a b = true) (ha : ∀ f ∈ a, okF f) (hb : ∀ f ∈ b, okF f) (hla : a.length < 4294967296) (hlb : b.length < 4294967296) : bodyCom (bodyL n a b) = some (n, a, b) := by
  unfold goodB at hg
  simp only [Bool.and_eq_true, decide_eq_true_eq, Bool.not_eq_true'] at hg
  obtain ⟨g1, g2, g3, g4⟩ := hg
  have hlen := leB_len 8 (u64n n)
  unfold bodyCom bodyL
  dsimp only
  rw [if_pos rfl, if_pos (by rw [List.length_append]; omega), app_drop _ _ hlen, app_take _ _ hlen, sFs_enc a _ ha hla, leN_leB, Nat.mod_eq_of_lt (u64n_lt _), u64_w64 _ hn]
  dsimp only
  rw [if_pos g2]
  have e2 := sFs_enc b [] hb hlb
  rw [List.append_nil] at e2
  rw [e2]
  dsimp only
  rw [if_pos g3, if_pos g1, if_pos (show ([] : Bs).length = 0 from rfl), if_pos g4]
abbrev RD := Int × (List (S90)) × (List (S90)) × Int × Int
def errD : RD := (0, [], [], 0, 290)
def decL (b : ByteArray) : RD := match comL (lb b) with
  | none => errD
  | some ((n, l1, l2), rest) => (n, l1, l2, wrap64 ((b.size : Int) - (rest.size : Int)), 0)
theorem refDecode_ev (b : ByteArray) (hb : b.size ≤ 140737488351232) : Ev (fun k => pedigreeref29_Decode.f k b) (decL b) := by
  have hl := lb_len b
  have hj : ∀ x, Ev (fun k => pedigreeref29_Decode.j0 k b x true) errD := fun x => Ev.succ (Ev.congr (fun k => by rw [pedigreeref29_Decode.j0, if_pos rfl]; rfl) (Ev.const (o := some errD) rfl))
  have hR := refBody_ev b hb
  unfold pedigreeref29_Decode.f
  refine Ev.bind hR ?_
  unfold decL comL
  cases hB : bodyOf (lb b) with
  | none => exact Ev.iteF (by simp [refBody]) (hj _)
  | some x =>
    have hx := bodyOf_le hB
    refine Ev.iteT rfl ?_
    show Ev (fun k => pedigreeref29_Decode.j0 k b (ob x) (decide (((ob x).size : Int) < 9))) _
    dsimp only
    rw [ob_size]
    by_cases h9 : x.length < 9
    · rw [decide_eq_true (show (x.length : Int) < 9 by omega)]
      have : bodyCom x = none := by
        cases hc : bodyCom x with
        | none => rfl
        | some c =>
          obtain ⟨n, a, bb⟩ := c
          obtain ⟨r, e, e8, _⟩ := bodyCom_inv hc
          rw [e, List.length_cons] at h9
          omega
      rw [this]
      exact hj _
    rw [decide_eq_false (show ¬ (x.length : Int) < 9 by omega)]
    apply Ev.succ
    have e1 : ∀ k, pedigreeref29_Decode.j0 (k + 1) b (ob x) false = _ := fun k => by rw [pedigreeref29_Decode.j0, if_neg (by decide), ob_size, if_pos (by omega)]
    refine Ev.congr e1 ?_
    have ex9 : (ob x).extract 9 x.length = ob (x.drop 9) := by apply lb_inj; rw [← ob_size x, lb_drop, lb_ob, lb_ob]
    have ex1 : (ob x).extract 1 9 = ob ((x.drop 1).take 8) := by apply lb_inj; rw [lb_extract, lb_ob, lb_ob]
    rw [ex9, ex1]
    have hF1 := ReadFacts_ev (x.drop 9)
    cases h1 : sFs lV (x.drop 9) with
    | none =>
      rw [h1] at hF1
      have : bodyCom x = none := by
        cases hc : bodyCom x with
        | none => rfl
        | some c =>
          obtain ⟨n, a, bb⟩ := c
          obtain ⟨r, e, e8, _, _, _, ⟨z, hz, _⟩, _⟩ := bodyCom_inv hc
          rw [e] at h1
          exact absurd (h1.symm.trans hz) (by simp)
      rw [this]
      exact Ev.bind hF1 (Ev.iteF (by decide) (Ev.const rfl))
    | some p =>
      obtain ⟨a, z⟩ := p
      rw [h1] at hF1
      have r1 := lFs_rng h1
      rw [List.length_drop] at r1
      have hF2 := ReadFacts_ev z
      refine Ev.bind hF1 (Ev.iteT rfl ?_)
      cases h2 : sFs lV z with
      | none =>
        rw [h2] at hF2
        have : bodyCom x = none := by
          cases hc : bodyCom x with
          | none => rfl
          | some c =>
            obtain ⟨n, a', bb⟩ := c
            obtain ⟨r, e, e8, _, _, _, ⟨z', hz, hz2⟩, _⟩ := bodyCom_inv hc
            rw [e] at h1
            have := h1.symm.trans hz
            simp only [Option.some.injEq, Prod.mk.injEq] at this
            rw [← this.2] at hz2
            exact absurd (h2.symm.trans hz2) (by simp)
        rw [this]
        exact Ev.bind hF2 (Ev.iteF (by decide) (Ev.const rfl))
      | some p =>
        obtain ⟨bb, w⟩ := p
        rw [h2] at hF2
        have r2 := lFs_rng h2
        refine Ev.bind hF2 (Ev.iteT rfl (Ev.iteT (by decide) ?_))
        have l8 : ((x.drop 1).take 8).length = 8 := by rw [List.length_take, List.length_drop]; omega
        have hN := Number_ev (ob ((x.drop 1).take 8)) (by rw [ob_size]; omega)
        rw [lb_ob] at hN
        have hlt := leN_lt ((x.drop 1).take 8)
        rw [l8] at hlt
        refine Ev.bind hN ?_
        generalize hn : wrap64 (leN ((x.drop 1).take 8) : Int) = n
        have hrn : -9223372036854775808 ≤ n ∧ n ≤ 9223372036854775807 := by rw [← hn]; exact rng_w64 _
        have fa : Fits a := fits_of a (by omega)
        have fb : Fits bb := fits_of bb (by omega)
        have hG := Good_ev n a bb fa fb
        have eBL : (bodyL n a bb).length = 1 + 8 + (encFs a).length + (encFs bb).length := by unfold bodyL; simp only [List.length_cons, List.length_append, leB_len]; omega
        have hE := Encode_ev n a bb _ hG (fun _ => by omega)
        refine Ev.bind hE ?_
        by_cases g : goodB n a bb = true
        · have hle : ¬ (bodyL n a bb).length > 16777216 := by omega
          rw [if_pos g, if_neg hle]
          refine Ev.iteT rfl ?_
          have sF : (ob (frL (bodyL n a bb))).size = 10 + (bodyL n a bb).length := by rw [ob_size, frL_len]
          by_cases c1 : 10 + (bodyL n a bb).length ≤ b.size
          · refine Ev.iteF (by show ¬ (((ob (frL (bodyL n a bb))).size : Int) > (b.size : Int)); rw [sF]; omega) (Ev.iteT (by omega) (Ev.iteT (by show ((ob (frL (bodyL n a bb))).size : Int) ≤ (b.size : Int); rw [sF]; omega) ?_))
            have oka : ∀ f ∈ a, okF f := by
              have gg := g
              unfold goodB at gg
              simp only [Bool.and_eq_true, decide_eq_true_eq, Bool.not_eq_true'] at gg
              exact fun f hf => may_ok f ((risG_all a none gg.2.1).1 f hf) (r1.1 f hf)
            have okb : ∀ f ∈ bb, okF f := by
              have gg := g
              unfold goodB at gg
              simp only [Bool.and_eq_true, decide_eq_true_eq, Bool.not_eq_true'] at gg
              exact fun f hf => may_ok f ((risG_all bb none gg.2.2.1).1 f hf) (r2.1 f hf)
            have hmk := bodyCom_mk hrn g oka okb r1.2.2 r2.2.2
            have eT : (b.extract 0 ((((ob (frL (bodyL n a bb))).size : Int) : Int)).toNat).toList = (lb b).take (10 + (bodyL n a bb).length) := by
              rw [lb_toList, lb_take, sF, Int.toNat_natCast]
            by_cases c2 : (lb b).take (10 + (bodyL n a bb).length) = frL (bodyL n a bb)
            · refine Ev.iteT (by show (b.extract 0 ((((ob (frL (bodyL n a bb))).size : Int) : Int)).toNat).toList = (ob (frL (bodyL n a bb))).toList; rw [eT, ob_toList]; exact c2) (Ev.const ?_)
              have eB2 := bodyOf_frL (bodyL n a bb) ((lb b).drop (10 + (bodyL n a bb).length)) (by omega)
              rw [← c2, List.take_append_drop, hB] at eB2
              have ex : x = bodyL n a bb := Option.some.inj eB2
              rw [ex, hmk]
              dsimp only
              rw [sF, ob_size, List.length_drop, hl, w64 _ (by omega) (by omega)]
              congr 5
              omega
            · refine Ev.iteF (by show ¬ (b.extract 0 ((((ob (frL (bodyL n a bb))).size : Int) : Int)).toNat).toList = (ob (frL (bodyL n a bb))).toList; rw [eT, ob_toList]; exact c2) (Ev.const ?_)
              have : bodyCom x = none := by
                cases hc : bodyCom x with
                | none => rfl
                | some c =>
                  exfalso
                  obtain ⟨n', a', bb'⟩ := c
                  obtain ⟨r, e, e8, en, ebl, _, ⟨z', hz, hz2⟩, _⟩ := bodyCom_inv hc
                  rw [e] at h1 hn
                  have q1 := h1.symm.trans hz
                  simp only [Option.some.injEq, Prod.mk.injEq] at q1
                  rw [← q1.2] at hz2
                  have q2 := h2.symm.trans hz2
                  simp only [Option.some.injEq, Prod.mk.injEq] at q2
                  have q3 : n' = n := en.trans hn
                  rw [← q1.1, ← q2.1, q3] at ebl
                  have hi := bodyOf_inv hB
                  rw [ebl] at hi
                  apply c2
                  rw [hi]
                  exact app_take _ _ (frL_len _)
              rw [this]
              rfl
          · refine Ev.iteT (by show ((ob (frL (bodyL n a bb))).size : Int) > (b.size : Int); rw [sF]; omega) (Ev.const ?_)
            have : bodyCom x = none := by
              cases hc : bodyCom x with
              | none => rfl
              | some c =>
                exfalso
                obtain ⟨n', a', bb'⟩ := c
                obtain ⟨r, e, e8, en, ebl, _, ⟨z', hz, hz2⟩, _⟩ := bodyCom_inv hc
                rw [e] at h1 hn
                have q1 := h1.symm.trans hz
                simp only [Option.some.injEq, Prod.mk.injEq] at q1
                rw [← q1.2] at hz2
                have q2 := h2.symm.trans hz2
                simp only [Option.some.injEq, Prod.mk.injEq] at q2
                have q3 : n' = n := en.trans hn
                rw [← q1.1, ← q2.1, q3] at ebl
                rw [← ebl] at c1
                omega
            rw [this]
            rfl
        · rw [if_neg g]
          refine Ev.iteF (by decide) (Ev.const ?_)
          have : bodyCom x = none := by
            cases hc : bodyCom x with
            | none => rfl
            | some c =>
              exfalso
              obtain ⟨n', a', bb'⟩ := c
              obtain ⟨r, e, e8, en, ebl, hgd, ⟨z', hz, hz2⟩, _⟩ := bodyCom_inv hc
              rw [e] at h1 hn
              have q1 := h1.symm.trans hz
              simp only [Option.some.injEq, Prod.mk.injEq] at q1
              rw [← q1.2] at hz2
              have q2 := h2.symm.trans hz2
              simp only [Option.some.injEq, Prod.mk.injEq] at q2
              have q3 : n' = n := en.trans hn
              rw [← q1.1, ← q2.1, q3] at hgd
              exact g hgd
          rw [this]
          rfl
end Go.Proofs.J.Pure
end
section
namespace Go.Proofs.J.Pure
open Go.RowKit Go.Proofs.J.Print Go.Proofs.PrintWords Go.Proofs.PrintLast Go.Proofs.PrintMore
theorem bn_one (x : Nat) : [(x : Int) % 256] = bn [UInt8.ofNat (x % 256)] := by
  simp [bn]
theorem put64_loop (n : Nat) (hn : n ≤ 8) (m : Nat) : ∀ (i x : Nat) (l : Bs), i + m = n → x < 18446744073709551616 → l.length + m ≤ 140737488355328 → Ev (fun k => journal_put_uint64.l0 k (bn l) (x : Int) (n : Int) (i : Int)) (bn (l ++ leB m x)) := by
  induction m with
  | zero =>
    intro i x l hi hx hl
    refine Ev.succ (Ev.congr (fun k => ?_) (Ev.const (o := some _) rfl))
    rw [journal_put_uint64.l0, if_neg (by omega)]
    simp [leB]
  | succ m ih =>
    intro i x l hi hx hl
    have h := ih (i + 1) (x / 256) (l ++ [UInt8.ofNat (x % 256)]) (by omega) (by omega) (by simp; omega)
    rw [List.append_assoc] at h
    refine Ev.succ (Ev.congr (fun k => ?_) h)
    rw [journal_put_uint64.l0, if_pos (by omega), if_pos (by rw [bn_len]; omega), bn_one, ← bn_append, w64 _ (by omega) (by omega)]
    rfl
theorem put32_loop (n : Nat) (hn : n ≤ 8) (m : Nat) : ∀ (i x : Nat) (l : Bs), i + m = n → x < 4294967296 → l.length + m ≤ 140737488355328 → Ev (fun k => journal_put_uint32.l0 k (bn l) (x : Int) (n : Int) (i : Int)) (bn (l ++ leB m x)) := by
  induction m with
  | zero =>
    intro i x l hi hx hl
    refine Ev.succ (Ev.congr (fun k => ?_) (Ev.const (o := some _) rfl))
    rw [journal_put_uint32.l0, if_neg (by omega)]
    simp [leB]
  | succ m ih =>
    intro i x l hi hx hl
    have h := ih (i + 1) (x / 256) (l ++ [UInt8.ofNat (x % 256)]) (by omega) (by omega) (by simp; omega)
    rw [List.append_assoc] at h
    refine Ev.succ (Ev.congr (fun k => ?_) h)
    have e : IntKind.u64.wrap (x : Int) / 256 % 4294967296 = ((x / 256 : Nat) : Int) := by rw [wraps_u64 _ (by omega) (by omega)]; omega
    rw [journal_put_uint32.l0, if_pos (by omega), if_pos (by rw [bn_len]; omega), bn_one, ← bn_append, w64 _ (by omega) (by omega), e]
    rfl
theorem put16_loop (n : Nat) (hn : n ≤ 8) (m : Nat) : ∀ (i x : Nat) (l : Bs), i + m = n → x < 65536 → l.length + m ≤ 140737488355328 → Ev (fun k => journal_put_uint16.l0 k (bn l) (x : Int) (n : Int) (i : Int)) (bn (l ++ leB m x)) := by
  induction m with
  | zero =>
    intro i x l hi hx hl
    refine Ev.succ (Ev.congr (fun k => ?_) (Ev.const (o := some _) rfl))
    rw [journal_put_uint16.l0, if_neg (by omega)]
    simp [leB]
  | succ m ih =>
    intro i x l hi hx hl
    have h := ih (i + 1) (x / 256) (l ++ [UInt8.ofNat (x % 256)]) (by omega) (by omega) (by simp; omega)
    rw [List.append_assoc] at h
    refine Ev.succ (Ev.congr (fun k => ?_) h)
    have e : IntKind.u16.wrap (IntKind.u64.wrap (x : Int) / 256) = ((x / 256 : Nat) : Int) := by rw [wraps_u64 _ (by omega) (by omega), wrap_u16]; omega
    rw [journal_put_uint16.l0, if_pos (by omega), if_pos (by rw [bn_len]; omega), bn_one, ← bn_append, w64 _ (by omega) (by omega), e]
    rfl
theorem put8_ev (x : Nat) (l : Bs) (hl : l.length < 140737488355328) : Ev (fun k => journal_put_uint8.f k (bn l) ((x : Int) % 256) 1) (bn (l ++ leB 1 x)) := by
  unfold journal_put_uint8.f
  apply Ev.succ
  have e1 : ∀ k, journal_put_uint8.l0 (k + 1) (bn l) ((x : Int) % 256) 1 0 = _ := fun k => by rw [journal_put_uint8.l0, if_pos (by omega), if_pos (by rw [bn_len]; omega), bn_one, ← bn_append, w64 _ (by omega) (by omega)]
  refine Ev.congr e1 (Ev.succ (Ev.congr (fun k => ?_) (Ev.const (o := some _) rfl)))
  rw [journal_put_uint8.l0, if_neg (by omega)]
  rfl
theorem bytesOf_bn (s : ByteArray) : bytesOf s = bn (lb s) := rfl
theorem putArgs_step (fs : List S90) (c x16 : Int) (args : List S85) (i : Nat) (hi : i < args.length) (hA : args.length ≤ 4611686018427387904) (l : Bs) (hl : l.length + (encV (rd_T85 args i)).length < 140737488355328) (v : List Int)
    (h : Ev (fun k => journal_putFacts.l1 k (bn (l ++ encV (rd_T85 args i))) fs c x16 args (args.length : Int) ((i + 1 : Nat) : Int)) v) :
    Ev (fun k => journal_putFacts.l1 k (bn l) fs c x16 args (args.length : Int) (i : Int)) v := by
  apply Ev.succ
  have ei : wrap64 ((i : Int) + 1) = ((i + 1 : Nat) : Int) := by rw [w64] <;> omega
  have e1 : ∀ k, journal_putFacts.l1 (k + 1) (bn l) fs c x16 args (args.length : Int) (i : Int) = _ := fun k => by rw [journal_putFacts.l1, if_pos (by omega), if_pos (by omega), if_pos (by omega), ei]
  refine Ev.congr e1 ?_
  clear e1
  unfold encV at hl h
  by_cases z : (rd_T85 args i).f0 = 1
  · rw [if_pos z] at hl h
    simp only [List.length_cons, leB_len] at hl
    have hp := put64_loop 8 (by omega) 8 0 (u64n (rd_T85 args i).f1) (l ++ [78]) (by omega) (u64n_lt _) (by simp; omega)
    rw [u64n_cast, bn_append, List.append_assoc] at hp
    exact Ev.iteT z (Ev.iteT (by rw [bn_len]; omega) (Ev.bind hp h))
  · rw [if_neg z] at hl h
    simp only [List.length_cons, List.length_append, leB_len, lb_len] at hl
    have hp := put8_ev (rd_T85 args i).f2.size (l ++ [84]) (by simp; omega)
    rw [bn_append l] at hp
    refine Ev.iteF z (Ev.iteT (by rw [bn_len]; omega) (Ev.bind hp (Ev.iteT (by rw [bn_len]; simp only [List.length_append, List.length_cons, List.length_nil, leB_len]; omega) ?_)))
    rw [bytesOf_bn, ← bn_append]
    simp only [List.append_assoc, List.cons_append, List.nil_append]
    exact h
theorem putArgs_loop (fs : List S90) (c : Int) (x16 : Int) (args : List S85) (hA : args.length ≤ 4611686018427387904) (v : List Int) (m : Nat) : ∀ (i : Nat) (l : Bs), i + m = args.length → l.length + ((args.drop i).flatMap encV).length < 140737488355328 →
    Ev (fun k => journal_putFacts.l0 k (bn (l ++ (args.drop i).flatMap encV)) fs c (wrap64 (x16 + 1))) v →
    Ev (fun k => journal_putFacts.l1 k (bn l) fs c x16 args (args.length : Int) (i : Int)) v := by
  induction m with
  | zero =>
    intro i l hi hl h
    rw [List.drop_of_length_le (by omega), List.flatMap_nil, List.append_nil] at h
    refine Ev.succ (Ev.congr (fun k => ?_) h)
    rw [journal_putFacts.l1, if_neg (by omega)]
  | succ m ih =>
    intro i l hi hl h
    have hd := drop_rd85 args i (by omega)
    rw [hd, List.flatMap_cons, List.length_append] at hl
    rw [hd, List.flatMap_cons, ← List.append_assoc] at h
    exact putArgs_step fs c x16 args i (by omega) hA l (by omega) v (ih (i + 1) _ (by omega) (by rw [List.length_append]; omega) h)
theorem putFacts_step (fs : List S90) (i : Nat) (hi : i < fs.length) (hF : Fits fs) (l : Bs) (hl : l.length + (encF (rd_T90 fs i)).length < 140737488355328) (v : List Int)
    (h : Ev (fun k => journal_putFacts.l0 k (bn (l ++ encF (rd_T90 fs i))) fs (fs.length : Int) ((i + 1 : Nat) : Int)) v) :
    Ev (fun k => journal_putFacts.l0 k (bn l) fs (fs.length : Int) (i : Int)) v := by
  have hfl := hF.1
  have hm := hF.2 _ (rd90_mem fs i hi)
  have ei : wrap64 ((i : Int) + 1) = ((i + 1 : Nat) : Int) := by rw [w64] <;> omega
  apply Ev.succ
  have e1 : ∀ k, journal_putFacts.l0 (k + 1) (bn l) fs (fs.length : Int) (i : Int) = _ := fun k => by rw [journal_putFacts.l0, if_pos (by omega), if_pos (by omega), if_pos (by omega)]
  refine Ev.congr e1 ?_
  clear e1
  unfold encF at hl h
  simp only [List.length_append, leB_len, lb_len] at hl
  have hp := put8_ev (rd_T90 fs i).f0.size l (by omega)
  refine Ev.bind hp (Ev.iteT (by rw [bn_len]; simp only [List.length_append, leB_len]; omega) ?_)
  rw [bytesOf_bn, ← bn_append]
  have hp2 := put8_ev (rd_T90 fs i).f1.length (l ++ leB 1 (rd_T90 fs i).f0.size ++ lb (rd_T90 fs i).f0) (by simp only [List.length_append, leB_len, lb_len]; omega)
  refine Ev.bind hp2 ?_
  refine putArgs_loop fs (fs.length : Int) (i : Int) (rd_T90 fs i).f1 hm.1 v (rd_T90 fs i).f1.length 0 _ (by omega) (by simp only [List.length_append, leB_len, lb_len, List.drop_zero]; omega) ?_
  rw [List.drop_zero, ei]
  simp only [List.append_assoc] at h ⊢
  exact h
theorem putFacts_loop (fs : List S90) (hF : Fits fs) (m : Nat) : ∀ (i : Nat) (l : Bs), i + m = fs.length → l.length + ((fs.drop i).flatMap encF).length < 140737488355328 →
    Ev (fun k => journal_putFacts.l0 k (bn l) fs (fs.length : Int) (i : Int)) (bn (l ++ (fs.drop i).flatMap encF)) := by
  induction m with
  | zero =>
    intro i l hi hl
    rw [List.drop_of_length_le (by omega), List.flatMap_nil, List.append_nil]
    refine Ev.succ (Ev.congr (fun k => ?_) (Ev.const (o := some _) rfl))
    rw [journal_putFacts.l0, if_neg (by omega)]
  | succ m ih =>
    intro i l hi hl
    have hd := drop_rd90 fs i (by omega)
    rw [hd, List.flatMap_cons, List.length_append] at hl
    rw [hd, List.flatMap_cons, ← List.append_assoc]
    exact putFacts_step fs i (by omega) hF l (by omega) _ (ih (i + 1) _ (by omega) (by rw [List.length_append]; omega))
theorem putFacts_ev (fs : List S90) (hF : Fits fs) (l : Bs) (hl : l.length + (encFs fs).length < 140737488355328) (h32 : fs.length < 4294967296) : Ev (fun k => journal_putFacts.f k (bn l) fs) (bn (l ++ encFs fs)) := by
  unfold encFs at hl ⊢
  rw [List.length_append, leB_len] at hl
  unfold journal_putFacts.f
  have hp := put32_loop 4 (by omega) 4 0 fs.length l (by omega) h32 (by omega)
  rw [show ((fs.length : Nat) : Int) = ((fs.length : Int)) % 4294967296 by omega] at hp
  refine Ev.bind hp ?_
  have h := putFacts_loop fs hF fs.length 0 (l ++ leB 4 fs.length) (by omega) (by rw [List.drop_zero, List.length_append, leB_len]; omega)
  rw [List.drop_zero, List.append_assoc] at h
  exact h
theorem tur_leB4 (n : Nat) (h : n < 4294967296) : leB 4 (4294967295 - n) = tur (leB 4 n) := by
  apply leN_inj (by rw [tur_len, leB_len, leB_len])
  rw [leN_leB, leN_tur, leN_leB, leB_len, Nat.mod_eq_of_lt (by omega), Nat.mod_eq_of_lt (by omega)]
theorem frame_ev (x : Bs) (h : x.length ≤ 16777216) : Ev (fun k => journal_frame.f k (bn x)) (ob (frL x)) := by
  unfold journal_frame.f
  have e0 : (((bn x).length : Nat) : Int) % 4294967296 = ((x.length : Nat) : Int) := by rw [bn_len]; omega
  rw [e0, not_u32 _ (by omega)]
  have h1 := put32_loop 4 (by omega) 4 0 x.length [] (by omega) (by omega) (by simp)
  rw [List.nil_append] at h1
  have h2 := put32_loop 4 (by omega) 4 0 (4294967295 - x.length) (leB 4 x.length) (by omega) (by omega) (by rw [leB_len]; omega)
  rw [tur_leB4 _ (by omega)] at h2
  have hS := Sum_ev1 (ob x) (by rw [ob_size]; omega)
  rw [lb_ob, ← str_bn] at hS
  have hc := crc_lt x
  have h3 := put16_loop 2 (by omega) 2 0 (crcL x) (leB 4 x.length ++ tur (leB 4 x.length) ++ x) (by omega) hc (by simp only [List.length_append, leB_len, tur_len]; omega)
  rw [bn_append _ x] at h3
  refine Ev.bind h1 (Ev.bind h2 (Ev.iteT (by rw [bn_len, bn_len]; simp only [List.length_append, leB_len, tur_len]; omega) (Ev.bind hS (Ev.bind h3 (Ev.const ?_)))))
  rw [str_bn]
  unfold frL
  simp only [List.append_assoc]
theorem proEncode_ev (n : Int) (a b : List S90) (ha : Fits a) (hb : Fits b) (h : (bodyL n a b).length ≤ 140737488351232) (h32 : a.length < 4294967296 ∧ b.length < 4294967296) :
    Ev (fun k => journal_Encode.f k n a b) (if goodB n a b = true then (if (bodyL n a b).length > 16777216 then (⟨#[]⟩, 30) else (ob (frL (bodyL n a b)), 0)) else (⟨#[]⟩, 1)) := by
  have hj : Ev (fun k => journal_Encode.j0 k true n a b) (⟨#[]⟩, 1) := Ev.succ (Ev.congr (fun k => by rw [journal_Encode.j0, if_pos rfl]) (Ev.const rfl))
  unfold journal_Encode.f goodB
  by_cases c : 1 ≤ n
  · rw [decide_eq_true c, Bool.true_and]
    refine Ev.iteF (by omega) (Ev.bind (rising_ev a ha) ?_)
    by_cases ra : risB a = true
    · refine Ev.iteT ra (Ev.bind (rising_ev b hb) ?_)
      by_cases rb : risB b = true
      · refine Ev.iteT rb (Ev.bind (apart_ev a b ha hb ra rb) ?_)
        rw [ra, rb, Bool.true_and, Bool.true_and]
        cases com a b with
        | true => exact hj
        | false =>
          apply Ev.succ
          have e1 : ∀ k, journal_Encode.j0 (k + 1) (!!false) n a b = _ := fun k => by rw [journal_Encode.j0, if_neg (by decide)]
          refine Ev.congr e1 ?_
          have e0 : (bodyL n a b).length = 1 + 8 + (encFs a).length + (encFs b).length := by unfold bodyL; simp only [List.length_cons, List.length_append, leB_len]; omega
          have h1 := put64_loop 8 (by omega) 8 0 (u64n n) [67] (by omega) (u64n_lt _) (by simp)
          rw [u64n_cast] at h1
          have h2 := putFacts_ev a ha ([67] ++ leB 8 (u64n n)) (by simp only [List.length_append, List.length_cons, List.length_nil, leB_len]; omega) h32.1
          have h3 := putFacts_ev b hb ([67] ++ leB 8 (u64n n) ++ encFs a) (by simp only [List.length_append, List.length_cons, List.length_nil, leB_len]; omega) h32.2
          have eb : [67] ++ leB 8 (u64n n) ++ encFs a ++ encFs b = bodyL n a b := by unfold bodyL; simp
          rw [eb] at h3
          refine Ev.bind h1 (Ev.bind h2 (Ev.bind h3 ?_))
          rw [bn_len, if_pos (show (!false) = true from rfl)]
          by_cases z : (bodyL n a b).length > 16777216
          · rw [if_pos z]
            exact Ev.iteT (by omega) (Ev.const rfl)
          · rw [if_neg z]
            exact Ev.iteF (by omega) (Ev.bind (frame_ev _ (by omega)) (Ev.const rfl))
      · have e : risB b = false := by simpa using rb
        rw [e, Bool.false_and, Bool.and_false]
        exact Ev.iteF (by decide) hj
    · have e : risB a = false := by simpa using ra
      rw [e, Bool.false_and]
      exact Ev.iteF (by decide) hj
  · rw [decide_eq_false c, Bool.false_and]
    exact Ev.iteT (by omega) hj
end Go.Proofs.J.Pure
end
section
namespace Go.Proofs.J.Pure
open Go.RowKit Go.Proofs.J.Print Go.Proofs.PrintWords Go.Proofs.PrintLast Go.Proofs.PrintMore
theorem sameV_loop (l : List S85) (hl : l.length ≤ 4611686018427387904) (m : Nat) : ∀ i : Nat, i + m = l.length → Ev (fun k => pedigreelaw01_SameValues.l0 k l l (i : Int)) true := by
  induction m with
  | zero =>
    intro i hi
    refine Ev.succ (Ev.congr (fun k => ?_) (Ev.const (o := some _) rfl))
    rw [pedigreelaw01_SameValues.l0, if_neg (by omega)]
  | succ m ih =>
    intro i hi
    apply Ev.succ
    have e1 : ∀ k, pedigreelaw01_SameValues.l0 (k + 1) l l (i : Int) = _ := fun k => by rw [pedigreelaw01_SameValues.l0, if_pos (by omega), if_pos (by omega), if_pos (by omega)]
    refine Ev.congr e1 (Ev.iteF (by simp) ?_)
    rw [w64 _ (by omega) (by omega)]
    exact ih (i + 1) (by omega)
theorem sameF_ev (f : S90) (hl : f.f1.length ≤ 4611686018427387904) : Ev (fun k => pedigreelaw01_SameFact.f k f.f0 f.f1 f.f0 f.f1) true := by
  unfold pedigreelaw01_SameFact.f pedigreelaw01_SameValues.f
  exact Ev.iteT rfl (Ev.bind (Ev.iteT rfl (sameV_loop f.f1 hl f.f1.length 0 (by omega))) (Ev.const rfl))
theorem sameFs_loop (l : List S90) (hf : Fits l) (m : Nat) : ∀ i : Nat, i + m = l.length → Ev (fun k => pedigreelaw01_SameFacts.l0 k l l (i : Int)) true := by
  have hl := hf.1
  induction m with
  | zero =>
    intro i hi
    refine Ev.succ (Ev.congr (fun k => ?_) (Ev.const (o := some _) rfl))
    rw [pedigreelaw01_SameFacts.l0, if_neg (by omega)]
  | succ m ih =>
    intro i hi
    apply Ev.succ
    have e1 : ∀ k, pedigreelaw01_SameFacts.l0 (k + 1) l l (i : Int) = _ := fun k => by rw [pedigreelaw01_SameFacts.l0, if_pos (by omega), if_pos (by omega), if_pos (by omega)]
    have hm := hf.2 _ (rd90_mem l i (by omega))
    refine Ev.congr e1 (Ev.bind (sameF_ev _ hm.1) (Ev.iteT rfl ?_))
    rw [w64 _ (by omega) (by omega)]
    exact ih (i + 1) (by omega)
theorem sameC_ev (n : Int) (a b : List S90) (ha : Fits a) (hb : Fits b) : Ev (fun k => pedigreelaw01_SameCommit.f k n a b n a b) true := by
  unfold pedigreelaw01_SameCommit.f pedigreelaw01_SameFacts.f
  exact Ev.iteT rfl (Ev.bind (Ev.iteT rfl (sameFs_loop a ha a.length 0 (by omega))) (Ev.iteT rfl (Ev.bind (Ev.iteT rfl (sameFs_loop b hb b.length 0 (by omega))) (Ev.const rfl))))
theorem bodyCom_fits {x : Bs} (hx : x.length ≤ 16777216) {n : Int} {a b : List S90} (h : bodyCom x = some (n, a, b)) : Fits a ∧ Fits b := by
  obtain ⟨r, e, e8, en, ebl, _⟩ := bodyCom_inv h
  have : (bodyL n a b).length = 1 + 8 + (encFs a).length + (encFs b).length := by unfold bodyL; simp only [List.length_cons, List.length_append, leB_len]; omega
  rw [← ebl] at this
  exact ⟨fits_of a (by omega), fits_of b (by omega)⟩
theorem decL_fits (b : ByteArray) : Fits (decL b).2.1 ∧ Fits (decL b).2.2.1 := by
  have h0 : Fits [] := ⟨by simp, by simp⟩
  unfold decL comL
  cases hB : bodyOf (lb b) with
  | none => exact ⟨h0, h0⟩
  | some x =>
    dsimp only
    cases hc : bodyCom x with
    | none => exact ⟨h0, h0⟩
    | some c =>
      obtain ⟨n, a, bb⟩ := c
      exact bodyCom_fits (bodyOf_le hB).1 hc
end Go.Proofs.J.Pure
end
section
namespace Go.Proofs.J.Pure
open Go.RowKit Go.Proofs.J.Print Go.Proofs.PrintWords Go.Proofs.PrintLast Go.Proofs.PrintMore
def liV : List S85 := [⟨1, -1, ⟨#[]⟩⟩, ⟨2, 0, ⟨#[97]⟩⟩]
def liF : List S90 := [⟨⟨#[112]⟩, liV⟩]
def liS : ByteArray := ob (frL (bodyL 3 liF []))
theorem li_name : nameB (⟨#[112]⟩ : ByteArray) = true := by
  unfold nameB
  rw [lb_toList]
  decide +kernel
theorem li_chk : liV.all chkB = true := by
  decide +kernel
theorem li_may : mayB ⟨⟨#[112]⟩, liV⟩ = true := by
  unfold mayB
  rw [li_name, li_chk]
  rfl
theorem li_ris : risB liF = true := by
  unfold risB liF
  simp only [risG, li_may]
  rfl
theorem li_good : goodB 3 liF [] = true := by
  unfold goodB
  rw [li_ris]
  rfl
theorem li_ok : ∀ f ∈ liF, okF f := by
  intro f hf
  have : f = ⟨⟨#[112]⟩, liV⟩ := by simpa [liF] using hf
  subst this
  refine may_ok _ li_may (fun v hv => ?_)
  simp only [liV, List.mem_cons, List.not_mem_nil, or_false] at hv
  rcases hv with rfl | rfl <;> simp [rngV]
theorem li_len : (bodyL 3 liF []).length = 32 := by decide +kernel
theorem li_fits : Fits liF := ok_fits li_ok (by decide)
theorem li_fits0 : Fits [] := ⟨by simp, by simp⟩
theorem li_size : liS.size = 42 := by
  unfold liS
  rw [ob_size, frL_len, li_len]
theorem li_enc : Ev (fun k => journal_Encode.f k 3 liF []) (liS, 0) := by
  have h := proEncode_ev 3 liF [] li_fits li_fits0 (by rw [li_len]; decide) ⟨by decide, by decide⟩
  rw [li_good, if_pos rfl, if_neg (by rw [li_len]; decide)] at h
  exact h
theorem li_dec : Ev (fun k => journal_Decode.f k liS) (3, liF, [], 42, 0) := by
  have hb : bodyOf (lb liS) = some (bodyL 3 liF []) := by
    have := bodyOf_frL (bodyL 3 liF []) [] (by rw [li_len]; decide)
    rw [List.append_nil] at this
    exact this
  have hc : bodyCom (bodyL 3 liF []) = some (3, liF, []) := bodyCom_mk (by decide) li_good li_ok (by simp) (by decide) (by decide)
  have h := commitP_ev liS (by rw [li_size]; decide)
  have e : comL (lb liS) = some ((3, liF, []), ob ((lb liS).drop (10 + 32))) := by
    unfold comL
    rw [hb]
    dsimp only
    rw [hc, li_len]
  rw [e] at h
  refine Ev.bind h (Ev.const ?_)
  show some (3, liF, [], wrap64 ((liS.size : Int) - ((ob ((lb liS).drop (10 + 32))).size : Int)), 0) = _
  rw [ob_size, List.length_drop, lb_len, li_size, w64 _ (by decide) (by decide)]
  rfl
theorem li_same : Ev (fun k => pedigreelaw01_SameCommit.f k 3 liF [] 3 liF []) true := sameC_ev 3 liF [] li_fits li_fits0
theorem li_sum : Ev (fun k => journal_Sum.f k (⟨#[49, 50, 51, 52, 53, 54, 55, 56, 57]⟩ : ByteArray)) 10673 := by
  have h := Sum_ev1 (⟨#[49, 50, 51, 52, 53, 54, 55, 56, 57]⟩ : ByteArray) (by decide)
  have e : crcL (lb (⟨#[49, 50, 51, 52, 53, 54, 55, 56, 57]⟩ : ByteArray)) = 10673 := by decide +kernel
  rw [e] at h
  exact h
end Go.Proofs.J.Pure
end
section
namespace Go.Proofs.J.Print
open Go.RowKit Go.Proofs.PrintWords Go.Proofs.PrintLast Go.Proofs.PrintMore
theorem blk_new1 (w : World) (o1 o2 : Obj) : ((w.alloc o1).alloc o2).heap[w.heap.size + 1]? = some o2 := by
  have h := blk_new (w.alloc o1) o2
  rwa [show (w.alloc o1).heap.size = w.heap.size + 1 by show (w.heap.push o1).size = _; exact Array.size_push _] at h
theorem blk_new2 (w : World) (o1 o2 o3 : Obj) : (((w.alloc o1).alloc o2).alloc o3).heap[w.heap.size + 1 + 1]? = some o3 := by
  have h := blk_new1 (w.alloc o1) o2 o3
  rwa [show (w.alloc o1).heap.size = w.heap.size + 1 by show (w.heap.push o1).size = _; exact Array.size_push _] at h
theorem li_C85 (w : World) (g : Nat) (h : w.heap[g]? = some (.cells #[.int .i8 1, .int .i64 (-1), .string (⟨#[]⟩ : ByteArray), .int .i8 2, .int .i64 0, .string (⟨#[97]⟩ : ByteArray)] 85 (0, 0))) : Kd.C k85 w (some ⟨g, 0, none⟩) Pure.liV.length Pure.liV := by
  have hc := fun i => blk_cell h i
  refine ⟨rfl, by decide, fun _ => ⟨_, rfl, fun j p hj => ?_⟩⟩
  match j, hj with
  | 0, hj =>
    simp only [Pure.liV, List.getElem?_cons_zero, Option.some.injEq] at hj
    subst hj
    refine ⟨_, rfl, k85_mk w _, fun i u hu => ?_⟩
    match i, hu with
    | 0, hu => simp at hu; subst hu; exact (hc 0).trans rfl
    | 1, hu => simp at hu; subst hu; exact (hc 1).trans rfl
    | 2, hu => simp at hu; subst hu; exact (hc 2).trans rfl
    | i + 3, hu => simp at hu
  | 1, hj =>
    simp only [Pure.liV, List.getElem?_cons_succ, List.getElem?_cons_zero, Option.some.injEq] at hj
    subst hj
    refine ⟨_, rfl, k85_mk w _, fun i u hu => ?_⟩
    match i, hu with
    | 0, hu => simp at hu; subst hu; exact (hc 3).trans rfl
    | 1, hu => simp at hu; subst hu; exact (hc 4).trans rfl
    | 2, hu => simp at hu; subst hu; exact (hc 5).trans rfl
    | i + 3, hu => simp at hu
  | j + 2, hj => simp [Pure.liV] at hj
theorem li_C90 (w : World) (gA gB : Nat) (hA : w.heap[gA]? = some (.cells #[.int .i8 1, .int .i64 (-1), .string (⟨#[]⟩ : ByteArray), .int .i8 2, .int .i64 0, .string (⟨#[97]⟩ : ByteArray)] 85 (0, 0)))
    (hB : w.heap[gB]? = some (.cells #[.string (⟨#[112]⟩ : ByteArray), .slice (some ⟨gA, 0, none⟩) 2 2] 90 (0, 0))) : Kd.C k90 w (some ⟨gB, 0, none⟩) Pure.liF.length Pure.liF := by
  have hc := fun i => blk_cell hB i
  have h85 := li_C85 w gA hA
  refine ⟨rfl, by decide, fun _ => ⟨_, rfl, fun j p hj => ?_⟩⟩
  match j, hj with
  | 0, hj =>
    simp only [Pure.liF, List.getElem?_cons_zero, Option.some.injEq] at hj
    subst hj
    refine ⟨_, rfl, k90_mk w (⟨⟨#[112]⟩, Pure.liV⟩ : S90) (A1 := some ⟨gA, 0, none⟩) (c1 := 2) (by decide) h85, fun i u hu => ?_⟩
    match i, hu with
    | 0, hu => simp at hu; subst hu; exact (hc 0).trans rfl
    | 1, hu => simp at hu; subst hu; exact (hc 1).trans rfl
    | i + 2, hu => simp at hu
  | j + 1, hj => simp [Pure.liF] at hj
theorem li_encode (w : World) (gA gB : Nat) (hA : w.heap[gA]? = some (.cells #[.int .i8 1, .int .i64 (-1), .string (⟨#[]⟩ : ByteArray), .int .i8 2, .int .i64 0, .string (⟨#[97]⟩ : ByteArray)] 85 (0, 0)))
    (hB : w.heap[gB]? = some (.cells #[.string (⟨#[112]⟩ : ByteArray), .slice (some ⟨gA, 0, none⟩) 2 2] 90 (0, 0))) :
    Calls Tryz.prog 9 #[.agg #[.int .i64 3, .slice (some ⟨gB, 0, none⟩) 1 1, .slice none 0 0]] w fun e w' => e = .returned (.tuple #[.string Pure.liS, .int .i64 0]) ∧ Below w.heap.size w w' := by
  obtain ⟨K, hK⟩ := Pure.li_enc
  exact journal_Encode.calls K 3 (some ⟨gB, 0, none⟩) 1 Pure.liF none 0 [] Pure.liS 0 w (li_C90 w gA gB hA hB) (by decide) (Kd.C_nil k90 w) (by decide) (hK K (Nat.le_refl _))
theorem li_samecall (w : World) (gA gB : Nat) (Ao1 Ao2 : Option Addr) (co1 co2 : Nat) (hA : w.heap[gA]? = some (.cells #[.int .i8 1, .int .i64 (-1), .string (⟨#[]⟩ : ByteArray), .int .i8 2, .int .i64 0, .string (⟨#[97]⟩ : ByteArray)] 85 (0, 0)))
    (hB : w.heap[gB]? = some (.cells #[.string (⟨#[112]⟩ : ByteArray), .slice (some ⟨gA, 0, none⟩) 2 2] 90 (0, 0)))
    (h1 : Pure.liF.length = Pure.liF.length ∧ Pure.liF.length ≤ co1 ∧ Kd.C k90 w Ao1 Pure.liF.length Pure.liF) (h2 : ([] : List S90).length = ([] : List S90).length ∧ ([] : List S90).length ≤ co2 ∧ Kd.C k90 w Ao2 ([] : List S90).length []) :
    Calls Tryz.prog 14 #[.agg #[.int .i64 3, .slice (some ⟨gB, 0, none⟩) 1 1, .slice none 0 0], .agg #[.int .i64 3, .slice Ao1 Pure.liF.length co1, .slice Ao2 0 co2]] w fun e w' => e = .returned (.bool true) ∧ Below w.heap.size w w' := by
  obtain ⟨K, hK⟩ := Pure.li_same
  exact pedigreelaw01_SameCommit.calls K 3 (some ⟨gB, 0, none⟩) 1 Pure.liF none 0 [] 3 Ao1 co1 Pure.liF Ao2 co2 [] true w (li_C90 w gA gB hA hB) (by decide) (Kd.C_nil k90 w) (by decide) h1.2.2 h1.2.1 h2.2.2 h2.2.1 (hK K (Nat.le_refl _))
def pedigreelaw29_lives.f : Option Bool := some true
set_option maxHeartbeats 8000000 in
set_option maxRecDepth 100000 in
theorem pedigreelaw29_lives.calls (r : Bool) (w : World) (h : pedigreelaw29_lives.f = some r) :
    Calls Tryz.prog 11 #[] w fun e w' => e = .returned (.bool r) ∧ Below w.heap.size w w' := by
  have hu24 := Tryz.underlying24
  unfold pedigreelaw29_lives.f at h
  simp only [Option.some.injEq] at h
  subst h
  obtain ⟨kD, hD0⟩ := Pure.li_dec
  have hD := Aside0.mk (hD0 kD (Nat.le_refl _))
  obtain ⟨kS, hS0⟩ := Pure.li_sum
  have hS := Aside0.mk (hS0 kS (Nat.le_refl _))
  clear hD0 hS0
  have hsz := Pure.li_size
  go_enter Tryz.func11, Tryz.ntmps11
  go_wp2_with (first | ((with_reducible refine gate_callee (f := 29) rfl ?_); refine goesS (some 10) Tryz.func29 #[.int .i64 (-1)] ?_; (with_reducible refine (num_calls (-1) _).mono ?_); rintro e wN ⟨rfl, hbN⟩; refine ⟨_, rfl, ?_⟩; have HBN := Aside0.mk hbN; clear hbN) | ((with_reducible refine gate_callee (f := 30) rfl ?_); refine goesS (some 11) Tryz.func30 #[.string (⟨#[97]⟩ : ByteArray)] ?_; (with_reducible refine (word_calls (⟨#[97]⟩ : ByteArray) _).mono ?_); rintro e wW ⟨rfl, hbW⟩; refine ⟨_, rfl, ?_⟩; have HBW := Aside0.mk (below_step HBN.out hbW); clear hbW HBN) | ((with_reducible refine gate_callee (f := 9) rfl ?_); refine goesS (some 18) Tryz.func9 #[.agg #[.int .i64 3, .slice (some ⟨wW.heap.size + 1, 0, none⟩) 1 1, .slice none 0 0]] ?_; have BA := Aside0.mk (blk_alloc (blk_alloc (blk_new wW (.cells #[.int .i8 1, .int .i64 (-1), .string (⟨#[]⟩ : ByteArray), .int .i8 2, .int .i64 0, .string (⟨#[97]⟩ : ByteArray)] 85)) (.cells #[.string (⟨#[112]⟩ : ByteArray), .slice (some ⟨wW.heap.size, 0, none⟩) 2 2] 90)) (.cells #[.int .i64 3, .slice (some ⟨wW.heap.size + 1, 0, none⟩) 1 1, .slice none 0 0] 24)); have BB := Aside0.mk (blk_alloc (blk_new1 wW (.cells #[.int .i8 1, .int .i64 (-1), .string (⟨#[]⟩ : ByteArray), .int .i8 2, .int .i64 0, .string (⟨#[97]⟩ : ByteArray)] 85) (.cells #[.string (⟨#[112]⟩ : ByteArray), .slice (some ⟨wW.heap.size, 0, none⟩) 2 2] 90)) (.cells #[.int .i64 3, .slice (some ⟨wW.heap.size + 1, 0, none⟩) 1 1, .slice none 0 0] 24)); have BC := Aside0.mk (blk_new2 wW (.cells #[.int .i8 1, .int .i64 (-1), .string (⟨#[]⟩ : ByteArray), .int .i8 2, .int .i64 0, .string (⟨#[97]⟩ : ByteArray)] 85) (.cells #[.string (⟨#[112]⟩ : ByteArray), .slice (some ⟨wW.heap.size, 0, none⟩) 2 2] 90) (.cells #[.int .i64 3, .slice (some ⟨wW.heap.size + 1, 0, none⟩) 1 1, .slice none 0 0] 24)); (with_reducible refine (li_encode _ _ _ BA.out BB.out).mono ?_); rintro e wE ⟨rfl, hb⟩; refine ⟨_, rfl, ?_⟩; have n1_ := Aside0.mk (blk_below BA.out hb); have n2_ := Aside0.mk (blk_below BB.out hb); have n3_ := Aside0.mk (blk_below BC.out hb); have HBE := Aside0.mk (below_step (below_alloc (below_alloc (below_alloc HBW.out (.cells #[.int .i8 1, .int .i64 (-1), .string (⟨#[]⟩ : ByteArray), .int .i8 2, .int .i64 0, .string (⟨#[97]⟩ : ByteArray)] 85)) (.cells #[.string (⟨#[112]⟩ : ByteArray), .slice (some ⟨wW.heap.size, 0, none⟩) 2 2] 90)) (.cells #[.int .i64 3, .slice (some ⟨wW.heap.size + 1, 0, none⟩) 1 1, .slice none 0 0] 24)) hb); clear BA BB BC HBW hb; have BA := n1_; have BB := n2_; have BC := n3_; clear n1_ n2_ n3_) | ((with_reducible refine gate_callee (f := 13) rfl ?_); refine goesS (some 23) Tryz.func13 #[.string Pure.liS] ?_; (with_reducible refine (journal_Decode.calls kD Pure.liS 3 Pure.liF [] 42 0 _ hD.out).mono ?_); rintro e wD ⟨v1, v2, rfl, hs1, hs2, hb⟩; refine ⟨_, rfl, ?_⟩; obtain ⟨Ao1, co1, eo1⟩ := Kd.S_slice hs1; subst eo1; obtain ⟨Ao2, co2, eo2⟩ := Kd.S_slice hs2; subst eo2; have HS1 := Aside0.mk hs1; have HS2 := Aside0.mk hs2; have n1_ := Aside0.mk (blk_below BA.out hb); have n2_ := Aside0.mk (blk_below BB.out hb); have n3_ := Aside0.mk (blk_below BC.out hb); have HBD := Aside0.mk (below_step HBE.out hb); clear BA BB BC HBE hb hs1 hs2; have BA := n1_; have BB := n2_; have BC := n3_; clear n1_ n2_ n3_) | ((with_reducible refine gate_callee (f := 31) rfl ?_); refine goesS (some 28) Tryz.func31 #[.string (⟨#[]⟩ : ByteArray)] ?_; (with_reducible refine (open_empty _).mono ?_); rintro e wO ⟨rfl, hb⟩; refine ⟨_, rfl, ?_⟩; have n1_ := Aside0.mk (blk_below (blk_alloc BA.out (.cells #[.int .i64 3, .slice Ao1 Pure.liF.length co1, .slice Ao2 0 co2] 24)) hb); have n2_ := Aside0.mk (blk_below (blk_alloc BB.out (.cells #[.int .i64 3, .slice Ao1 Pure.liF.length co1, .slice Ao2 0 co2] 24)) hb); have n3_ := Aside0.mk (blk_below (blk_alloc BC.out (.cells #[.int .i64 3, .slice Ao1 Pure.liF.length co1, .slice Ao2 0 co2] 24)) hb); have BD := Aside0.mk (blk_below (blk_new wD (.cells #[.int .i64 3, .slice Ao1 Pure.liF.length co1, .slice Ao2 0 co2] 24)) hb); have n4_ := Aside0.mk (Kd.S_below (Kd.S_alloc HS1.out (.cells #[.int .i64 3, .slice Ao1 Pure.liF.length co1, .slice Ao2 0 co2] 24)) hb); have n5_ := Aside0.mk (Kd.S_below (Kd.S_alloc HS2.out (.cells #[.int .i64 3, .slice Ao1 Pure.liF.length co1, .slice Ao2 0 co2] 24)) hb); have HBO := Aside0.mk (below_step (below_alloc HBD.out (.cells #[.int .i64 3, .slice Ao1 Pure.liF.length co1, .slice Ao2 0 co2] 24)) hb); clear BA BB BC HS1 HS2 HBD hb; have BA := n1_; have BB := n2_; have BC := n3_; have HS1 := n4_; have HS2 := n5_; clear n1_ n2_ n3_ n4_ n5_; have hcC0 : wO.cell? ⟨wW.heap.size + 1 + 1, 0, none⟩ = some (.int .i64 3) := (blk_cell BC.out 0).trans rfl; have hcC1 : wO.cell? ⟨wW.heap.size + 1 + 1, 1, none⟩ = some (.slice (some ⟨wW.heap.size + 1, 0, none⟩) 1 1) := (blk_cell BC.out 1).trans rfl; have hcC2 : wO.cell? ⟨wW.heap.size + 1 + 1, 2, none⟩ = some (.slice none 0 0) := (blk_cell BC.out 2).trans rfl; have hcD0 : wO.cell? ⟨wD.heap.size, 0, none⟩ = some (.int .i64 3) := (blk_cell BD.out 0).trans rfl; have hcD1 : wO.cell? ⟨wD.heap.size, 1, none⟩ = some (.slice Ao1 Pure.liF.length co1) := (blk_cell BD.out 1).trans rfl; have hcD2 : wO.cell? ⟨wD.heap.size, 2, none⟩ = some (.slice Ao2 0 co2) := (blk_cell BD.out 2).trans rfl) | ((with_reducible refine gate_callee (f := 14) rfl ?_); (try (refine gate_guard (by rfl) ?_; dsimp only)); refine goesS (some 51) Tryz.func14 #[.agg #[.int .i64 3, .slice (some ⟨wW.heap.size + 1, 0, none⟩) 1 1, .slice none 0 0], .agg #[.int .i64 3, .slice Ao1 Pure.liF.length co1, .slice Ao2 0 co2]] ?_; (with_reducible refine (li_samecall _ _ _ _ _ _ _ BA.out BB.out (Kd.S_reads' HS1.out) (Kd.S_reads' HS2.out)).mono ?_); rintro e wS ⟨rfl, hb⟩; refine ⟨_, rfl, ?_⟩; have HBS := Aside0.mk (below_step HBO.out hb); clear hb) | ((with_reducible refine gate_callee (f := 32) rfl ?_); (try (refine gate_guard (by rfl) ?_; dsimp only)); refine goesS (some 66) Tryz.func32 #[.string (⟨#[49, 50, 51, 52, 53, 54, 55, 56, 57]⟩ : ByteArray)] ?_; (with_reducible refine (journal_Sum.calls kS _ 10673 _ hS.out).mono ?_); rintro e w' ⟨rfl, ⟨nd, rfl⟩⟩; refine ⟨_, rfl, ?_⟩))
  go_ret
  exact ⟨rfl, pw_below_drewN HBS.out _⟩
end Go.Proofs.J.Print
end
section
namespace Go.Proofs.J.Print
open Go.RowKit Go.Proofs.PrintWords Go.Proofs.PrintLast Go.Proofs.PrintMore
def pedigreelaw29_JournalDecodes.f (k : Nat) (a0 : ByteArray) : Option (Bool) := (pedigreeref29_Decode.f k a0).bind fun bt199 => ((journal_Decode.f k a0).bind fun bt209 => ((pedigreelaw01_SameCommit.f k bt209.1 bt209.2.1 bt209.2.2.1 bt199.1 bt199.2.1 bt199.2.2.1).bind fun t219 => (if t219 = true then (if bt209.2.2.2.1 = bt199.2.2.2.1 then (if bt209.2.2.2.2 = bt199.2.2.2.2 then ((pedigreelaw29_lives.f).bind fun t220 => (some t220)) else (some false)) else (some false)) else (some false))))
set_option maxHeartbeats 8000000 in
set_option maxRecDepth 100000 in
theorem pedigreelaw29_JournalDecodes.calls (k : Nat) (a0 : ByteArray) (r : Bool) (w : World) (h : pedigreelaw29_JournalDecodes.f k a0 = some r) :
  Calls Tryz.prog 4 #[.string a0] w fun e w' => e = .returned (.bool r) ∧ Below w.heap.size w w' := by
 have hu24 := Tryz.underlying24
 have HB := Aside0.mk (Below.refl w.heap.size w)
 have H : ((pedigreeref29_Decode.f k a0).bind fun bt199 => ((journal_Decode.f k a0).bind fun bt209 => ((pedigreelaw01_SameCommit.f k bt209.1 bt209.2.1 bt209.2.2.1 bt199.1 bt199.2.1 bt199.2.2.1).bind fun t219 => (if t219 = true then (if bt209.2.2.2.1 = bt199.2.2.2.1 then (if bt209.2.2.2.2 = bt199.2.2.2.2 then ((pedigreelaw29_lives.f).bind fun t220 => (some t220)) else (some false)) else (some false)) else (some false))))) = some r := h
 clear h
 replace H := Option.bind_eq_some_iff.mp H
 obtain ⟨⟨t199, t200, t203, t206, t207⟩, A20, H⟩ := H
 replace H : ((journal_Decode.f k a0).bind fun bt209 => ((pedigreelaw01_SameCommit.f k bt209.1 bt209.2.1 bt209.2.2.1 t199 t200 t203).bind fun t219 => (if t219 = true then (if bt209.2.2.2.1 = t206 then (if bt209.2.2.2.2 = t207 then ((pedigreelaw29_lives.f).bind fun t220 => (some t220)) else (some false)) else (some false)) else (some false)))) = some r := H
 have A2 := Aside0.mk A20
 clear A20
 replace H := Option.bind_eq_some_iff.mp H
 obtain ⟨⟨t209, t210, t213, t216, t217⟩, A30, H⟩ := H
 replace H : ((pedigreelaw01_SameCommit.f k t209 t210 t213 t199 t200 t203).bind fun t219 => (if t219 = true then (if t216 = t206 then (if t217 = t207 then ((pedigreelaw29_lives.f).bind fun t220 => (some t220)) else (some false)) else (some false)) else (some false))) = some r := H
 have A3 := Aside0.mk A30
 clear A30
 replace H := Option.bind_eq_some_iff.mp H
 obtain ⟨t219, A40, H⟩ := H
 replace H : (if t219 = true then (if t216 = t206 then (if t217 = t207 then ((pedigreelaw29_lives.f).bind fun t220 => (some t220)) else (some false)) else (some false)) else (some false)) = some r := H
 have A4 := Aside0.mk A40
 clear A40
 by_cases c5 : t219 = true
 focus
  subst c5
  have H1 : (if t216 = t206 then (if t217 = t207 then ((pedigreelaw29_lives.f).bind fun t220 => (some t220)) else (some false)) else (some false)) = some r := by rw [if_pos rfl] at H; exact H
  clear H
  have H := H1
  clear H1
  by_cases c6 : t216 = t206
  focus
   rw [if_pos c6] at H
   have c6b0 : (t216 == t206) = true := beq_iff_eq.mpr c6
   have c6b1 : (t216 != t206) = false := bne_eq_false_iff_eq.mpr c6
   clear c6
   by_cases c7 : t217 = t207
   focus
    rw [if_pos c7] at H
    have c7b0 : (t217 == t207) = true := beq_iff_eq.mpr c7
    have c7b1 : (t217 != t207) = false := bne_eq_false_iff_eq.mpr c7
    clear c7
    replace H := Option.bind_eq_some_iff.mp H
    obtain ⟨t220, A80, H⟩ := H
    replace H : (some t220) = some r := H
    have A8 := Aside0.mk A80
    clear A80
    obtain rfl := Option.some.inj H
   rotate_right
   focus
    rw [if_neg c7] at H
    have c7b0 : (t217 == t207) = false := beq_eq_false_iff_ne.mpr c7
    have c7b1 : (t217 != t207) = true := bne_iff_ne.mpr c7
    obtain rfl := Option.some.inj H
  rotate_right
  focus
   rw [if_neg c6] at H
   have c6b0 : (t216 == t206) = false := beq_eq_false_iff_ne.mpr c6
   have c6b1 : (t216 != t206) = true := bne_iff_ne.mpr c6
   obtain rfl := Option.some.inj H
 rotate_right
 focus
  replace c5 := Bool.eq_false_iff.mpr c5
  subst c5
  have H1 : (some false) = some r := by rw [if_neg (show ¬ (false = true) by decide)] at H; exact H
  clear H
  have H := H1
  clear H1
  obtain rfl := Option.some.inj H
 all_goals (go_enter Tryz.func4, Tryz.ntmps4; go_wp2_with (first | ((with_reducible refine gate_callee (f := 12) rfl ?_); refine goesS (some 11) Tryz.func12 #[.string a0] ?_; (with_reducible refine (pedigreeref29_Decode.calls k a0 t199 t200 t203 t206 t207 _ A2.out).mono ?_); rintro e wq1 ⟨v201, v204, rfl, ho0, ho1, hb⟩; refine ⟨_, rfl, ?_⟩; have n0_ := Aside0.mk (Kd.S_lower ho0 (below_size (upB HB.out))); have n1_ := Aside0.mk (Kd.S_lower ho1 (below_size (upB HB.out))); have n2_ := Aside0.mk (below_step (upB HB.out) hb); clear HB; have HO202 := n0_; have HO205 := n1_; have HB := n2_; clear n0_ n1_ n2_; (try clear hb); (try clear hb2); (try clear hk); (try clear hi); (try clear ho0); (try clear ho1)) | ((with_reducible refine gate_dst (N := 3) rfl ?_); refine boxS 3 #[.int .i64 0, .slice none 0 0, .slice none 0 0] 24 ?_; intro gb208 hg wq2 hbox hb; have n0_ := Aside0.mk (Kd.S_below (upS HO202.out) hb); have n1_ := Aside0.mk (Kd.S_below (upS HO205.out) hb); have n2_ := Aside0.mk (below_step (upB HB.out) hb); have n3_ := Aside0.mk (hbox); have n4_ := Aside0.mk (geB hg (upB HB.out) : w.heap.size ≤ gb208); have n5_ := Aside0.mk (geB hg (upB HB.out) : w.heap.size ≤ gb208); clear HO202; clear HO205; clear HB; have HO202 := n0_; have HO205 := n1_; have HB := n2_; have BK208 := n3_; have GW208 := n4_; have GE208 := n5_; clear n0_ n1_ n2_ n3_ n4_ n5_; clear hb hbox hg; have hczq1_0 : wq2.cell? ⟨gb208, 0, none⟩ = some (.int .i64 0) := (blk_cell BK208.out 0).trans rfl; have hczq1_1 : wq2.cell? ⟨gb208, 1, none⟩ = some (.slice none 0 0) := (blk_cell BK208.out 1).trans rfl; have hczq1_2 : wq2.cell? ⟨gb208, 2, none⟩ = some (.slice none 0 0) := (blk_cell BK208.out 2).trans rfl; have hfzq1_0 := blk_frozen BK208.out 0; have hfzq1_1 := blk_frozen BK208.out 1; have hfzq1_2 := blk_frozen BK208.out 2; obtain ⟨Aoq1, coq1, eoq1⟩ := Kd.S_slice HO202.out; subst eoq1; obtain ⟨Aoq2, coq2, eoq2⟩ := Kd.S_slice HO205.out; subst eoq2) | ((with_reducible refine gate_callee (f := 13) rfl ?_); refine goesS (some 17) Tryz.func13 #[.string a0] ?_; (with_reducible refine (journal_Decode.calls k a0 t209 t210 t213 t216 t217 _ A3.out).mono ?_); rintro e wq3 ⟨v211, v214, rfl, ho0, ho1, hb⟩; refine ⟨_, rfl, ?_⟩; have n0_ := Aside0.mk (Kd.S_mono (Kd.S_told (Kd.S_told (Kd.S_old (by (with_reducible repeat (first | apply Kd.S_alloc | apply Kd.S_drewN | apply Kd.S_drew)); exact (Kd.S_mono (Kd.S_far (p := ⟨gb208, 2, none⟩) (Kd.S_far (p := ⟨gb208, 1, none⟩) (Kd.S_far (p := ⟨gb208, 0, none⟩) (Kd.S_types HO202.out BK208.out (by decide)) (fun _ hk => hk.2) (.int .i64 t199)) (fun _ hk => hk.2) (.slice Aoq1 t200.length coq1)) (fun _ hk => hk.2) (.slice Aoq2 t203.length coq2)) (fun _ h_ => h_.1))) hb) (Kd.S_base ho0)) (Kd.S_base ho1)) (fun _ h_ => h_.1)); have n1_ := Aside0.mk (Kd.S_mono (Kd.S_told (Kd.S_told (Kd.S_old (by (with_reducible repeat (first | apply Kd.S_alloc | apply Kd.S_drewN | apply Kd.S_drew)); exact (Kd.S_mono (Kd.S_far (p := ⟨gb208, 2, none⟩) (Kd.S_far (p := ⟨gb208, 1, none⟩) (Kd.S_far (p := ⟨gb208, 0, none⟩) (Kd.S_types HO205.out BK208.out (by decide)) (fun _ hk => hk.2) (.int .i64 t199)) (fun _ hk => hk.2) (.slice Aoq1 t200.length coq1)) (fun _ hk => hk.2) (.slice Aoq2 t203.length coq2)) (fun _ h_ => h_.1))) hb) (Kd.S_base ho0)) (Kd.S_base ho1)) (fun _ h_ => h_.1)); have n2_ := Aside0.mk (Kd.S_lower (Kd.S_new' (Kd.S_new' ho0 (Kd.S_lt (by (with_reducible repeat (first | apply Kd.S_alloc | apply Kd.S_drewN | apply Kd.S_drew)); exact (Kd.S_mono (Kd.S_far (p := ⟨gb208, 2, none⟩) (Kd.S_far (p := ⟨gb208, 1, none⟩) (Kd.S_far (p := ⟨gb208, 0, none⟩) (Kd.S_types HO202.out BK208.out (by decide)) (fun _ hk => hk.2) (.int .i64 t199)) (fun _ hk => hk.2) (.slice Aoq1 t200.length coq1)) (fun _ hk => hk.2) (.slice Aoq2 t203.length coq2)) (fun _ h_ => h_.1))))) (Kd.S_lt (by (with_reducible repeat (first | apply Kd.S_alloc | apply Kd.S_drewN | apply Kd.S_drew)); exact (Kd.S_mono (Kd.S_far (p := ⟨gb208, 2, none⟩) (Kd.S_far (p := ⟨gb208, 1, none⟩) (Kd.S_far (p := ⟨gb208, 0, none⟩) (Kd.S_types HO205.out BK208.out (by decide)) (fun _ hk => hk.2) (.int .i64 t199)) (fun _ hk => hk.2) (.slice Aoq1 t200.length coq1)) (fun _ hk => hk.2) (.slice Aoq2 t203.length coq2)) (fun _ h_ => h_.1))))) (below_size (upB HB.out))); have n3_ := Aside0.mk (Kd.S_lower (Kd.S_new' (Kd.S_new' ho1 (Kd.S_lt (by (with_reducible repeat (first | apply Kd.S_alloc | apply Kd.S_drewN | apply Kd.S_drew)); exact (Kd.S_mono (Kd.S_far (p := ⟨gb208, 2, none⟩) (Kd.S_far (p := ⟨gb208, 1, none⟩) (Kd.S_far (p := ⟨gb208, 0, none⟩) (Kd.S_types HO202.out BK208.out (by decide)) (fun _ hk => hk.2) (.int .i64 t199)) (fun _ hk => hk.2) (.slice Aoq1 t200.length coq1)) (fun _ hk => hk.2) (.slice Aoq2 t203.length coq2)) (fun _ h_ => h_.1))))) (Kd.S_lt (by (with_reducible repeat (first | apply Kd.S_alloc | apply Kd.S_drewN | apply Kd.S_drew)); exact (Kd.S_mono (Kd.S_far (p := ⟨gb208, 2, none⟩) (Kd.S_far (p := ⟨gb208, 1, none⟩) (Kd.S_far (p := ⟨gb208, 0, none⟩) (Kd.S_types HO205.out BK208.out (by decide)) (fun _ hk => hk.2) (.int .i64 t199)) (fun _ hk => hk.2) (.slice Aoq1 t200.length coq1)) (fun _ hk => hk.2) (.slice Aoq2 t203.length coq2)) (fun _ h_ => h_.1))))) (below_size (upB HB.out))); have n4_ := Aside0.mk (blk_below (g := gb208) (o := .cells #[.int .i64 t199, .slice Aoq1 t200.length coq1, .slice Aoq2 t203.length coq2] 24 (0, 0)) (by refine upO ?_; refine blk_put (cs := #[.int .i64 t199, .slice Aoq1 t200.length coq1, .slice none 0 0]) ?_ 2 _ rfl; refine upO ?_; refine blk_put (cs := #[.int .i64 t199, .slice none 0 0, .slice none 0 0]) ?_ 1 _ rfl; refine upO ?_; refine blk_put (cs := #[.int .i64 0, .slice none 0 0, .slice none 0 0]) ?_ 0 _ rfl; exact upO BK208.out) hb); have n5_ := Aside0.mk (below_step (upB HB.out) hb); clear HO202; clear HO205; clear BK208; clear HB; have HO202 := n0_; have HO205 := n1_; have HO212 := n2_; have HO215 := n3_; have BK208 := n4_; have HB := n5_; clear n0_ n1_ n2_ n3_ n4_ n5_; (try clear hb); (try clear hb2); (try clear hk); (try clear hi); (try clear ho0); (try clear ho1)) | ((with_reducible refine gate_dst (N := 6) rfl ?_); refine boxS 6 #[.int .i64 0, .slice none 0 0, .slice none 0 0] 24 ?_; intro gb218 hg wq4 hbox hb; have n0_ := Aside0.mk (Kd.S_below (upS HO202.out) hb); have n1_ := Aside0.mk (Kd.S_below (upS HO205.out) hb); have n2_ := Aside0.mk (Kd.S_below (upS HO212.out) hb); have n3_ := Aside0.mk (Kd.S_below (upS HO215.out) hb); have n4_ := Aside0.mk (blk_below (g := gb208) (o := .cells #[.int .i64 t199, .slice Aoq1 t200.length coq1, .slice Aoq2 t203.length coq2] 24 (0, 0)) (upO BK208.out) hb); have n5_ := Aside0.mk (below_step (upB HB.out) hb); have n6_ := Aside0.mk (hbox); have n7_ := Aside0.mk (geB hg (upB HB.out) : w.heap.size ≤ gb218); have n8_ := Aside0.mk (geB hg (upB HB.out) : w.heap.size ≤ gb218); have n9_ := Aside0.mk ((by rw [hg]; exact Nat.ne_of_lt (blk_lt (g := gb208) (o := .cells #[.int .i64 t199, .slice Aoq1 t200.length coq1, .slice Aoq2 t203.length coq2] 24 (0, 0)) (upO BK208.out)) : gb208 ≠ gb218)); have n10_ := Aside0.mk ((by rw [hg]; exact Nat.ne_of_gt (blk_lt (g := gb208) (o := .cells #[.int .i64 t199, .slice Aoq1 t200.length coq1, .slice Aoq2 t203.length coq2] 24 (0, 0)) (upO BK208.out)) : gb218 ≠ gb208)); clear HO202; clear HO205; clear HO212; clear HO215; clear BK208; clear HB; have HO202 := n0_; have HO205 := n1_; have HO212 := n2_; have HO215 := n3_; have BK208 := n4_; have HB := n5_; have BK218 := n6_; have GW218 := n7_; have GE218 := n8_; have NB208_218 := n9_; have NB218_208 := n10_; clear n0_ n1_ n2_ n3_ n4_ n5_ n6_ n7_ n8_ n9_ n10_; clear hb hbox hg; have hnbq1 := NB218_208.out; have hncq1 := NB208_218.out; have hczq2_0 : wq4.cell? ⟨gb218, 0, none⟩ = some (.int .i64 0) := (blk_cell BK218.out 0).trans rfl; have hczq2_1 : wq4.cell? ⟨gb218, 1, none⟩ = some (.slice none 0 0) := (blk_cell BK218.out 1).trans rfl; have hczq2_2 : wq4.cell? ⟨gb218, 2, none⟩ = some (.slice none 0 0) := (blk_cell BK218.out 2).trans rfl; have hfzq2_0 := blk_frozen BK218.out 0; have hfzq2_1 := blk_frozen BK218.out 1; have hfzq2_2 := blk_frozen BK218.out 2; obtain ⟨Aoq3, coq3, eoq3⟩ := Kd.S_slice HO212.out; subst eoq3; obtain ⟨Aoq4, coq4, eoq4⟩ := Kd.S_slice HO215.out; subst eoq4; have hczq3_0 : wq4.cell? ⟨gb208, 0, none⟩ = some (.int .i64 t199) := (blk_cell BK208.out 0).trans rfl; have hczq3_1 : wq4.cell? ⟨gb208, 1, none⟩ = some (.slice Aoq1 t200.length coq1) := (blk_cell BK208.out 1).trans rfl; have hczq3_2 : wq4.cell? ⟨gb208, 2, none⟩ = some (.slice Aoq2 t203.length coq2) := (blk_cell BK208.out 2).trans rfl; have hfzq3_0 := blk_frozen BK208.out 0; have hfzq3_1 := blk_frozen BK208.out 1; have hfzq3_2 := blk_frozen BK208.out 2) | ((with_reducible refine gate_callee (f := 14) rfl ?_); refine goesS (some 23) Tryz.func14 #[.agg #[.int .i64 t209, .slice Aoq3 t210.length coq3, .slice Aoq4 t213.length coq4], .agg #[.int .i64 t199, .slice Aoq1 t200.length coq1, .slice Aoq2 t203.length coq2]] ?_; (with_reducible refine (pedigreelaw01_SameCommit.calls k t209 _ _ t210 _ _ t213 t199 _ _ t200 _ _ t203 false _ ?side1 ?side2 ?side3 ?side4 ?side5 ?side6 ?side7 ?side8 A4.out).mono ?_); (case side1 => refine (Kd.S_reads' (e := 90) (base := w.heap.size) (ok := fun k_ => ((some k_ ≠ (.slice Aoq4 t213.length coq4 : Value).ownBlock ∧ some k_ ≠ (.slice Aoq1 t200.length coq1 : Value).ownBlock) ∧ some k_ ≠ (.slice Aoq2 t203.length coq2 : Value).ownBlock)) (n := t210.length) (c := coq3) ?_).2.2; exact (by (with_reducible repeat (first | apply Kd.S_alloc | apply Kd.S_drewN | apply Kd.S_drew)); exact (Kd.S_mono (Kd.S_far (p := ⟨gb218, 2, none⟩) (Kd.S_far (p := ⟨gb218, 1, none⟩) (Kd.S_far (p := ⟨gb218, 0, none⟩) (Kd.S_types HO212.out BK218.out (by decide)) (fun _ hk => hk.2) (.int .i64 t209)) (fun _ hk => hk.2) (.slice Aoq3 t210.length coq3)) (fun _ hk => hk.2) (.slice Aoq4 t213.length coq4)) (fun _ h_ => h_.1)))); (case side2 => exact (Kd.S_reads' HO212.out).2.1); (case side3 => refine (Kd.S_reads' (e := 90) (base := w.heap.size) (ok := fun k_ => ((some k_ ≠ (.slice Aoq3 t210.length coq3 : Value).ownBlock ∧ some k_ ≠ (.slice Aoq1 t200.length coq1 : Value).ownBlock) ∧ some k_ ≠ (.slice Aoq2 t203.length coq2 : Value).ownBlock)) (n := t213.length) (c := coq4) ?_).2.2; exact (by (with_reducible repeat (first | apply Kd.S_alloc | apply Kd.S_drewN | apply Kd.S_drew)); exact (Kd.S_mono (Kd.S_far (p := ⟨gb218, 2, none⟩) (Kd.S_far (p := ⟨gb218, 1, none⟩) (Kd.S_far (p := ⟨gb218, 0, none⟩) (Kd.S_types HO215.out BK218.out (by decide)) (fun _ hk => hk.2) (.int .i64 t209)) (fun _ hk => hk.2) (.slice Aoq3 t210.length coq3)) (fun _ hk => hk.2) (.slice Aoq4 t213.length coq4)) (fun _ h_ => h_.1)))); (case side4 => exact (Kd.S_reads' HO215.out).2.1); (case side5 => refine (Kd.S_reads' (e := 90) (base := w.heap.size) (ok := fun k_ => ((some k_ ≠ (.slice Aoq2 t203.length coq2 : Value).ownBlock ∧ some k_ ≠ (.slice Aoq3 t210.length coq3 : Value).ownBlock) ∧ some k_ ≠ (.slice Aoq4 t213.length coq4 : Value).ownBlock)) (n := t200.length) (c := coq1) ?_).2.2; exact (by (with_reducible repeat (first | apply Kd.S_alloc | apply Kd.S_drewN | apply Kd.S_drew)); exact (Kd.S_mono (Kd.S_far (p := ⟨gb218, 2, none⟩) (Kd.S_far (p := ⟨gb218, 1, none⟩) (Kd.S_far (p := ⟨gb218, 0, none⟩) (Kd.S_types HO202.out BK218.out (by decide)) (fun _ hk => hk.2) (.int .i64 t209)) (fun _ hk => hk.2) (.slice Aoq3 t210.length coq3)) (fun _ hk => hk.2) (.slice Aoq4 t213.length coq4)) (fun _ h_ => h_.1)))); (case side6 => exact (Kd.S_reads' HO202.out).2.1); (case side7 => refine (Kd.S_reads' (e := 90) (base := w.heap.size) (ok := fun k_ => ((some k_ ≠ (.slice Aoq1 t200.length coq1 : Value).ownBlock ∧ some k_ ≠ (.slice Aoq3 t210.length coq3 : Value).ownBlock) ∧ some k_ ≠ (.slice Aoq4 t213.length coq4 : Value).ownBlock)) (n := t203.length) (c := coq2) ?_).2.2; exact (by (with_reducible repeat (first | apply Kd.S_alloc | apply Kd.S_drewN | apply Kd.S_drew)); exact (Kd.S_mono (Kd.S_far (p := ⟨gb218, 2, none⟩) (Kd.S_far (p := ⟨gb218, 1, none⟩) (Kd.S_far (p := ⟨gb218, 0, none⟩) (Kd.S_types HO205.out BK218.out (by decide)) (fun _ hk => hk.2) (.int .i64 t209)) (fun _ hk => hk.2) (.slice Aoq3 t210.length coq3)) (fun _ hk => hk.2) (.slice Aoq4 t213.length coq4)) (fun _ h_ => h_.1)))); (case side8 => exact (Kd.S_reads' HO205.out).2.1); rintro e wq5 ⟨rfl, hb⟩; refine ⟨_, rfl, ?_⟩; have n0_ := Aside0.mk (Kd.S_below (by (with_reducible repeat (first | apply Kd.S_alloc | apply Kd.S_drewN | apply Kd.S_drew)); exact (Kd.S_mono (Kd.S_far (p := ⟨gb218, 2, none⟩) (Kd.S_far (p := ⟨gb218, 1, none⟩) (Kd.S_far (p := ⟨gb218, 0, none⟩) (Kd.S_types HO202.out BK218.out (by decide)) (fun _ hk => hk.2) (.int .i64 t209)) (fun _ hk => hk.2) (.slice Aoq3 t210.length coq3)) (fun _ hk => hk.2) (.slice Aoq4 t213.length coq4)) (fun _ h_ => h_.1))) hb); have n1_ := Aside0.mk (Kd.S_below (by (with_reducible repeat (first | apply Kd.S_alloc | apply Kd.S_drewN | apply Kd.S_drew)); exact (Kd.S_mono (Kd.S_far (p := ⟨gb218, 2, none⟩) (Kd.S_far (p := ⟨gb218, 1, none⟩) (Kd.S_far (p := ⟨gb218, 0, none⟩) (Kd.S_types HO205.out BK218.out (by decide)) (fun _ hk => hk.2) (.int .i64 t209)) (fun _ hk => hk.2) (.slice Aoq3 t210.length coq3)) (fun _ hk => hk.2) (.slice Aoq4 t213.length coq4)) (fun _ h_ => h_.1))) hb); have n2_ := Aside0.mk (Kd.S_below (by (with_reducible repeat (first | apply Kd.S_alloc | apply Kd.S_drewN | apply Kd.S_drew)); exact (Kd.S_mono (Kd.S_far (p := ⟨gb218, 2, none⟩) (Kd.S_far (p := ⟨gb218, 1, none⟩) (Kd.S_far (p := ⟨gb218, 0, none⟩) (Kd.S_types HO212.out BK218.out (by decide)) (fun _ hk => hk.2) (.int .i64 t209)) (fun _ hk => hk.2) (.slice Aoq3 t210.length coq3)) (fun _ hk => hk.2) (.slice Aoq4 t213.length coq4)) (fun _ h_ => h_.1))) hb); have n3_ := Aside0.mk (Kd.S_below (by (with_reducible repeat (first | apply Kd.S_alloc | apply Kd.S_drewN | apply Kd.S_drew)); exact (Kd.S_mono (Kd.S_far (p := ⟨gb218, 2, none⟩) (Kd.S_far (p := ⟨gb218, 1, none⟩) (Kd.S_far (p := ⟨gb218, 0, none⟩) (Kd.S_types HO215.out BK218.out (by decide)) (fun _ hk => hk.2) (.int .i64 t209)) (fun _ hk => hk.2) (.slice Aoq3 t210.length coq3)) (fun _ hk => hk.2) (.slice Aoq4 t213.length coq4)) (fun _ h_ => h_.1))) hb); have n4_ := Aside0.mk (blk_below (g := gb208) (o := .cells #[.int .i64 t199, .slice Aoq1 t200.length coq1, .slice Aoq2 t203.length coq2] 24 (0, 0)) (by refine upO ?_; refine blk_far ?_ NB208_218.out _; refine upO ?_; refine blk_far ?_ NB208_218.out _; refine upO ?_; refine blk_far ?_ NB208_218.out _; exact upO BK208.out) hb); have n5_ := Aside0.mk (blk_below (g := gb218) (o := .cells #[.int .i64 t209, .slice Aoq3 t210.length coq3, .slice Aoq4 t213.length coq4] 24 (0, 0)) (by refine upO ?_; refine blk_put (cs := #[.int .i64 t209, .slice Aoq3 t210.length coq3, .slice none 0 0]) ?_ 2 _ rfl; refine upO ?_; refine blk_put (cs := #[.int .i64 t209, .slice none 0 0, .slice none 0 0]) ?_ 1 _ rfl; refine upO ?_; refine blk_put (cs := #[.int .i64 0, .slice none 0 0, .slice none 0 0]) ?_ 0 _ rfl; exact upO BK218.out) hb); have n6_ := Aside0.mk (below_step (upB HB.out) hb); clear HO202; clear HO205; clear HO212; clear HO215; clear BK208; clear BK218; clear HB; have HO202 := n0_; have HO205 := n1_; have HO212 := n2_; have HO215 := n3_; have BK208 := n4_; have BK218 := n5_; have HB := n6_; clear n0_ n1_ n2_ n3_ n4_ n5_ n6_; (try clear hb); (try clear hb2); (try clear hk); (try clear hi)) | ((with_reducible refine gate_callee (f := 14) rfl ?_); refine goesS (some 23) Tryz.func14 #[.agg #[.int .i64 t209, .slice Aoq3 t210.length coq3, .slice Aoq4 t213.length coq4], .agg #[.int .i64 t199, .slice Aoq1 t200.length coq1, .slice Aoq2 t203.length coq2]] ?_; (with_reducible refine (pedigreelaw01_SameCommit.calls k t209 _ _ t210 _ _ t213 t199 _ _ t200 _ _ t203 true _ ?side1 ?side2 ?side3 ?side4 ?side5 ?side6 ?side7 ?side8 A4.out).mono ?_); (case side1 => refine (Kd.S_reads' (e := 90) (base := w.heap.size) (ok := fun k_ => ((some k_ ≠ (.slice Aoq4 t213.length coq4 : Value).ownBlock ∧ some k_ ≠ (.slice Aoq1 t200.length coq1 : Value).ownBlock) ∧ some k_ ≠ (.slice Aoq2 t203.length coq2 : Value).ownBlock)) (n := t210.length) (c := coq3) ?_).2.2; exact (by (with_reducible repeat (first | apply Kd.S_alloc | apply Kd.S_drewN | apply Kd.S_drew)); exact (Kd.S_mono (Kd.S_far (p := ⟨gb218, 2, none⟩) (Kd.S_far (p := ⟨gb218, 1, none⟩) (Kd.S_far (p := ⟨gb218, 0, none⟩) (Kd.S_types HO212.out BK218.out (by decide)) (fun _ hk => hk.2) (.int .i64 t209)) (fun _ hk => hk.2) (.slice Aoq3 t210.length coq3)) (fun _ hk => hk.2) (.slice Aoq4 t213.length coq4)) (fun _ h_ => h_.1)))); (case side2 => exact (Kd.S_reads' HO212.out).2.1); (case side3 => refine (Kd.S_reads' (e := 90) (base := w.heap.size) (ok := fun k_ => ((some k_ ≠ (.slice Aoq3 t210.length coq3 : Value).ownBlock ∧ some k_ ≠ (.slice Aoq1 t200.length coq1 : Value).ownBlock) ∧ some k_ ≠ (.slice Aoq2 t203.length coq2 : Value).ownBlock)) (n := t213.length) (c := coq4) ?_).2.2; exact (by (with_reducible repeat (first | apply Kd.S_alloc | apply Kd.S_drewN | apply Kd.S_drew)); exact (Kd.S_mono (Kd.S_far (p := ⟨gb218, 2, none⟩) (Kd.S_far (p := ⟨gb218, 1, none⟩) (Kd.S_far (p := ⟨gb218, 0, none⟩) (Kd.S_types HO215.out BK218.out (by decide)) (fun _ hk => hk.2) (.int .i64 t209)) (fun _ hk => hk.2) (.slice Aoq3 t210.length coq3)) (fun _ hk => hk.2) (.slice Aoq4 t213.length coq4)) (fun _ h_ => h_.1)))); (case side4 => exact (Kd.S_reads' HO215.out).2.1); (case side5 => refine (Kd.S_reads' (e := 90) (base := w.heap.size) (ok := fun k_ => ((some k_ ≠ (.slice Aoq2 t203.length coq2 : Value).ownBlock ∧ some k_ ≠ (.slice Aoq3 t210.length coq3 : Value).ownBlock) ∧ some k_ ≠ (.slice Aoq4 t213.length coq4 : Value).ownBlock)) (n := t200.length) (c := coq1) ?_).2.2; exact (by (with_reducible repeat (first | apply Kd.S_alloc | apply Kd.S_drewN | apply Kd.S_drew)); exact (Kd.S_mono (Kd.S_far (p := ⟨gb218, 2, none⟩) (Kd.S_far (p := ⟨gb218, 1, none⟩) (Kd.S_far (p := ⟨gb218, 0, none⟩) (Kd.S_types HO202.out BK218.out (by decide)) (fun _ hk => hk.2) (.int .i64 t209)) (fun _ hk => hk.2) (.slice Aoq3 t210.length coq3)) (fun _ hk => hk.2) (.slice Aoq4 t213.length coq4)) (fun _ h_ => h_.1)))); (case side6 => exact (Kd.S_reads' HO202.out).2.1); (case side7 => refine (Kd.S_reads' (e := 90) (base := w.heap.size) (ok := fun k_ => ((some k_ ≠ (.slice Aoq1 t200.length coq1 : Value).ownBlock ∧ some k_ ≠ (.slice Aoq3 t210.length coq3 : Value).ownBlock) ∧ some k_ ≠ (.slice Aoq4 t213.length coq4 : Value).ownBlock)) (n := t203.length) (c := coq2) ?_).2.2; exact (by (with_reducible repeat (first | apply Kd.S_alloc | apply Kd.S_drewN | apply Kd.S_drew)); exact (Kd.S_mono (Kd.S_far (p := ⟨gb218, 2, none⟩) (Kd.S_far (p := ⟨gb218, 1, none⟩) (Kd.S_far (p := ⟨gb218, 0, none⟩) (Kd.S_types HO205.out BK218.out (by decide)) (fun _ hk => hk.2) (.int .i64 t209)) (fun _ hk => hk.2) (.slice Aoq3 t210.length coq3)) (fun _ hk => hk.2) (.slice Aoq4 t213.length coq4)) (fun _ h_ => h_.1)))); (case side8 => exact (Kd.S_reads' HO205.out).2.1); rintro e wq5 ⟨rfl, hb⟩; refine ⟨_, rfl, ?_⟩; have n0_ := Aside0.mk (Kd.S_below (by (with_reducible repeat (first | apply Kd.S_alloc | apply Kd.S_drewN | apply Kd.S_drew)); exact (Kd.S_mono (Kd.S_far (p := ⟨gb218, 2, none⟩) (Kd.S_far (p := ⟨gb218, 1, none⟩) (Kd.S_far (p := ⟨gb218, 0, none⟩) (Kd.S_types HO202.out BK218.out (by decide)) (fun _ hk => hk.2) (.int .i64 t209)) (fun _ hk => hk.2) (.slice Aoq3 t210.length coq3)) (fun _ hk => hk.2) (.slice Aoq4 t213.length coq4)) (fun _ h_ => h_.1))) hb); have n1_ := Aside0.mk (Kd.S_below (by (with_reducible repeat (first | apply Kd.S_alloc | apply Kd.S_drewN | apply Kd.S_drew)); exact (Kd.S_mono (Kd.S_far (p := ⟨gb218, 2, none⟩) (Kd.S_far (p := ⟨gb218, 1, none⟩) (Kd.S_far (p := ⟨gb218, 0, none⟩) (Kd.S_types HO205.out BK218.out (by decide)) (fun _ hk => hk.2) (.int .i64 t209)) (fun _ hk => hk.2) (.slice Aoq3 t210.length coq3)) (fun _ hk => hk.2) (.slice Aoq4 t213.length coq4)) (fun _ h_ => h_.1))) hb); have n2_ := Aside0.mk (Kd.S_below (by (with_reducible repeat (first | apply Kd.S_alloc | apply Kd.S_drewN | apply Kd.S_drew)); exact (Kd.S_mono (Kd.S_far (p := ⟨gb218, 2, none⟩) (Kd.S_far (p := ⟨gb218, 1, none⟩) (Kd.S_far (p := ⟨gb218, 0, none⟩) (Kd.S_types HO212.out BK218.out (by decide)) (fun _ hk => hk.2) (.int .i64 t209)) (fun _ hk => hk.2) (.slice Aoq3 t210.length coq3)) (fun _ hk => hk.2) (.slice Aoq4 t213.length coq4)) (fun _ h_ => h_.1))) hb); have n3_ := Aside0.mk (Kd.S_below (by (with_reducible repeat (first | apply Kd.S_alloc | apply Kd.S_drewN | apply Kd.S_drew)); exact (Kd.S_mono (Kd.S_far (p := ⟨gb218, 2, none⟩) (Kd.S_far (p := ⟨gb218, 1, none⟩) (Kd.S_far (p := ⟨gb218, 0, none⟩) (Kd.S_types HO215.out BK218.out (by decide)) (fun _ hk => hk.2) (.int .i64 t209)) (fun _ hk => hk.2) (.slice Aoq3 t210.length coq3)) (fun _ hk => hk.2) (.slice Aoq4 t213.length coq4)) (fun _ h_ => h_.1))) hb); have n4_ := Aside0.mk (blk_below (g := gb208) (o := .cells #[.int .i64 t199, .slice Aoq1 t200.length coq1, .slice Aoq2 t203.length coq2] 24 (0, 0)) (by refine upO ?_; refine blk_far ?_ NB208_218.out _; refine upO ?_; refine blk_far ?_ NB208_218.out _; refine upO ?_; refine blk_far ?_ NB208_218.out _; exact upO BK208.out) hb); have n5_ := Aside0.mk (blk_below (g := gb218) (o := .cells #[.int .i64 t209, .slice Aoq3 t210.length coq3, .slice Aoq4 t213.length coq4] 24 (0, 0)) (by refine upO ?_; refine blk_put (cs := #[.int .i64 t209, .slice Aoq3 t210.length coq3, .slice none 0 0]) ?_ 2 _ rfl; refine upO ?_; refine blk_put (cs := #[.int .i64 t209, .slice none 0 0, .slice none 0 0]) ?_ 1 _ rfl; refine upO ?_; refine blk_put (cs := #[.int .i64 0, .slice none 0 0, .slice none 0 0]) ?_ 0 _ rfl; exact upO BK218.out) hb); have n6_ := Aside0.mk (below_step (upB HB.out) hb); clear HO202; clear HO205; clear HO212; clear HO215; clear BK208; clear BK218; clear HB; have HO202 := n0_; have HO205 := n1_; have HO212 := n2_; have HO215 := n3_; have BK208 := n4_; have BK218 := n5_; have HB := n6_; clear n0_ n1_ n2_ n3_ n4_ n5_ n6_; (try clear hb); (try clear hb2); (try clear hk); (try clear hi)) | (go_at_call 11; (with_reducible refine (pedigreelaw29_lives.calls  t220 _ A8.out).mono ?_); rintro e wq6 ⟨rfl, hb⟩; have n0_ := Aside0.mk (Kd.S_below (upS HO202.out) hb); have n1_ := Aside0.mk (Kd.S_below (upS HO205.out) hb); have n2_ := Aside0.mk (Kd.S_below (upS HO212.out) hb); have n3_ := Aside0.mk (Kd.S_below (upS HO215.out) hb); have n4_ := Aside0.mk (blk_below (g := gb208) (o := .cells #[.int .i64 t199, .slice Aoq1 t200.length coq1, .slice Aoq2 t203.length coq2] 24 (0, 0)) (upO BK208.out) hb); have n5_ := Aside0.mk (blk_below (g := gb218) (o := .cells #[.int .i64 t209, .slice Aoq3 t210.length coq3, .slice Aoq4 t213.length coq4] 24 (0, 0)) (upO BK218.out) hb); have n6_ := Aside0.mk (below_step (upB HB.out) hb); clear HO202; clear HO205; clear HO212; clear HO215; clear BK208; clear BK218; clear HB; have HO202 := n0_; have HO205 := n1_; have HO212 := n2_; have HO215 := n3_; have BK208 := n4_; have BK218 := n5_; have HB := n6_; clear n0_ n1_ n2_ n3_ n4_ n5_ n6_; (try clear hb); (try clear hb2); (try clear hk); (try clear hi))); first | (go_ret; exact ⟨eqE, upB HB.out⟩))
def pedigreelaw29_JournalDecodes.Pure : Prop := ∀ (a0 : ByteArray), a0.size ≤ 140737488351232 → ∃ k, pedigreelaw29_JournalDecodes.f k a0 = some true
theorem pedigreelaw29_JournalDecodes.walk (P : pedigreelaw29_JournalDecodes.Pure) (a0 : ByteArray) (w : World) (w0 : a0.size ≤ 140737488351232) :
  Calls Tryz.prog 4 #[.string a0] w fun e w' => e = .returned (.bool true) ∧ Below w.heap.size w w' := by
 obtain ⟨k, h⟩ := P a0 w0
 refine (pedigreelaw29_JournalDecodes.calls k a0 true w h).mono ?_
 rintro e w' ⟨rfl, hd⟩
 exact ⟨rfl, hd⟩
end Go.Proofs.J.Print
end
section
namespace Go.Proofs.J.Pure
open Go.RowKit Go.Proofs.J.Print Go.Proofs.PrintWords Go.Proofs.PrintLast Go.Proofs.PrintMore
theorem Decode_ev (b : ByteArray) (hb : b.size ≤ 140737488351232) : Ev (fun k => journal_Decode.f k b) (decL b) := by
  refine Ev.bind (commitP_ev b hb) (Ev.const ?_)
  unfold decL decodeOf
  cases comL (lb b) with
  | none => rfl
  | some p => rfl
theorem JournalDecodes : pedigreelaw29_JournalDecodes.Pure := by
  intro b hb
  have h : Ev (fun k => pedigreelaw29_JournalDecodes.f k b) true := by
    unfold pedigreelaw29_JournalDecodes.f
    have hf := decL_fits b
    refine Ev.bind (refDecode_ev b hb) (Ev.bind (Decode_ev b hb) (Ev.bind (sameC_ev (decL b).1 (decL b).2.1 (decL b).2.2.1 hf.1 hf.2) (Ev.iteT rfl (Ev.iteT rfl (Ev.iteT rfl ?_)))))
    exact Ev.const rfl
  obtain ⟨K, hK⟩ := h
  exact ⟨K, hK K (Nat.le_refl _)⟩
end Go.Proofs.J.Pure
end
