/- The law 'JournalEncodes' is true of every input that the row lets in: whatever the commit, the program's Encode answers as the document's, and what was handed in stays as it was. The condition: the row's own, that the listed package-level variables read as they are laid (the card ties them to the program's text). -/
import Derived.Test.YtcinnankefollaaGreatDoorTe8
import Derived.Test.YtcinnankefollaaGreatDoorTec
import Derived.Test.YtcinnankefollaaGreatDoorWm
import Derived.WalkKit
import Derived.ProofKit
import Derived.OpenShut
import Derived.ShutString
import Derived.ChangeOld
import Derived.Below
import Derived.SizedLaws
import Derived.Handed
import Derived.Carry
import Derived.Lib.LaidTab
namespace Go.Proofs.YtcinnankefollaaGreatDoor.journalEncodes
open Go.ChangeShapes Go.WideShapes Go.ChangeAt Go.RowKit
open Go.ChangeMaps (open_string shut_string)
set_option linter.unusedVariables false
theorem own : ownKnob Tryz.prog.godebug = none := by kernel_rfl
theorem ok_arg (os : Os) : Input.okWideB Tryz.checked.prog (witAt3 os) 3 ⟨#[], #[.agg #[.int .i64 0, .slice none 0 0, .slice none 0 0]], []⟩ = true := by kernel_rfl
theorem pre_arg (os : Os) (H : Type) (enc : TypeId × Value → H) : Rows.journalEncodesSpec.preB enc Tryz.checked.prog Tryz.f3 [] false (witAt3 os).memory #[.agg #[.int .i64 0, .slice none 0 0, .slice none 0 0]] 8 = true := by kernel_rfl
theorem size_arg (os : Os) (H : Type) (enc : TypeId × Value → H) : Rows.journalEncodesSpec.sizedB enc Tryz.checked.prog Tryz.f3 false (witAt3 os).memory #[.agg #[.int .i64 0, .slice none 0 0, .slice none 0 0]] 8 = true := by kernel_rfl
theorem laid_head : ∃ rest, (tieLaid.filter fun x => x.2.handleName?.isNone) = ("internal/strconv.uint64pow10", Lib.tabData .u64 Lib.pow10Tab) :: rest := ⟨_, rfl⟩
theorem laid_handle : ∃ h hs, (tieLaid.filter fun x => x.2.handleName?.isSome) = h :: hs := ⟨_, _, rfl⟩
theorem glob_no : ∃ g, Tryz.prog.globalNamed "internal/strconv.uint64pow10" = some g ∧ (Tryz.prog.globals[g]?).map (·.type) = some 587 := ⟨6, by kernel_rfl, by kernel_rfl⟩
theorem tab_laid {W : World} (h : laidMetH Tryz.prog tieLaid W) : Go.Proofs.J.Print.Tab W := by
  obtain ⟨rest, hr⟩ := laid_head
  obtain ⟨x, xs, hx⟩ := laid_handle
  unfold laidMetH at h
  rw [hx] at h
  have h1 := h.1
  rw [hr] at h1
  obtain ⟨g, hg, hty⟩ := glob_no
  exact Lib.tabIs_of_head hg hty (e := 73) (n := 20) (by kernel_rfl) (by kernel_rfl) (by kernel_rfl) (by kernel_rfl) h1
set_option maxRecDepth 100000 in
theorem lifted (os : Os) (started : os.Started) (H : Type) (enc : TypeId × Value → H) :
    ReturnsInHanded {} Tryz.checked os 3 .any (fun w args => (Rows.journalEncodesSpec.pre enc Tryz.prog Tryz.f3 [] false w args ∧ laidMetH Tryz.prog tieLaid w) ∧ sizedMet enc Tryz.prog Tryz.f3 (OpenSpec.ofChange Rows.journalEncodesSpec) false w args)
      (Rows.journalEncodesSpec.post enc Tryz.prog Tryz.f3 false true false false) := by
  refine returnsInHanded_of_change_and (C := Tryz.checked) (X := fun w _ => laidMetH Tryz.prog tieLaid w) (fun _ _ _ hh h => h.of_heap hh) own started (by kernel_rfl) Tryz.func3
    (ChangeSpec.witness_shaped (enc := enc) (C := Tryz.checked) (os := os) (X := fun w _ => laidMetH Tryz.prog tieLaid w) false (wit os) #[.agg #[.int .i64 0, .slice none 0 0, .slice none 0 0]] 8 rfl (World.shaped_of_RefB (wit_var3 os) (wit_rest3 os)) (ok_arg os) (pre_arg os H enc) (size_arg os H enc) (wit_met3 os)) ?_
  intro W base args ds gs before hval0 hW hcnd hsz0 hlaid _
  have htab := tab_laid hlaid
  clear hlaid
  have hsz : (DataW.weightsEach Tryz.prog (Tryz.f3.params.toList ++ Rows.journalEncodesSpec.plain.varTypes Tryz.prog) (ds ++ gs)).all (· ≤ reachBytes) = true := hsz0
  have hval : ∀ (j : Nat) t v, Tryz.f3.params[j]? = some t → args[j]? = some v → Value.okWide Tryz.prog W .any base t v := hval0
  have hW' := hW
  obtain ⟨p, q, hA0, hV, rfl, hfz, hnd⟩ := hW
  have hA : DataW.TrodAll enc Tryz.prog W 0 (fun _ => true) true Tryz.f3.params.toList args.toList ds p := hA0
  rw [Tryz.params3] at hA hval hsz
  obtain ⟨v0, vs0, d0, ds0, p0, q0, hargs, rfl, rfl, h0, r0⟩ := trodAll_cons hA
  obtain ⟨rfl, rfl, rfl⟩ := trodAll_nil r0
  obtain rfl : args = #[v0] := by cases args; simp_all
  obtain ⟨rfl, rfl⟩ := trodVars_none hV
  have hl : Go.Proofs.J.Print.Light Tryz.prog 24 d0 := fun n hn => by
    have := List.all_eq_true.1 hsz n (DataW.weights_mem_each (j := 0) (t := 24) rfl rfl n hn)
    simpa using this
  obtain ⟨n, A1, c1, l1, A2, c2, l2, rfl, _, k1, k2⟩ := Go.Proofs.J.Print.open_24 (hval 0 24 v0 rfl rfl) h0 hl
  have hlt : ∀ x ∈ p0, x.block < W.heap.size := fun x hx => by simpa using hW'.lt x (by simpa using hx)
  clear hA0 hval0 hsz0 hsz
  refine (Go.Proofs.J.Print.encodes_walk n A1 c1 l1 A2 c2 l2 W k1 k2 htab).mono fun e W' ⟨he, bel⟩ => ?_
  subst he
  exact ⟨_, rfl, _, _, _, [], _, [], hW', trodAll_mk1 (shut_bool Tryz.underlying4 _), (trodAll_cons_mk (Below.trod laid_out (by kernel_rfl) (of_decide_eq_true (by kernel_rfl)) h0 bel hlt) trodAll_mk0), rfl, bel.frame _, fun h => by cases h⟩
end Go.Proofs.YtcinnankefollaaGreatDoor.journalEncodes
namespace Go.Proofs.YtcinnankefollaaGreatDoor
theorem journalEncodes_holds : Rows.JournalEncodesSaid :=
  OpenClaim.holds_of_wide 3 Tryz.f3 rfl rfl rfl rfl rfl rfl rfl ⟨rfl, rfl, rfl, rfl, rfl⟩ rfl rfl rfl rfl rfl (by kernel_rfl) Tryz.func3 row_facts3
    (of_decide_eq_true (by kernel_rfl)) (by unfold Func.isWrapper; first | (rw [if_pos (by decide +kernel)]; kernel_rfl) | (rw [if_neg (by decide +kernel)]; exact ⟨rfl, rfl⟩))
    (fun os started H enc _ => journalEncodes.lifted os started H enc)
end Go.Proofs.YtcinnankefollaaGreatDoor
