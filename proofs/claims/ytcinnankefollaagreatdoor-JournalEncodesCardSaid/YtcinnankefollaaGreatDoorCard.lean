/- THE TIED CARD OF 'pedigreelaw29.JournalEncodes': whatever the commit, the program's Encode answers as the document's and leaves what it was handed; the package-level variables that the row lists are tied to the program's text. No condition beyond the card's own. -/
import Derived.Test.YtcinnankefollaaGreatDoorLaw
import Derived.Test.YtcinnankefollaaGreatDoorTkd
import Derived.Test.YtcinnankefollaaGreatDoorCards
namespace Go.Proofs.YtcinnankefollaaGreatDoor
open Go
theorem none_goes : Tryz.prog.funcs.any Func.goes = false := by
  rw [← Array.any_toList]
  kernel_rfl
theorem any_none {P : Program} (h : P.funcs.any Func.goes = false) (l : List Nat) : (l.any fun g => (P.funcs[g]?).any Func.goes) = false := by
  rw [List.any_eq_false]
  intro g _
  cases hg : P.funcs[g]? with
  | none => simp
  | some fn =>
    rw [Array.any_eq_false] at h
    obtain ⟨hlt, he⟩ := Array.getElem?_eq_some_iff.1 hg
    subst he
    simpa using h g hlt
theorem goes_3 : Tryz.prog.goes 3 = false := by
  unfold Program.goes
  rw [any_none none_goes, none_goes]
  simp
theorem goes_by : Rows.journalEncodesRow.goesBy Tryz.prog = false := by
  have h : Tryz.prog.funcNamed Rows.journalEncodesRow.func = some 3 := by kernel_rfl
  have k : Rows.journalEncodesRow.start = .entering := rfl
  unfold OpenClaim.goesBy Program.goesAt Program.goesFrom
  rw [h, k, Option.any_some, goes_3]
  rfl
theorem journalEncodes_tied : Rows.journalEncodesRow.laidByTextAt .later Tryz.pinned tieKinds true :=
  OpenClaim.laidByTextAt_later rfl rfl tie tkU
theorem journalEncodes_card : Rows.JournalEncodesCardSaid :=
  Claim7.holds_tied_plain_at .later [] tieKinds true (true, "5db38b9e90a84a8aeba2bc00c0958bf8b408a8ac8894f7fafd50f06be2aea910") true
    journalEncodes_holds (fun _ h => by cases h) (by kernel_rfl) (fun _ h => by cases h) journalEncodes_tied rfl ⟨rfl, rfl⟩ (by kernel_rfl) rfl
    (fun f fn hf hfn => by
      obtain rfl : f = 3 := Option.some.inj ((show Tryz.prog.funcNamed Rows.journalEncodesRow.func = some 3 by kernel_rfl).symm.trans hf) |>.symm
      obtain rfl : fn = Tryz.f3 := (Option.some.inj (Tryz.func3.symm.trans hfn)).symm
      exact ⟨by kernel_rfl, fun j t ht => by
        rw [Tryz.params3] at ht
        have hm : t ∈ [24] := by simpa using Array.mem_of_getElem? ht
        have hall : ([24].all fun u => !Tryz.prog.wantsStandIn u) = true := by kernel_rfl
        exact (show Tryz.prog.wantsStandIn t = false by simpa using List.all_eq_true.1 hall t hm)⟩)
    goes_by.symm
end Go.Proofs.YtcinnankefollaaGreatDoor
