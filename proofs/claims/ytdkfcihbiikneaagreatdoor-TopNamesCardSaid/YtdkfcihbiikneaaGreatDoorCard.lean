/- The tied card of TopNames: TopNames, called with any input, returns true. Conditions: the card's own (what is laid is tied to the program's text). -/
import Derived.Test.YtdkfcihbiikneaaGreatDoorTop
import Derived.Test.YtdkfcihbiikneaaGreatDoorTied
import Derived.Test.YtdkfcihbiikneaaGreatDoorCards
import Derived.SevenTiedAt
import GoSem.ClaimGoes
namespace Go.Proofs.YtdkfcihbiikneaaGreatDoor
open Go
set_option maxRecDepth 1000000
theorem noGo : (Tryz.prog.funcs.toList.any Func.goes) = false := by kernel_rfl
theorem noGo_at {fn : Func} (h : fn ∈ Tryz.prog.funcs) : fn.goes = false := by
  have := List.any_eq_false.1 noGo fn (Array.mem_toList_iff.2 h)
  simpa using this
theorem noGo_from (f : FuncId) : Tryz.prog.goes f = false := by
  unfold Program.goes
  rw [Bool.or_eq_false_iff]
  constructor
  · rw [List.any_eq_false]
    intro g _
    cases hg : Tryz.prog.funcs[g]? with
    | none => simp
    | some fn => simp [noGo_at (Array.mem_of_getElem? hg)]
  · rw [Bool.and_eq_false_iff]
    right
    rw [Array.any_eq_false']
    intro fn h
    simp [noGo_at h]
theorem goesBy_ : false = Rows.topNamesRow.goesBy Tryz.pinned.checked.prog := by
  unfold OpenClaim.goesBy Program.goesAt Program.goesFrom
  have h : ∀ o : Option FuncId, o.any Tryz.prog.goes = false := fun o => by cases o <;> simp [noGo_from]
  show false = (_ || _)
  rw [show (Tryz.pinned.checked.prog.funcNamed Rows.topNamesRow.func).any Tryz.pinned.checked.prog.goes = false from h _]
  rfl
theorem wfText : Rows.topNamesRow.wfByText (OpenSpec.ofChange Rows.topNamesSpec) = true := by kernel_rfl
theorem mainIs_ : Tryz.pinned.checked.prog.mainIs = some (true, "e1a55b3c9549111ce849d84e411854c94b37521284597972f2bcd5fe32536af2".toList) := by kernel_rfl
theorem looks_ : true = Tryz.pinned.checked.prog.looks [] := by kernel_rfl
/-- ████ THE TIED CARD OF TopNames ████ -/
theorem topNames_card : Rows.TopNamesCardSaid :=
  Claim7.holds_tied_plain_at .later [] [.data, .data, .data, .sentinel, .sentinel, .widerDeep] true (true, "e1a55b3c9549111ce849d84e411854c94b37521284597972f2bcd5fe32536af2") true
    topNames_holds (fun _ h => by cases h) wfText (fun _ h => by cases h) rowTied rfl ⟨rfl, rfl⟩ mainIs_ rfl
    (fun f fn hf hfn => by
      obtain rfl : f = 3 := Option.some.inj (fnamed.symm.trans hf) |>.symm
      obtain rfl : fn = Tryz.f3 := (Option.some.inj (Tryz.func3.symm.trans hfn)).symm
      exact ⟨looks_, fun j t ht => by rw [Tryz.params3] at ht; cases ht⟩)
    goesBy_
end Go.Proofs.YtdkfcihbiikneaaGreatDoor
