/- The tie of what the row lists to the program's text: each closed fact by itself. No condition. -/
import Derived.Test.YtdkfcihbiikneaaGreatDoorRows
import Derived.LaidByTextLater
import Derived.SevenTiedAt
import Derived.LaidSub
import Derived.LaidOnce
namespace Go.Proofs.YtdkfcihbiikneaaGreatDoor
open Go
set_option maxRecDepth 100000
def theLaid : List (String × DataW Unit) := [("math/bits.deBruijn32tab", Rows.laid_math_bits_deBruijn32tab), ("math/bits.deBruijn64tab", Rows.laid_math_bits_deBruijn64tab), ("internal/strconv.uint64pow10", Rows.laid_internal_strconv_uint64pow10), ("strconv.ErrRange", Rows.laid_strconv_ErrRange), ("strconv.ErrSyntax", Rows.laid_strconv_ErrSyntax), ("elenchus/oper.types", Rows.laid_elenchus_oper_types)]
def theKinds : List LaidKind := [.data, .data, .data, .sentinel, .sentinel, .widerDeep]
theorem tied1 : Tryz.prog.worded (varsWordLater true) = true := by kernel_rfl
theorem tied2 : Tryz.prog.worded (varsWordLater !true) = false := by kernel_rfl
theorem tied3 : Tryz.prog.worded rootWordLater = true := by kernel_rfl
theorem tied4 : theLaid.map (fun x => Tryz.prog.kindOfLater x.1) = theKinds.map some := by kernel_rfl
theorem tied5 : (Tryz.prog.funcNamed "gosem.cut.vars").isSome = true := by kernel_rfl
theorem varsAt : varsId Tryz.prog = 759 := by kernel_rfl
theorem tied6at : varsNamedLaterB Tryz.prog 759 theLaid = true := by kernel_rfl
theorem tied6 : varsNamedLaterB Tryz.prog (varsId Tryz.prog) theLaid = true := by rw [varsAt]; exact tied6at
theorem tied7 : ∀ (os : Os) (tape : Tape), doorLeaves Tryz.prog 67 8 65 theLaid os tape = some (theLaid.filter fun x => x.2.handleName?.isNone, (funcsListed theLaid).map (·.2.funcsOut)) := fun _ _ => by kernel_rfl
theorem seatTied : Tryz.prog.laidByTextLater theLaid theKinds true := Program.laidByTextLater_by_one 67 8 65 tied1 tied2 tied3 tied4 tied5 tied6 tied7
theorem noOwn : Tryz.pinned.checked.prog.headLifts.contains "ownunsafe" = false := by kernel_rfl
theorem fits : Tryz.pinned.checked.prog.funcsFit Rows.topNamesRow.laid = true := by kernel_rfl
theorem rowTied : Rows.topNamesRow.laidByTextAt .later Tryz.pinned [.data, .data, .data, .sentinel, .sentinel, .widerDeep] true :=
  OpenClaim.laidByTextAt_later rfl rfl seatTied noOwn fits
end Go.Proofs.YtdkfcihbiikneaaGreatDoor
