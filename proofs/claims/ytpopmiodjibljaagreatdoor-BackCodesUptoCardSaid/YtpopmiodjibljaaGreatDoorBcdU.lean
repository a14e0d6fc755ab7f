/- BackCodes: for all patterns, flags, texts and places the places of the program's match are those that the document names, or one of them has too many steps, for arguments of bulk at most 1048576. -/
import Derived.Test.YtpopmiodjibljaaGreatDoorBcdT
set_option linter.unusedVariables false
set_option linter.unusedSimpArgs false
set_option maxRecDepth 100000

namespace Go.Proofs.YtpopmiodjibljaaGreatDoor
open Go Go.Abs Go.ChangeShapes Go.WideShapes Go.ChangeAt Go.RowKit
theorem backCodesUptoCard_holds:Rows.BackCodesUptoCardSaid:=
 Claim7.holds_tied_plain_at .later [] _ _ _ _ BackCodes.saidUpto (fun _ h=>by cases h) BackCodes.wft (fun _ h=>by cases h) backCodesUpto_row_tie I ⟨I,I⟩ (by kernel_rfl) I BackCodes.plain BackCodes.goes
end Go.Proofs.YtpopmiodjibljaaGreatDoor

