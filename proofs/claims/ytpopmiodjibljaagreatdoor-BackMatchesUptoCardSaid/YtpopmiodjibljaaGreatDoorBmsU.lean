/- BackMatches: for all patterns, flags, texts and places the program finds the match that the document finds, or one of them has too many steps, for arguments of bulk at most 1048576. -/
import Derived.Test.YtpopmiodjibljaaGreatDoorBmsT
set_option linter.unusedVariables false
set_option linter.unusedSimpArgs false
set_option maxRecDepth 100000

namespace Go.Proofs.YtpopmiodjibljaaGreatDoor
open Go Go.Abs Go.ChangeShapes Go.WideShapes Go.ChangeAt Go.RowKit
theorem backMatchesUptoCard_holds:Rows.BackMatchesUptoCardSaid:=
 Claim7.holds_tied_plain_at .later [] _ _ _ _ BackMatches.saidUpto (fun _ h=>by cases h) BackMatches.wft (fun _ h=>by cases h) backMatchesUpto_row_tie I ⟨I,I⟩ (by kernel_rfl) I BackMatches.plain BackMatches.goes
end Go.Proofs.YtpopmiodjibljaaGreatDoor

