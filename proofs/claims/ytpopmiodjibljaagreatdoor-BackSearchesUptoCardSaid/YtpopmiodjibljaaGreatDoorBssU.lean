/- BackSearches: for all patterns, flags, texts and places the program's search finds the match that the document finds, or one of them has too many steps, for arguments of bulk at most 1048576. -/
import Derived.Test.YtpopmiodjibljaaGreatDoorBssT
set_option linter.unusedVariables false
set_option linter.unusedSimpArgs false
set_option maxRecDepth 100000

namespace Go.Proofs.YtpopmiodjibljaaGreatDoor
open Go Go.Abs Go.ChangeShapes Go.WideShapes Go.ChangeAt Go.RowKit
theorem backSearchesUptoCard_holds:Rows.BackSearchesUptoCardSaid:=
 Claim7.holds_tied_plain_at .later [] _ _ _ _ BackSearches.saidUpto (fun _ h=>by cases h) BackSearches.wft (fun _ h=>by cases h) backSearchesUpto_row_tie I ⟨I,I⟩ (by kernel_rfl) I BackSearches.plain BackSearches.goes
end Go.Proofs.YtpopmiodjibljaaGreatDoor

