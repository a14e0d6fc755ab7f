/- BackWholes: for all patterns, flags and texts the program's whole match is the one that the document finds, or one of them has too many steps, for arguments of bulk at most 1048576. -/
import Derived.Test.YtpopmiodjibljaaGreatDoorBwhT
set_option linter.unusedVariables false
set_option linter.unusedSimpArgs false
set_option maxRecDepth 100000

namespace Go.Proofs.YtpopmiodjibljaaGreatDoor
open Go Go.Abs Go.ChangeShapes Go.WideShapes Go.ChangeAt Go.RowKit
theorem backWholesUptoCard_holds:Rows.BackWholesUptoCardSaid:=
 Claim7.holds_tied_plain_at .later [] _ _ _ _ BackWholes.saidUpto (fun _ h=>by cases h) BackWholes.wft (fun _ h=>by cases h) backWholesUpto_row_tie I ⟨I,I⟩ (by kernel_rfl) I BackWholes.plain BackWholes.goes
end Go.Proofs.YtpopmiodjibljaaGreatDoor

