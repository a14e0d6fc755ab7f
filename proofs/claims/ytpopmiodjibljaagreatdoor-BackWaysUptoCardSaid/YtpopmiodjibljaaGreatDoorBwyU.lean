/- BackWays: for all patterns, flags, texts and places the number of ways, up to 1000, is the one that the document counts, or one of them has too many steps, for arguments of bulk at most 1048576. -/
import Derived.Test.YtpopmiodjibljaaGreatDoorBwyQ
import Derived.Test.YtpopmiodjibljaaGreatDoorBwyR
import Derived.Test.YtpopmiodjibljaaGreatDoorBwyS
import Derived.Test.YtpopmiodjibljaaGreatDoorBwyT
set_option linter.unusedVariables false
set_option linter.unusedSimpArgs false
set_option maxRecDepth 100000

namespace Go.Proofs.YtpopmiodjibljaaGreatDoor
open Go Go.Abs Go.ChangeShapes Go.WideShapes Go.ChangeAt Go.RowKit
theorem backWaysUptoCard_holds:Rows.BackWaysUptoCardSaid:=
 Claim7.holds_tied_plain_at .later [] _ _ _ _ BackWays.saidUpto (fun _ h=>by cases h) BackWays.wft (fun _ h=>by cases h) backWaysUpto_row_tie I ⟨I,I⟩ (by kernel_rfl) I BackWays.plain BackWays.goes
end Go.Proofs.YtpopmiodjibljaaGreatDoor

