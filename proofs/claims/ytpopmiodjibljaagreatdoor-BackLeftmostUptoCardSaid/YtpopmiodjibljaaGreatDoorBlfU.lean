/- BackLeftmost: for all patterns without a keep and all subjects of at most 60 characters a search finds the match that begins first, for arguments of bulk at most 1048576. -/
import Derived.Test.YtpopmiodjibljaaGreatDoorBlfT
set_option linter.unusedVariables false
set_option linter.unusedSimpArgs false
set_option maxRecDepth 100000

namespace Go.Proofs.YtpopmiodjibljaaGreatDoor
open Go Go.Abs Go.ChangeShapes Go.WideShapes Go.ChangeAt Go.RowKit
theorem backLeftmostUptoCard_holds:Rows.BackLeftmostUptoCardSaid:=
 Claim7.holds_tied_plain_at .later [] _ _ _ _ BackLeftmost.saidUpto (fun _ h=>by cases h) BackLeftmost.wft (fun _ h=>by cases h) backLeftmostUpto_row_tie I ⟨rfl,rfl⟩ (by kernel_rfl) rfl BackLeftmost.plain BackLeftmost.goes
end Go.Proofs.YtpopmiodjibljaaGreatDoor

