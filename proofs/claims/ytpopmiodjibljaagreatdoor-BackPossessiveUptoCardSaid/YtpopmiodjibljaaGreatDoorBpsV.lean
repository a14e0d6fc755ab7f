/- BackPossessive: for all patterns and subjects a possessive repeat and an atomic group around the repeat match alike, with the same text and the same errors, for arguments of bulk at most 1048576. -/
import Derived.Test.YtpopmiodjibljaaGreatDoorBpsU
set_option linter.unusedVariables false
set_option linter.unusedSimpArgs false
set_option maxRecDepth 100000

namespace Go.Proofs.YtpopmiodjibljaaGreatDoor
open Go Go.Abs Go.ChangeShapes Go.WideShapes Go.ChangeAt Go.RowKit
set_option maxRecDepth 100000
theorem backPossessiveUptoCard_holds : Rows.BackPossessiveUptoCardSaid :=
 Claim7.holds_tied_plain_at .later [] _ _ _ _ BackPossessive.saidUpto (fun _ h => by cases h) BackPossessive.wft (fun _ h => by cases h) backPossessiveUpto_row_tie I ⟨rfl, rfl⟩ (by kernel_rfl) rfl BackPossessive.plain BackPossessive.goes
end Go.Proofs.YtpopmiodjibljaaGreatDoor

