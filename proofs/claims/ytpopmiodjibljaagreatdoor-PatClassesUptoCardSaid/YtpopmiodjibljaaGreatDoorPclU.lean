/- PatClasses: for all patterns, numbers and flags the program's and the document's answer which characters a node matches are equal, for arguments of bulk at most 1048576. -/
import Derived.Test.YtpopmiodjibljaaGreatDoorPclT
set_option linter.unusedVariables false
set_option linter.unusedSimpArgs false

namespace Go.Proofs.YtpopmiodjibljaaGreatDoor
open Go Go.Abs Go.ChangeShapes Go.WideShapes Go.ChangeAt Go.RowKit
set_option linter.unusedVariables false
set_option maxRecDepth 100000
set_option linter.unusedSimpArgs false
theorem patClassesUptoCard_holds : Rows.PatClassesUptoCardSaid :=
  Claim7.holds_tied_plain_at .later [] _ _ _ _ PatClasses.saidUpto (fun _ h => by cases h) PatClasses.wft (fun _ h => by cases h) patClassesUpto_row_tie rfl ⟨rfl, rfl⟩ (by kernel_rfl) rfl PatClasses.plain PatClasses.goes
end Go.Proofs.YtpopmiodjibljaaGreatDoor

