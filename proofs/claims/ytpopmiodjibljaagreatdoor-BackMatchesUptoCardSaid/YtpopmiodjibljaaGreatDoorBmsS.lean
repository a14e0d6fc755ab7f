/- A part of the proof. -/
import Derived.Test.YtpopmiodjibljaaGreatDoorBmsR
set_option linter.unusedVariables false
set_option linter.unusedSimpArgs false
set_option maxRecDepth 100000

namespace Go.Proofs.YtpopmiodjibljaaGreatDoor
open Go Go.Abs Go.ChangeShapes Go.WideShapes Go.ChangeAt Go.RowKit
namespace BackMatches
theorem goes:false=Rows.backMatchesUptoRow.goesBy Tryz.pinned.checked.prog:=by kernel_rfl
end BackMatches
end Go.Proofs.YtpopmiodjibljaaGreatDoor

