/- A part of the proof. -/
import Derived.Test.YtpopmiodjibljaaGreatDoorBcdR
set_option linter.unusedVariables false
set_option linter.unusedSimpArgs false
set_option maxRecDepth 100000

namespace Go.Proofs.YtpopmiodjibljaaGreatDoor
open Go Go.Abs Go.ChangeShapes Go.WideShapes Go.ChangeAt Go.RowKit
namespace BackCodes
theorem goes:false=Rows.backCodesUptoRow.goesBy Tryz.pinned.checked.prog:=by kernel_rfl
end BackCodes
end Go.Proofs.YtpopmiodjibljaaGreatDoor

