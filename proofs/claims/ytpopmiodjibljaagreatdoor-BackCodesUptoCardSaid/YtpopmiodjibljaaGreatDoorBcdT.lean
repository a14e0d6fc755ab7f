/- A part of the proof. -/
import Derived.Test.YtpopmiodjibljaaGreatDoorBcdS
set_option linter.unusedVariables false
set_option linter.unusedSimpArgs false
set_option maxRecDepth 100000

namespace Go.Proofs.YtpopmiodjibljaaGreatDoor
open Go Go.Abs Go.ChangeShapes Go.WideShapes Go.ChangeAt Go.RowKit
namespace BackCodes
theorem wft:Rows.backCodesUptoRow.wfByText (Rows.OpenSpec.upto Rows.backCodesSpec)=true:=by kernel_rfl
end BackCodes
end Go.Proofs.YtpopmiodjibljaaGreatDoor

