/- A part of the proof. -/
import Derived.Test.YtpopmiodjibljaaGreatDoorBwhS
set_option linter.unusedVariables false
set_option linter.unusedSimpArgs false
set_option maxRecDepth 100000

namespace Go.Proofs.YtpopmiodjibljaaGreatDoor
open Go Go.Abs Go.ChangeShapes Go.WideShapes Go.ChangeAt Go.RowKit
namespace BackWholes
theorem wft:Rows.backWholesUptoRow.wfByText (Rows.OpenSpec.upto Rows.backWholesSpec)=true:=by kernel_rfl
end BackWholes
end Go.Proofs.YtpopmiodjibljaaGreatDoor

