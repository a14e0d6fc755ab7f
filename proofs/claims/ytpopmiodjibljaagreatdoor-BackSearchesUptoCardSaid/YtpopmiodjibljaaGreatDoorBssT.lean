/- A part of the proof. -/
import Derived.Test.YtpopmiodjibljaaGreatDoorBssS
set_option linter.unusedVariables false
set_option linter.unusedSimpArgs false
set_option maxRecDepth 100000

namespace Go.Proofs.YtpopmiodjibljaaGreatDoor
open Go Go.Abs Go.ChangeShapes Go.WideShapes Go.ChangeAt Go.RowKit
namespace BackSearches
theorem wft:Rows.backSearchesUptoRow.wfByText (Rows.OpenSpec.upto Rows.backSearchesSpec)=true:=by kernel_rfl
end BackSearches
end Go.Proofs.YtpopmiodjibljaaGreatDoor

