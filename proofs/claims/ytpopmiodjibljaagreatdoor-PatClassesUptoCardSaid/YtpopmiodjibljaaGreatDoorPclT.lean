/- A part of the proof: a layer of abstract values over the kit's walks, an evaluator over it, and walks of functions. -/
import Derived.Test.YtpopmiodjibljaaGreatDoorPclS
set_option linter.unusedVariables false
set_option linter.unusedSimpArgs false

namespace Go.Proofs.YtpopmiodjibljaaGreatDoor
open Go Go.Abs Go.ChangeShapes Go.WideShapes Go.ChangeAt Go.RowKit
set_option linter.unusedVariables false
set_option maxRecDepth 100000
set_option linter.unusedSimpArgs false
namespace PatClasses
theorem wft : Rows.patClassesUptoRow.wfByText (Rows.OpenSpec.upto Rows.patClassesSpec) = true := by kernel_rfl
end PatClasses
end Go.Proofs.YtpopmiodjibljaaGreatDoor

