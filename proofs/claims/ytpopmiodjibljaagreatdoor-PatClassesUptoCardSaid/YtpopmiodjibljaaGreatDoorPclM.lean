/- A part of the proof: a layer of abstract values over the kit's walks, an evaluator over it, and walks of functions. -/
import Derived.Test.YtpopmiodjibljaaGreatDoorPclL
set_option linter.unusedVariables false
set_option linter.unusedSimpArgs false

namespace Go.Proofs.YtpopmiodjibljaaGreatDoor
open Go Go.Abs Go.ChangeShapes Go.WideShapes Go.ChangeAt Go.RowKit
set_option linter.unusedVariables false
set_option maxRecDepth 100000
set_option linter.unusedSimpArgs false
namespace PatClasses
theorem f1 : (Rows.patClassesUptoRow.inPlace == Tryz.prog.inPlace 3) = true := by kernel_rfl
theorem f2 : (Rows.patClassesUptoRow.unfollowed == Tryz.prog.unfollowed 3) = true := by kernel_rfl
end PatClasses
end Go.Proofs.YtpopmiodjibljaaGreatDoor

