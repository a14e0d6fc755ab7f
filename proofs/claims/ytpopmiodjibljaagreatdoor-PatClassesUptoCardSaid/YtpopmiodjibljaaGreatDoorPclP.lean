/- A part of the proof: a layer of abstract values over the kit's walks, an evaluator over it, and walks of functions. -/
import Derived.Test.YtpopmiodjibljaaGreatDoorPclO
set_option linter.unusedVariables false
set_option linter.unusedSimpArgs false

namespace Go.Proofs.YtpopmiodjibljaaGreatDoor
open Go Go.Abs Go.ChangeShapes Go.WideShapes Go.ChangeAt Go.RowKit
set_option linter.unusedVariables false
set_option maxRecDepth 100000
set_option linter.unusedSimpArgs false
namespace PatClasses
theorem closed : joinedFacts Tryz.prog 3 Tryz.f3 (Rows.OpenSpec.upto Rows.patClassesSpec).bare Rows.patClassesUptoRow = true := by
  unfold joinedFacts
  rw [f1, f2, f3, f4, f5, f6, f7]
  kernel_rfl
end PatClasses
end Go.Proofs.YtpopmiodjibljaaGreatDoor

