/- A part of the proof: a layer of abstract values over the kit's walks, an evaluator over it, and walks of functions. -/
import Derived.Test.YtpopmiodjibljaaGreatDoorBpsN
set_option linter.unusedVariables false
set_option linter.unusedSimpArgs false
set_option maxRecDepth 100000

namespace Go.Proofs.YtpopmiodjibljaaGreatDoor
open Go Go.Abs Go.ChangeShapes Go.WideShapes Go.ChangeAt Go.RowKit
set_option maxRecDepth 100000
namespace BackPossessive
theorem f3 : (Rows.backPossessiveUptoRow.recurses == Tryz.prog.recurses 6) = true := by kernel_rfl
theorem f4 : (Rows.backPossessiveUptoRow.named == Tryz.prog.varsNamed 6) = true := by kernel_rfl
end BackPossessive
end Go.Proofs.YtpopmiodjibljaaGreatDoor

