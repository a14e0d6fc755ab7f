/- A part of the proof: a layer of abstract values over the kit's walks, an evaluator over it, and walks of functions. -/
import Derived.Test.YtpopmiodjibljaaGreatDoorBpsM
set_option linter.unusedVariables false
set_option linter.unusedSimpArgs false
set_option maxRecDepth 100000

namespace Go.Proofs.YtpopmiodjibljaaGreatDoor
open Go Go.Abs Go.ChangeShapes Go.WideShapes Go.ChangeAt Go.RowKit
set_option maxRecDepth 100000
namespace BackPossessive
theorem f1 : (Rows.backPossessiveUptoRow.inPlace == Tryz.prog.inPlace 6) = true := by kernel_rfl
theorem f2 : (Rows.backPossessiveUptoRow.unfollowed == Tryz.prog.unfollowed 6) = true := by kernel_rfl
end BackPossessive
end Go.Proofs.YtpopmiodjibljaaGreatDoor

