/- A part of the proof: a layer of abstract values over the kit's walks, an evaluator over it, and walks of functions. -/
import Derived.Test.YtpopmiodjibljaaGreatDoorBlfS
set_option linter.unusedVariables false
set_option linter.unusedSimpArgs false
set_option maxRecDepth 100000

namespace Go.Proofs.YtpopmiodjibljaaGreatDoor
open Go Go.Abs Go.ChangeShapes Go.WideShapes Go.ChangeAt Go.RowKit
namespace BackLeftmost
theorem wft:Rows.backLeftmostUptoRow.wfByText (Rows.OpenSpec.upto Rows.backLeftmostSpec)=true:=by kernel_rfl
end BackLeftmost
end Go.Proofs.YtpopmiodjibljaaGreatDoor

