/- A part of the proof: a layer of abstract values over the kit's walks, an evaluator over it, and walks of functions. -/
import Derived.Test.YtpopmiodjibljaaGreatDoorBlfL
set_option linter.unusedVariables false
set_option linter.unusedSimpArgs false
set_option maxRecDepth 100000

namespace Go.Proofs.YtpopmiodjibljaaGreatDoor
open Go Go.Abs Go.ChangeShapes Go.WideShapes Go.ChangeAt Go.RowKit
namespace BackLeftmost
theorem f1:(Rows.backLeftmostUptoRow.inPlace==Tryz.prog.inPlace 8)=true:=by kernel_rfl
theorem f2:(Rows.backLeftmostUptoRow.unfollowed==Tryz.prog.unfollowed 8)=true:=by kernel_rfl
end BackLeftmost
end Go.Proofs.YtpopmiodjibljaaGreatDoor

