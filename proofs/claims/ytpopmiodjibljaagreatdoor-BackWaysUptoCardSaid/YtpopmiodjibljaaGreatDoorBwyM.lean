/- A part of the proof. -/
import Derived.Test.YtpopmiodjibljaaGreatDoorBwyI
set_option linter.unusedVariables false
set_option linter.unusedSimpArgs false
set_option maxRecDepth 100000

namespace Go.Proofs.YtpopmiodjibljaaGreatDoor
open Go Go.Abs Go.ChangeShapes Go.WideShapes Go.ChangeAt Go.RowKit
namespace BackWays
theorem f1:(Rows.backWaysUptoRow.inPlace==Tryz.prog.inPlace 9)=true:=by kernel_rfl
theorem f2:(Rows.backWaysUptoRow.unfollowed==Tryz.prog.unfollowed 9)=true:=by kernel_rfl
end BackWays
end Go.Proofs.YtpopmiodjibljaaGreatDoor

