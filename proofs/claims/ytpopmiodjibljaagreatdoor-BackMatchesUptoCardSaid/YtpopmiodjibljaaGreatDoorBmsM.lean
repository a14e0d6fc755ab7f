/- A part of the proof. -/
import Derived.Test.YtpopmiodjibljaaGreatDoorBmsL
set_option linter.unusedVariables false
set_option linter.unusedSimpArgs false
set_option maxRecDepth 100000

namespace Go.Proofs.YtpopmiodjibljaaGreatDoor
open Go Go.Abs Go.ChangeShapes Go.WideShapes Go.ChangeAt Go.RowKit
namespace BackMatches
theorem f1:(Rows.backMatchesUptoRow.inPlace==Tryz.prog.inPlace 4)=true:=by kernel_rfl
theorem f2:(Rows.backMatchesUptoRow.unfollowed==Tryz.prog.unfollowed 4)=true:=by kernel_rfl
end BackMatches
end Go.Proofs.YtpopmiodjibljaaGreatDoor

