/- A part of the proof. -/
import Derived.Test.YtpopmiodjibljaaGreatDoorBwhL
set_option linter.unusedVariables false
set_option linter.unusedSimpArgs false
set_option maxRecDepth 100000

namespace Go.Proofs.YtpopmiodjibljaaGreatDoor
open Go Go.Abs Go.ChangeShapes Go.WideShapes Go.ChangeAt Go.RowKit
namespace BackWholes
theorem f1:(Rows.backWholesUptoRow.inPlace==Tryz.prog.inPlace 11)=true:=by kernel_rfl
theorem f2:(Rows.backWholesUptoRow.unfollowed==Tryz.prog.unfollowed 11)=true:=by kernel_rfl
end BackWholes
end Go.Proofs.YtpopmiodjibljaaGreatDoor

