/- A part of the proof. -/
import Derived.Test.YtpopmiodjibljaaGreatDoorBssL
set_option linter.unusedVariables false
set_option linter.unusedSimpArgs false
set_option maxRecDepth 100000

namespace Go.Proofs.YtpopmiodjibljaaGreatDoor
open Go Go.Abs Go.ChangeShapes Go.WideShapes Go.ChangeAt Go.RowKit
namespace BackSearches
theorem f1:(Rows.backSearchesUptoRow.inPlace==Tryz.prog.inPlace 5)=true:=by kernel_rfl
theorem f2:(Rows.backSearchesUptoRow.unfollowed==Tryz.prog.unfollowed 5)=true:=by kernel_rfl
end BackSearches
end Go.Proofs.YtpopmiodjibljaaGreatDoor

