/- A part of the proof. -/
import Derived.Test.YtpopmiodjibljaaGreatDoorBcdL
set_option linter.unusedVariables false
set_option linter.unusedSimpArgs false
set_option maxRecDepth 100000

namespace Go.Proofs.YtpopmiodjibljaaGreatDoor
open Go Go.Abs Go.ChangeShapes Go.WideShapes Go.ChangeAt Go.RowKit
namespace BackCodes
theorem f1:(Rows.backCodesUptoRow.inPlace==Tryz.prog.inPlace 7)=true:=by kernel_rfl
theorem f2:(Rows.backCodesUptoRow.unfollowed==Tryz.prog.unfollowed 7)=true:=by kernel_rfl
end BackCodes
end Go.Proofs.YtpopmiodjibljaaGreatDoor

