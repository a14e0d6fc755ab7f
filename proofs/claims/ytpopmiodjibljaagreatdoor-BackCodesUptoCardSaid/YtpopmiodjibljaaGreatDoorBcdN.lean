/- A part of the proof. -/
import Derived.Test.YtpopmiodjibljaaGreatDoorBcdM
set_option linter.unusedVariables false
set_option linter.unusedSimpArgs false
set_option maxRecDepth 100000

namespace Go.Proofs.YtpopmiodjibljaaGreatDoor
open Go Go.Abs Go.ChangeShapes Go.WideShapes Go.ChangeAt Go.RowKit
namespace BackCodes
theorem f3:(Rows.backCodesUptoRow.recurses==Tryz.prog.recurses 7)=true:=by kernel_rfl
theorem f4:(Rows.backCodesUptoRow.named==Tryz.prog.varsNamed 7)=true:=by kernel_rfl
end BackCodes
end Go.Proofs.YtpopmiodjibljaaGreatDoor

