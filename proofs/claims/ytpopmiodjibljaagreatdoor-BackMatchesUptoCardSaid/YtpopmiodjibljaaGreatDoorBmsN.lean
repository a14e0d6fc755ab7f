/- A part of the proof. -/
import Derived.Test.YtpopmiodjibljaaGreatDoorBmsM
set_option linter.unusedVariables false
set_option linter.unusedSimpArgs false
set_option maxRecDepth 100000

namespace Go.Proofs.YtpopmiodjibljaaGreatDoor
open Go Go.Abs Go.ChangeShapes Go.WideShapes Go.ChangeAt Go.RowKit
namespace BackMatches
theorem f3:(Rows.backMatchesUptoRow.recurses==Tryz.prog.recurses 4)=true:=by kernel_rfl
theorem f4:(Rows.backMatchesUptoRow.named==Tryz.prog.varsNamed 4)=true:=by kernel_rfl
end BackMatches
end Go.Proofs.YtpopmiodjibljaaGreatDoor

