/- A part of the proof. -/
import Derived.Test.YtpopmiodjibljaaGreatDoorBwhM
set_option linter.unusedVariables false
set_option linter.unusedSimpArgs false
set_option maxRecDepth 100000

namespace Go.Proofs.YtpopmiodjibljaaGreatDoor
open Go Go.Abs Go.ChangeShapes Go.WideShapes Go.ChangeAt Go.RowKit
namespace BackWholes
theorem f3:(Rows.backWholesUptoRow.recurses==Tryz.prog.recurses 11)=true:=by kernel_rfl
theorem f4:(Rows.backWholesUptoRow.named==Tryz.prog.varsNamed 11)=true:=by kernel_rfl
end BackWholes
end Go.Proofs.YtpopmiodjibljaaGreatDoor

