/- A part of the proof. -/
import Derived.Test.YtpopmiodjibljaaGreatDoorBssM
set_option linter.unusedVariables false
set_option linter.unusedSimpArgs false
set_option maxRecDepth 100000

namespace Go.Proofs.YtpopmiodjibljaaGreatDoor
open Go Go.Abs Go.ChangeShapes Go.WideShapes Go.ChangeAt Go.RowKit
namespace BackSearches
theorem f3:(Rows.backSearchesUptoRow.recurses==Tryz.prog.recurses 5)=true:=by kernel_rfl
theorem f4:(Rows.backSearchesUptoRow.named==Tryz.prog.varsNamed 5)=true:=by kernel_rfl
end BackSearches
end Go.Proofs.YtpopmiodjibljaaGreatDoor

