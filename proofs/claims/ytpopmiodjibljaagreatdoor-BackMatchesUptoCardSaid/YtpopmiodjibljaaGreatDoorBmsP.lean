/- A part of the proof. -/
import Derived.Test.YtpopmiodjibljaaGreatDoorBmsO
set_option linter.unusedVariables false
set_option linter.unusedSimpArgs false
set_option maxRecDepth 100000

namespace Go.Proofs.YtpopmiodjibljaaGreatDoor
open Go Go.Abs Go.ChangeShapes Go.WideShapes Go.ChangeAt Go.RowKit
namespace BackMatches
theorem zr3:joinedFacts Tryz.prog 4 Tryz.f4 (Rows.OpenSpec.upto Rows.backMatchesSpec).bare Rows.backMatchesUptoRow=true:=by
 unfold joinedFacts;rw[f1,f2,f3,f4,f5,f6,f7]
 kernel_rfl
end BackMatches
end Go.Proofs.YtpopmiodjibljaaGreatDoor

