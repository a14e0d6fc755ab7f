/- A part of the proof. -/
import Derived.Test.YtpopmiodjibljaaGreatDoorBcdO
set_option linter.unusedVariables false
set_option linter.unusedSimpArgs false
set_option maxRecDepth 100000

namespace Go.Proofs.YtpopmiodjibljaaGreatDoor
open Go Go.Abs Go.ChangeShapes Go.WideShapes Go.ChangeAt Go.RowKit
namespace BackCodes
theorem zr6:joinedFacts Tryz.prog 7 Tryz.f7 (Rows.OpenSpec.upto Rows.backCodesSpec).bare Rows.backCodesUptoRow=true:=by
 unfold joinedFacts;rw[f1,f2,f3,f4,f5,f6,f7]
 kernel_rfl
end BackCodes
end Go.Proofs.YtpopmiodjibljaaGreatDoor

