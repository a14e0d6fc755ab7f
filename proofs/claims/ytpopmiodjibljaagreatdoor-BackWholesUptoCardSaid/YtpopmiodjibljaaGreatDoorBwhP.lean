/- A part of the proof. -/
import Derived.Test.YtpopmiodjibljaaGreatDoorBwhO
set_option linter.unusedVariables false
set_option linter.unusedSimpArgs false
set_option maxRecDepth 100000

namespace Go.Proofs.YtpopmiodjibljaaGreatDoor
open Go Go.Abs Go.ChangeShapes Go.WideShapes Go.ChangeAt Go.RowKit
namespace BackWholes
theorem zsg:joinedFacts Tryz.prog 11 Tryz.f11 (Rows.OpenSpec.upto Rows.backWholesSpec).bare Rows.backWholesUptoRow=true:=by
 unfold joinedFacts;rw[f1,f2,f3,f4,f5,f6,f7]
 kernel_rfl
end BackWholes
end Go.Proofs.YtpopmiodjibljaaGreatDoor

