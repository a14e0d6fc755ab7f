/- A part of the proof. -/
import Derived.Test.YtpopmiodjibljaaGreatDoorBwyM
import Derived.Test.YtpopmiodjibljaaGreatDoorBwyN
import Derived.Test.YtpopmiodjibljaaGreatDoorBwyO
set_option linter.unusedVariables false
set_option linter.unusedSimpArgs false
set_option maxRecDepth 100000

namespace Go.Proofs.YtpopmiodjibljaaGreatDoor
open Go Go.Abs Go.ChangeShapes Go.WideShapes Go.ChangeAt Go.RowKit
namespace BackWays
theorem zsi:joinedFacts Tryz.prog 9 Tryz.f9 (Rows.OpenSpec.upto Rows.backWaysSpec).bare Rows.backWaysUptoRow=true:=by
 unfold joinedFacts;rw[f1,f2,f3,f4,f5,f6,f7]
 kernel_rfl
end BackWays
end Go.Proofs.YtpopmiodjibljaaGreatDoor

