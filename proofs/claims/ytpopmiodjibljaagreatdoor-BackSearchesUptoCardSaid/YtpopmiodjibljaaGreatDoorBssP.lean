/- A part of the proof. -/
import Derived.Test.YtpopmiodjibljaaGreatDoorBssO
set_option linter.unusedVariables false
set_option linter.unusedSimpArgs false
set_option maxRecDepth 100000

namespace Go.Proofs.YtpopmiodjibljaaGreatDoor
open Go Go.Abs Go.ChangeShapes Go.WideShapes Go.ChangeAt Go.RowKit
namespace BackSearches
theorem zr7:joinedFacts Tryz.prog 5 Tryz.f5 (Rows.OpenSpec.upto Rows.backSearchesSpec).bare Rows.backSearchesUptoRow=true:=by
 unfold joinedFacts;rw[f1,f2,f3,f4,f5,f6,f7]
 kernel_rfl
end BackSearches
end Go.Proofs.YtpopmiodjibljaaGreatDoor

