/- A part of the proof: a layer of abstract values over the kit's walks, an evaluator over it, and walks of functions. -/
import Derived.Test.YtpopmiodjibljaaGreatDoorBlfO
set_option linter.unusedVariables false
set_option linter.unusedSimpArgs false
set_option maxRecDepth 100000

namespace Go.Proofs.YtpopmiodjibljaaGreatDoor
open Go Go.Abs Go.ChangeShapes Go.WideShapes Go.ChangeAt Go.RowKit
namespace BackLeftmost
theorem zrF:joinedFacts Tryz.prog 8 Tryz.f8 (Rows.OpenSpec.upto Rows.backLeftmostSpec).bare Rows.backLeftmostUptoRow=true:=by
 unfold joinedFacts;rw [f1,f2,f3,f4,f5,f6,f7]
 kernel_rfl
end BackLeftmost
end Go.Proofs.YtpopmiodjibljaaGreatDoor

