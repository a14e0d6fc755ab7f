/- A part of the proof: a layer of abstract values over the kit's walks, an evaluator over it, and walks of functions. -/
import Derived.Test.YtpopmiodjibljaaGreatDoorPclG
set_option linter.unusedVariables false
set_option linter.unusedSimpArgs false

namespace Go.Proofs.YtpopmiodjibljaaGreatDoor
open Go Go.Abs
theorem known12_true : PTr Tryz.prog 16 [] (.bool true) := PTr.runF (fuel := 1000) okL hmix hext (extS_ok okL sortS) 100 rfl (by kernel_rfl)
end Go.Proofs.YtpopmiodjibljaaGreatDoor

