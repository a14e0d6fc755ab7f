/- A part of the proof: a layer of abstract values over the kit's walks, an evaluator over it, and walks of functions. -/
import Derived.Test.YtpopmiodjibljaaGreatDoorBlfG
set_option linter.unusedVariables false
set_option linter.unusedSimpArgs false
set_option maxRecDepth 100000

namespace Go.Proofs.YtpopmiodjibljaaGreatDoor
open Go Go.Abs
theorem zri:PTr Tryz.prog 50 [.str [92,40,40,63,58,91,94,40,41,93,124,40,63,48,41,41,42,92,41],.str []] (.tup [.agg pat2.cells,i64 0,i64 0]):=
 PTr.runD (fuel:=1000) okL hmix hext (znp okL zq8) 100 100 I (by kernel_rfl)
end Go.Proofs.YtpopmiodjibljaaGreatDoor

