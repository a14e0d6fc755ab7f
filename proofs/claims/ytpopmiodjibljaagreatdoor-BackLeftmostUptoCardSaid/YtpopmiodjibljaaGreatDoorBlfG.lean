/- A part of the proof: a layer of abstract values over the kit's walks, an evaluator over it, and walks of functions. -/
import Derived.Test.YtpopmiodjibljaaGreatDoorBlfF
set_option linter.unusedVariables false
set_option linter.unusedSimpArgs false
set_option maxRecDepth 100000

namespace Go.Proofs.YtpopmiodjibljaaGreatDoor
open Go Go.Abs
def chN (c:Int):Pat:=.mk 1 c 0 0 [] [] []
def grN (n:Int) (y:Pat):Pat:=.mk 7 n 0 0 [] [] [y]
def pat1:Pat:=.mk 4 0 0 0 [] [] [grN 1 (.mk 5 0 0 0 [] [] [chN 97,.mk 4 0 0 0 [] [] [chN 97,chN 98]]),grN 2 (.mk 5 0 0 0 [] [] [chN 99,.mk 4 0 0 0 [] [] [chN 98,chN 99,chN 100]]),grN 3 (.mk 6 0 0 (-1) [] [] [chN 100])]
def pat2:Pat:=.mk 4 0 0 0 [] [] [chN 40,.mk 6 0 0 (-1) [] [] [.mk 5 0 0 0 [] [] [.mk 3 1 0 0 [] [(40,41)] [],.mk 14 0 0 0 [] [] []]],chN 41]
theorem zra:PTr Tryz.prog 50 [.str [40,97,124,97,98,41,40,99,124,98,99,100,41,40,100,42,41],.str []] (.tup [.agg pat1.cells,i64 0,i64 0]):=
 PTr.runD (fuel:=1000) okL hmix hext (znp okL zq8) 100 100 I (by kernel_rfl)
end Go.Proofs.YtpopmiodjibljaaGreatDoor

