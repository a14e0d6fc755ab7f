/- A part of the proof. -/
import Derived.Test.YtpopmiodjibljaaGreatDoorBwyF
set_option linter.unusedVariables false
set_option linter.unusedSimpArgs false
set_option maxRecDepth 100000

namespace Go.Proofs.YtpopmiodjibljaaGreatDoor
open Go Go.Abs
def chN(c:Int):Pat:=.mk 1 c 0 0 [] [] []
def grN(n:Int)(y:Pat):Pat:=.mk 7 n 0 0 [] [] [y]
def pat1:Pat:=.mk 4 0 0 0 [] [] [grN 1 (.mk 5 0 0 0 [] [] [chN 97,.mk 4 0 0 0 [] [] [chN 97,chN 98]]),grN 2 (.mk 5 0 0 0 [] [] [chN 99,.mk 4 0 0 0 [] [] [chN 98,chN 99,chN 100]]),grN 3 (.mk 6 0 0 (-1) [] [] [chN 100])]
def pat2:Pat:=.mk 4 0 0 0 [] [] [chN 40,.mk 6 0 0 (-1) [] [] [.mk 5 0 0 0 [] [] [.mk 3 1 0 0 [] [(40,41)] [],.mk 14 0 0 0 [] [] []]],chN 41]
def s1:List UInt8:=[40,97,124,97,98,41,40,99,124,98,99,100,41,40,100,42,41]
theorem zbi:s1.length≤1000:=by decide
theorem der1(R:Rdr)(h:R.s=s1):Yld 98 [] R ⟨0,0,[]⟩ pat1 ⟨17,3,[[],[],[]]⟩:=by
 have c:=fun(k:Nat) (c:UInt8) (gr:Int) (nm:List (List UInt8)) a1 a2 a3 a4=>zr9 (gr:=gr) (nm:=nm) h zbi k c a1 a2 a3 a4;have g1:=altT h zbi (by decide) I (catT h zbi (by decide) I (catC h zbi (c 1 97 1 [[]] (by decide) I I I) (by decide) (by decide) (by decide) (catE h zbi 2 (.inr (by decide))))) (altC h zbi (by decide) I (catT h zbi (by decide) I (catC h zbi (c 3 97 1 [[]] (by decide) I I I) (by decide) (by decide) (by decide) (catC h zbi (c 4 98 1 [[]] (by decide) I I I) (by decide) (by decide) (by decide) (catE h zbi 5 (.inr (by decide)))))) (altE h zbi 5 (by decide) I));have g2:=altT h zbi (by decide) I (catT h zbi (by decide) I (catC h zbi (c 7 99 2 [[],[]] (by decide) I I I) (by decide) (by decide) (by decide) (catE h zbi 8 (.inr (by decide))))) (altC h zbi (by decide) I (catT h zbi (by decide) I (catC h zbi (c 9 98 2 [[],[]] (by decide) I I I) (by decide) (by decide) (by decide) (catC h zbi (c 10 99 2 [[],[]] (by decide) I I I) (by decide) (by decide) (by decide) (catC h zbi (c 11 100 2 [[],[]] (by decide) I I I) (by decide) (by decide) (by decide) (catE h zbi 12 (.inr (by decide))))))) (altE h zbi 12 (by decide) I));have st:Yld 201 [] R ⟨14,3,[[],[],[]]⟩ (zrL (zkR 100)) ⟨16,3,[[],[],[]]⟩:=by
  have hl:R.s.length≤1000:=by rw[h];exact zbi
  have ha:=zfy R ⟨14,3,[[],[],[]]⟩ (by rw[h];decide) hl (by rw[h];exact zpp I);rw[show cur R.s (PQ.at_ ⟨14,3,[[],[],[]]⟩)=100 by rw[h];rfl] at ha
  exact zgq R _ ⟨15,3,[[],[],[]]⟩ _ (by rw[h];decide) hl ha (by rw[h];rfl) (by rw[h];rfl)
 have g3:=altT h zbi (by decide) I (catT h zbi (by decide) I (catC h zbi st (by decide) (by decide) (by decide) (catE h zbi 16 (.inr (by decide))))) (altE h zbi 16 (by decide) I);exact altT h zbi (by decide) I (catT h zbi (by decide) I (catC h zbi (zlV h zbi 0 (gr:=0) (nm:=[]) (by decide) I I I (by decide) (by decide) (by decide) I I g1) (by decide) (by decide) (by decide) (catC h zbi (zlV h zbi 6 (gr:=1) (nm:=[[]]) (by decide) I I I (by decide) (by decide) (by decide) I I g2) (by decide) (by decide) (by decide) (catC h zbi (zlV h zbi 13 (gr:=2) (nm:=[[],[]]) (by decide) I I I (by decide) (by decide) (by decide) I I g3) (by decide) (by decide) (by decide) (catE h zbi 17 (.inl I)))))) (altE h zbi 17 (by decide) I)
theorem zry:PTr Tryz.prog 50 [.str s1,.str []] (.tup [.agg pat1.C,i64 0,i64 0]):=zjZ s1 (by decide) (by decide) pat1 3 [[],[],[]] (by kernel_rfl) (by kernel_rfl) der1
end Go.Proofs.YtpopmiodjibljaaGreatDoor

