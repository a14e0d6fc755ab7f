/- A part of the proof. -/
import Derived.Test.YtpopmiodjibljaaGreatDoorBwyG
set_option linter.unusedVariables false
set_option linter.unusedSimpArgs false
set_option maxRecDepth 100000

namespace Go.Proofs.YtpopmiodjibljaaGreatDoor
open Go Go.Abs
def s2:List UInt8:=[92,40,40,63,58,91,94,40,41,93,124,40,63,48,41,41,42,92,41]
theorem zdj:s2.length≤1000:=by decide
theorem zr3:zeo (srtS (spC [40,41]))=[(40,41)]:=by
 have h:=zh4 (l:=spC [40,41]) (l':=spC [40,41]) (ar _) (by
  refine List.Pairwise.cons (fun x hx=>?_) (List.pairwise_singleton _ _);rw[List.mem_singleton.1 hx];decide) (fun x hx=>by
  simp only[spC,aU,bk,bx,dj,or_false] at hx;unfold okS';rcases hx with rfl|rfl<;>decide)
 rw[←h];rfl
theorem zrh(R:Rdr)(h:R.s=s2):ClsR R 7 [40,41] where
 len:=by rw[h];decide
 ne:=by decide
 n100:=by decide
 ch i c hi:=by
  rw[h]
  match i,hi with
  |0,hi=>cases hi;exact⟨rfl,rfl,rfl,rfl,rfl⟩
  |1,hi=>cases hi;exact⟨rfl,rfl,rfl,rfl,rfl⟩
  |_+2,hi=>simp at hi
 close:=by rw[h];rfl
 nd i h0 h1:=by
  rw[h];have h1:i≤2:=h1
  match i,h0,h1 with
  |1,_,_=>rfl
  |2,_,_=>rfl
 nc i h0 h1:=by
  rw[h];have h1:i<2:=h1
  match i,h0,h1 with
  |1,_,_=>rfl
theorem der2(R:Rdr)(h:R.s=s2):Yld 98 [] R ⟨0,0,[]⟩ pat2 ⟨19,0,[]⟩:=by
 have hl:R.s.length≤1000:=by rw[h];exact zdj
 have e1:Yld 201 [] R ⟨0,0,[]⟩ (zkR 40) ⟨2,0,[]⟩:=zbM R _ ⟨2,0,[]⟩ _ (by rw[h];decide) hl (zgk R ⟨0,0,[]⟩ ⟨2,0,[]⟩ _ (by rw[h];decide) hl (by rw[h];rfl) (zpt R ⟨1,0,[]⟩ (by rw[h];decide) hl 40 (by rw[h];rfl) (.inl I))) (by rw[h];rfl);have e2:Yld 201 [] R ⟨17,0,[]⟩ (zkR 41) ⟨19,0,[]⟩:=zbM R _ ⟨19,0,[]⟩ _ (by rw[h];decide) hl (zgk R ⟨17,0,[]⟩ ⟨19,0,[]⟩ _ (by rw[h];decide) hl (by rw[h];rfl) (zpt R ⟨18,0,[]⟩ (by rw[h];decide) hl 41 (by rw[h];rfl) (.inr I))) (by rw[h];rfl);have c1:Yld 201 [] R ⟨5,0,[]⟩ (.mk 3 1 0 0 [] (zeo (srtS (spC [40,41]))) []) ⟨10,0,[]⟩:=zbM R _ ⟨10,0,[]⟩ _ (by rw[h];decide) hl (zla R ⟨5,0,[]⟩ ⟨10,0,[]⟩ _ (by rw[h];decide) hl (by rw[h];rfl) (znL R ⟨6,0,[]⟩ [40,41] hl (by rw[h];rfl) (zrh R h))) (by rw[h];rfl);rw[zr3] at c1;have c2:Yld 201 [] R ⟨11,0,[]⟩ (.mk 14 0 0 0 [] [] []) ⟨15,0,[]⟩:=zbM R _ ⟨15,0,[]⟩ _ (by rw[h];decide) hl (zeG R ⟨11,0,[]⟩ ⟨15,0,[]⟩ _ (by rw[h];decide) hl (by rw[h];rfl) (zkw R ⟨12,0,[]⟩ (by rw[h];decide) hl (by rw[h];rfl) (by rw[h];rfl) (by rw[h];rfl))) (by rw[h];rfl);have g:=altT h zdj (by decide) I (catT h zdj (by decide) I (catC h zdj c1 (by decide) (by decide) (by decide) (catE h zdj 10 (.inr (by decide)))))
  (altC h zdj (by decide) I (catT h zdj (by decide) I (catC h zdj c2 (by decide) (by decide) (by decide) (catE h zdj 15 (.inr (by decide))))) (altE h zdj 15 (by decide) I))
 have st:=zgq R ⟨2,0,[]⟩ ⟨16,0,[]⟩ _ (by rw[h];decide) hl (zeG R ⟨2,0,[]⟩ ⟨16,0,[]⟩ _ (by rw[h];decide) hl (by rw[h];rfl) (zm3 R ⟨3,0,[]⟩ ⟨15,0,[]⟩ _ (by rw[h];decide) hl (by rw[h];rfl) (by rw[h];rfl) g (by rw[h];decide) (by rw[h];rfl))) (by rw[h];rfl) (by rw[h];rfl);exact altT h zdj (by decide) I (catT h zdj (by decide) I (catC h zdj e1 (by decide) (by decide) (by decide) (catC h zdj st (by decide) (by decide) (by decide) (catC h zdj e2 (by decide) (by decide) (by decide) (catE h zdj 19 (.inl I)))))) (altE h zdj 19 (by decide) I)
theorem zrH:PTr Tryz.prog 50 [.str s2,.str []] (.tup [.agg pat2.C,i64 0,i64 0]):=zjZ s2 (by decide) (by decide) pat2 0 [] (by kernel_rfl) (by kernel_rfl) der2
end Go.Proofs.YtpopmiodjibljaaGreatDoor

