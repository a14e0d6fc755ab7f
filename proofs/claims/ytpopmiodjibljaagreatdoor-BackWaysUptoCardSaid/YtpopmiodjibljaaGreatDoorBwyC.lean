/- A part of the proof. -/
import Derived.Test.YtpopmiodjibljaaGreatDoorProg
import Derived.KernelRfl
import Derived.Test.YtpopmiodjibljaaGreatDoorBwyB
set_option linter.unusedVariables false
set_option linter.unusedSimpArgs false
set_option maxRecDepth 100000

namespace Go
open Go.Abs
abbrev aa:=@Flex4.Plan.pure
abbrev ah:=@Flex4.Qn_n
abbrev aq:=@AIn.nextN
abbrev ay:=@Flex4.Plan.quiet
abbrev aC:=@PTr.of_body
abbrev aD:=@Pl.quiet
abbrev aF:=@Flex4.Plan.nil
abbrev aH:=@Flex4.AWp.draw
abbrev aP:=@Flex4.Plan.skip
abbrev aR:=@Flex4.Plan.eff
abbrev b4:=@Pl.pure
abbrev bf:=@Pl.guardCase
abbrev bn:=@Flex4.Plan.eff1
abbrev bo:=@Sub.refl
abbrev bw:=@Pl.pureW
abbrev bK:=@Flex4.Plan.beside
abbrev bY:=@AC.simW
abbrev cf:=@PTrG.of_body
abbrev ct:=@Sub.nils
abbrev cx:=@SubL.cons
abbrev cA:=@AWp.freezeM
abbrev cB:=@AOp.pushL
abbrev cC:=@A.int.inj
abbrev cD:=@Rep.tup_of
abbrev cK:=@AOp.lookup
abbrev cL:=@AOp.shr
abbrev cS:=@AOp.mapUpdate
abbrev cU:=@AOp.appendG
abbrev cZ:=@AOp.makeMap
abbrev dm:=@Tr.of_body
abbrev dr:=@AWp.freezeF
abbrev du:=@AOp.eqNilDs
abbrev J:=@AC.nilE
abbrev O:=@AC.pln
abbrev J1:=@AOp.load
abbrev J2:=@AC.toCode
abbrev J3:=@AC.toOps
abbrev J4:=@AWp.condCase
abbrev J5:=@zac.one
abbrev J6:=@AOps.guardCase
abbrev J7:=@AOps.pln
abbrev J8:=@AOp.store
abbrev J9:=@AOp.callP
abbrev Ja:=@AOps.nil
abbrev Jb:=@TrG.of_body
abbrev Jc:=@AOp.boxD
abbrev Jd:=@AOp.callK
abbrev Je:=@AC.toPl
abbrev Jf:=@AOp.alloc
abbrev Jg:=@AC.wtd
abbrev Jh:=@AOp.buildSlice
abbrev Ji:=@AOp.callH
abbrev Jj:=@AWp.loopM
abbrev Jk:=@AOp.box
abbrev Jl:=@AOps.perm
abbrev Jm:=@zac.two
abbrev Jn:=@AOp.callMid
abbrev Jo:=@AC.sim
abbrev Jp:=@AOp.callG
abbrev Jq:=@AC.drawn
abbrev Jr:=@AOp.callPG
abbrev Js:=@AOps.dropL
abbrev Jt:=@AOp.pushM
abbrev Ju:=@zac.cellTmp2
abbrev Jv:=@AWp.know
abbrev Jw:=@zac.cell
abbrev Jx:=@AOp.buildF
abbrev Jy:=@AOps.wtd
abbrev Jz:=@AOps.freezeM
abbrev Y1:=@AWp.join
abbrev Y2:=@AOp.insert
end Go
namespace Go.Abs
open Go
abbrev i64(n:Int):A:=.int .i64 n
inductive Pat where
 |mk (op n min max:Int) (name:List UInt8) (set:List (Int×Int)) (l:List Pat)
 deriving Inhabited
namespace Pat
def op:Pat→Int|.mk a _ _ _ _ _ _=>a
def n:Pat→Int|.mk _ a _ _ _ _ _=>a
def min:Pat→Int|.mk _ _ a _ _ _ _=>a
def max:Pat→Int|.mk _ _ _ a _ _ _=>a
def name:Pat→List UInt8|.mk _ _ _ _ a _ _=>a
def set:Pat→List (Int×Int)|.mk _ _ _ _ _ a _=>a
def l:Pat→List Pat|.mk _ _ _ _ _ _ a=>a
end Pat
def zaf(s:Int×Int):List A:=[i64 s.1,i64 s.2]
mutual
def Pat.cells:Pat→List A
 |.mk op n mn mx nm st l=>[i64 op,i64 n,i64 mn,i64 mx,.str nm,.ds (st.map zaf),.ds (Pat.cellsL l)]
def Pat.cellsL:List Pat→List (List A)
 |[]=>[]
 |x::l=>x.cells::Pat.cellsL l
end
theorem Pat.cellsL_eq(l:List Pat):Pat.cellsL l=l.map Pat.cells:=by
 induction l with
 |nil=>rfl
 |cons x l ih=>simp[Pat.cellsL,ih]
def Pat.C(x:Pat):List A:=[i64 x.op,i64 x.n,i64 x.min,i64 x.max,.str x.name,.ds (x.set.map zaf),.ds (x.l.map Pat.cells)]
theorem Pat.cells_eq(x:Pat):x.cells=x.C:=by
 cases x;simp[Pat.cells,Pat.C,Pat.cellsL_eq,Pat.op,Pat.n,Pat.min,Pat.max,Pat.name,Pat.set,Pat.l]
theorem Pat.ind{M:Pat→Prop}(h:∀x:Pat,(∀y∈x.l,M y)→M x)(x:Pat):M x:=
 Pat.rec (motive_1:=M) (motive_2:=fun l=>∀y∈l,M y) (fun op n mn mx nm st l ih=>h (.mk op n mn mx nm st l) ih) (fun y hy=>by cases hy) (fun a l ha hl y hy=>by
  rcases List.mem_cons.1 hy with rfl|hy
  ·exact ha
  ·exact hl y hy) x
theorem getC{l:List Pat}{k:Nat}{y:Pat}(h:l[k]?=some y):(l.map Pat.cells)[((k:Nat):Int).toNat]?=some y.C:=by simp[h,Pat.cells_eq]
theorem getS{l:List (Int×Int)}{k:Nat}{y:Int×Int}(h:l[k]?=some y):(l.map zaf)[((k:Nat):Int).toNat]?=some (zaf y):=by simp[h]
theorem zaA{α:Type}{l:List α}{k:Nat}{y:α}(h:l[k]?=some y):l.drop k=y::l.drop (k+1):=by
 obtain⟨hk,rfl⟩:=List.getElem?_eq_some_iff.1 h;exact List.drop_eq_getElem_cons hk
end Go.Abs
namespace Go.Bk
open Go Go.Abs
structure Sg where
 at_:Int
 keep:Int
 caps:List (Int×Int)
 calls:List (Int×Int)
inductive Fm where
 |cat (x:Pat) (n:Nat)
 |turn (x:Pat) (many fr:Int)
 |group (x:Pat) (fr:Int)
 |call (s:Sg)
 |stop (want:Int)
 |fin
structure Wk where
 p:Nat
 r:Nat
 codes:List Int
 acc:List Int
inductive BOut where
 |no
 |yes (s:Sg)
 |cut (n:Nat)
 |tired
inductive Task where
 |try_ (x:Pat) (s:Sg) (k:List Fm)
 |go (k:List Fm) (s:Sg)
 |alts (l:List Pat) (s:Sg) (k:List Fm)
 |turn (x:Pat) (many:Int) (s:Sg) (k:List Fm)
abbrev BRes:=Option (BOut×Wk)
structure Bk where
 takes:Pat→Int→Bool
 holds:Pat→Int→Bool
 copied:Int×Int→Int→Int
 bit:Int→Bool
 least:Pat→Int
 body:Int→Pat
 stop:List Int→Bool
 tau:Nat→Nat→Bool
def barr:List Fm→List Fm
 |[]=>[]
 |.call s::k=>.call s::k
 |.stop w::k=>.stop w::k
 |.fin::k=>.fin::k
 |.cat _ _::k=>barr k
 |.turn _ _ _::k=>barr k
 |.group _ _::k=>barr k
def lvl:List Fm→Nat
 |[]=>0
 |.call _::k=>lvl k+1
 |.stop _::k=>lvl k+1
 |.fin::k=>lvl k+1
 |.cat _ _::k=>lvl k
 |.turn _ _ _::k=>lvl k
 |.group _ _::k=>lvl k
def fstL(l:List Pat):Pat:=l.headD default
def sndL(l:List Pat):Pat:=(l.drop 1).headD default
def capN(s:Sg)(n:Int):Int×Int:=s.caps.getD n.toNat (-1,-1)
inductive Tm where
 |ret (r:BOut×Wk)
 |ask (t:Task) (w:Wk) (f:BOut×Wk→Tm)
def Tm.eval(rec:Task→Wk→BRes):Tm→BRes
 |.ret r=>some r
 |.ask t w f=>(rec t w).bind fun r=>(f r).eval rec
def Tm.last(t:Task)(w:Wk):Tm:=.ask t w .ret
section
variable(B:Bk)
def thenS(k:List Fm)(s:Sg):BOut×Wk→Tm
 |(.yes e,w)=>.last (.go k {e with calls:=s.calls}) w
 |(.tired,w)=>.ret (.tired,w)
 |(_,w)=>.ret (.no,w)
def zbj(x:Pat)(k:List Fm)(s:Sg):BOut×Wk→Tm
 |(.tired,w)=>.ret (.tired,w)
 |(.yes e,w)=>if x.n%2=0 then .last (.go k {s with caps:=e.caps}) w else .ret (.no,w)
 |(_,w)=>if x.n%2=0 then .ret (.no,w) else .last (.go k s) w
def zdP(k:List Fm):BOut×Wk→Tm
 |(.cut j,w)=>if j=lvl k+1 then .ret (.no,w) else .ret (.cut j,w)
 |(o,w)=>.ret (o,w)
def zhd(k:List Fm):BOut×Wk→Tm
 |(.no,w)=>.ret (.cut (lvl k),w)
 |(o,w)=>.ret (o,w)
def zdR(f:Wk→Tm):BOut×Wk→Tm
 |(.no,w)=>f w
 |(o,w)=>.ret (o,w)
def catS(x:Pat)(n:Nat)(s:Sg)(k:List Fm)(w:Wk):Tm:=
 match x.l[n]? with
 |some y=>.last (.try_ y s (.cat x (n+1)::k)) w
 |none=>.last (.go k s) w
def zcm(x:Pat)(many:Int)(s:Sg)(k:List Fm)(w:Wk):Tm:=
 if x.n=1 then
  (if many≥x.min then
   .ask (.go k s) w (zdR fun w=>if x.max<0∨many<x.max then .last (.try_ (fstL x.l) s (.turn x many s.at_::k)) w else .ret (.no,w))
   else (if x.max<0∨many<x.max then .last (.try_ (fstL x.l) s (.turn x many s.at_::k)) w else .ret (.no,w)))
 else
  (if x.max<0∨many<x.max then
   .ask (.try_ (fstL x.l) s (.turn x many s.at_::k)) w (zdR fun w=>if many≥x.min then .last (.go k s) w else .ret (.no,w))
   else (if many≥x.min then .last (.go k s) w else .ret (.no,w)))
def zcE(x:Pat):Pat:=.mk x.op 0 x.min x.max x.name x.set x.l
def zbB(x:Pat)(w:Wk):Wk:=if w.codes.length<100 then {w with codes:=w.codes++[x.n]} else w
def zbY(x:Pat)(s:Sg):Int:=if x.n>1 then s.at_ - B.least (fstL x.l) else s.at_
def zeO(x:Pat)(s:Sg):Int:=if x.n>1 then s.at_ else -1
def zaF(x:Pat)(s:Sg)(k:List Fm)(w:Wk):Tm:=
 if x.op=1∨x.op=2∨x.op=3 then (if B.takes x s.at_=true then .last (.go k {s with at_:=s.at_+1}) w else .ret (.no,w))
 else if x.op=4 then catS x 0 s k w
 else if x.op=5 then .last (.alts x.l s k) w
 else if x.op=6 then (if x.n=2 then .ask (.turn (zcE x) 0 s [.stop (-1)]) w (thenS k s) else .last (.turn x 0 s k) w)
 else if x.op=7 then .last (.try_ (fstL x.l) s (.group x s.at_::k)) w
 else if x.op=8 then
  (if (fstL x.l).op=6 then
   (if B.tau (w.p+1) w.r=true then .ret (.tired,{w with p:=w.p+1})
    else .ask (.turn (fstL x.l) 0 s [.stop (-1)]) {w with p:=w.p+1} (thenS k s))
   else .ask (.try_ (fstL x.l) s [.stop (-1)]) w (thenS k s))
 else if x.op=9 then
  (if zbY B x s<0 then zbj x k s (.no,w) else .ask (.try_ (fstL x.l) {s with at_:=zbY B x s} [.stop (zeO x s)]) w (zbj x k s))
 else if x.op=10 then (if B.copied (capN s x.n) s.at_<0 then .ret (.no,w) else .last (.go k {s with at_:=s.at_+B.copied (capN s x.n) s.at_}) w)
 else if x.op=11∨x.op=12∨x.op=13 then (if B.holds x s.at_=true then .last (.go k s) w else .ret (.no,w))
 else if x.op=14 then
  (if (x.n,s.at_)∈s.calls∨s.calls.length≥20 then .ret (.no,w)
   else .ask (.try_ (B.body x.n) {s with calls:=(x.n,s.at_)::s.calls} (.call s::k)) w (zdP k))
 else if x.op=15 then (if (capN s x.n).1≥0 then .last (.try_ (fstL x.l) s k) w else .last (.try_ (sndL x.l) s k) w)
 else if x.op=16 then
  (if x.n=0 then .ret (.no,w) else if x.n=1 then .last (.go (barr k) s) w else .ask (.go k s) w (zhd k))
 else if x.op=17 then (if B.bit x.n=true then .last (.go k s) (zbB x w) else .ret (.no,zbB x w))
 else if x.op=18 then .last (.go k {s with keep:=s.at_}) w
 else .last (.go k s) w
def goS(s:Sg)(w:Wk):List Fm→Tm
 |[]=>.ret (.no,w)
 |.cat x n::k=>catS x n s k w
 |.turn x many fr::k=>if many≥x.min∧s.at_=fr then .ret (.no,w) else .last (.turn x (many+1) s k) w
 |.group x fr::k=>.last (.go k {s with caps:=s.caps.set x.n.toNat (fr,s.at_)}) w
 |.call o::k=>.last (.go k {o with at_:=s.at_}) w
 |.stop want::_=>if want≥0∧want≠s.at_ then .ret (.no,w) else .ret (.yes s,w)
 |.fin::_=>if B.stop (w.acc++[s.at_])=true then .ret (.yes s,{w with acc:=w.acc++[s.at_]}) else .ret (.no,{w with acc:=w.acc++[s.at_]})
def zl0(s:Sg)(k:List Fm)(w:Wk):List Pat→Tm
 |[]=>.ret (.no,w)
 |y::l=>.ask (.try_ y s k) w (zdR (.last (.alts l s k)))
def tick(w:Wk):Wk:={w with p:=w.p+1,r:=w.r+1}
def runS(t:Task)(w:Wk):Tm:=
 match t with
 |.try_ x s k=>if B.tau (w.p+1) (w.r+1)=true then .ret (.tired,tick w) else zaF B x s k (tick w)
 |.go k s=>goS B s w k
 |.alts l s k=>zl0 s k w l
 |.turn x many s k=>zcm x many s k w
end
def brun(B:Bk):Nat→Task→Wk→BRes
 |0,_,_=>none
 |n+1,t,w=>(runS B t w).eval (brun B n)
structure Lat(R:Wk→Wk→Prop):Prop where
 refl:∀a:Wk,R a a
 code:∀(x:Pat) (a:Wk),R a (zbB x a)
 fin:∀(a:Wk) (l:List Int),R a {a with acc:=l}
 trans:∀a b c:Wk,R a b→R b c→R a c
theorem zmt(x:Pat)(w:Wk):(zbB x w).p=w.p∧(zbB x w).r=w.r:=by unfold zbB;split<;>exact⟨I,I⟩
def Wk.le(a b:Wk):Prop:=a.r≤b.r∧a.p≤b.p∧b.r+a.p≤b.p+a.r∧b.p+2*a.r≤a.p+2*b.r
def Wk.lw(a b:Wk):Prop:=a.r≤b.r∧a.p≤b.p∧b.r+a.p≤b.p+a.r
theorem zcp:Lat Wk.le:=⟨fun a=>by unfold Wk.le;omega,fun x a=>by have:=zmt x a;unfold Wk.le;omega,fun a l=>by unfold Wk.le;simp only;omega,fun a b c h1 h2=>by unfold Wk.le at*;omega⟩
theorem zdT:Lat Wk.lw:=⟨fun a=>by unfold Wk.lw;omega,fun x a=>by have:=zmt x a;unfold Wk.lw;omega,fun a l=>by unfold Wk.lw;simp only;omega,fun a b c h1 h2=>by unfold Wk.lw at*;omega⟩
inductive Tm.Good(R:Wk→Wk→Prop):Wk→Tm→Prop
 |ret {w0:Wk} (o:BOut) (w:Wk) (h:R w0 w):Tm.Good R w0 (.ret (o,w))
 |ask {w0:Wk} (t:Task) (w:Wk) (f:BOut×Wk→Tm) (h:R w0 w) (ht:∀w1,f (.tired,w1)=.ret (.tired,w1)) (hf:∀o w1,R w w1→Tm.Good R w1 (f (o,w1))):Tm.Good R w0 (.ask t w f)
section
variable{R:Wk→Wk→Prop}(hR:Lat R)
include hR
theorem Tm.Good.last{w0:Wk}(t:Task)(w:Wk)(h:R w0 w):Tm.Good R w0 (.last t w):=.ask t w _ h (fun _=>rfl) fun o w1 h1=>.ret o w1 (hR.refl w1)
theorem zdt(k:List Fm)(s:Sg)(o:BOut)(w:Wk):Tm.Good R w (thenS k s (o,w)):=by
 cases o<;>first|exact .last hR _ _ (hR.refl _)|exact .ret _ _ (hR.refl _)
theorem zgz(x:Pat)(k:List Fm)(s:Sg)(o:BOut)(w:Wk):Tm.Good R w (zbj x k s (o,w)):=by
 cases o<;>simp only[zbj]<;>(try split)<;>first|exact .last hR _ _ (hR.refl _)|exact .ret _ _ (hR.refl _)
theorem zk1(k:List Fm)(o:BOut)(w:Wk):Tm.Good R w (zdP k (o,w)):=by
 cases o<;>simp only[zdP]<;>(try split)<;>first|exact .last hR _ _ (hR.refl _)|exact .ret _ _ (hR.refl _)
theorem zlb(k:List Fm)(o:BOut)(w:Wk):Tm.Good R w (zhd k (o,w)):=by
 cases o<;>exact .ret _ _ (hR.refl _)
theorem zeu(f:Wk→Tm)(hf:∀w,Tm.Good R w (f w))(o:BOut)(w:Wk):Tm.Good R w (zdR f (o,w)):=by
 cases o<;>first|exact hf w|exact .ret _ _ (hR.refl _)
theorem Tm.Good.mono{a b:Wk}{t:Tm}(h:R a b)(g:Tm.Good R b t):Tm.Good R a t:=by
 cases g with
 |ret o w h1=>exact .ret o w (hR.trans _ _ _ h h1)
 |ask t w f h1 ht hf=>exact .ask t w f (hR.trans _ _ _ h h1) ht hf
theorem zhB(x:Pat)(n:Nat)(s:Sg)(k:List Fm)(w:Wk):Tm.Good R w (catS x n s k w):=by
 unfold catS;split<;>exact .last hR _ _ (hR.refl _)
theorem zgt(x:Pat)(m:Int)(s:Sg)(k:List Fm)(w:Wk):Tm.Good R w (zcm x m s k w):=by
 unfold zcm;split<;>split
 ·refine .ask _ _ _ (hR.refl _) (fun _=>rfl) fun o w1 h1=>zeu hR _ (fun w=>?_) o w1
  split<;>first|exact .last hR _ _ (hR.refl _)|exact .ret _ _ (hR.refl _)
 ·split<;>first|exact .last hR _ _ (hR.refl _)|exact .ret _ _ (hR.refl _)
 ·refine .ask _ _ _ (hR.refl _) (fun _=>rfl) fun o w1 h1=>zeu hR _ (fun w=>?_) o w1
  split<;>first|exact .last hR _ _ (hR.refl _)|exact .ret _ _ (hR.refl _)
 ·split<;>first|exact .last hR _ _ (hR.refl _)|exact .ret _ _ (hR.refl _)
theorem zjM(x:Pat)(w:Wk):R w (zbB x w):=hR.code x w
theorem zgA(s:Sg)(k:List Fm)(w:Wk)(l:List Pat):Tm.Good R w (zl0 s k w l):=by
 cases l with
 |nil=>exact .ret _ _ (hR.refl _)
 |cons y l=>exact .ask _ _ _ (hR.refl _) (fun _=>rfl) fun o w1 h1=>zeu hR _ (fun w=>.last hR _ _ (hR.refl _)) o w1
theorem zjE(B:Bk)(s:Sg)(w:Wk)(k:List Fm):Tm.Good R w (goS B s w k):=by
 cases k with
 |nil=>exact .ret _ _ (hR.refl _)
 |cons f k=>
  cases f with
  |cat x n=>exact zhB hR x n s k w
  |turn x many fr=>simp only[goS];split<;>first|exact .last hR _ _ (hR.refl _)|exact .ret _ _ (hR.refl _)
  |group x fr=>exact .last hR _ _ (hR.refl _)
  |call o=>exact .last hR _ _ (hR.refl _)
  |stop want=>simp only[goS];split<;>exact .ret _ _ (hR.refl _)
  |fin=>simp only[goS];split<;>exact .ret _ _ (hR.fin _ _)
theorem zb9(B:Bk)(x:Pat)(s:Sg)(k:List Fm){w0 w:Wk}(h1:R w0 w)(h2:R w0 {w with p:=w.p+1}):Tm.Good R w0 (zaF B x s k w):=by
 have hl:∀t,Tm.Good R w0 (.last t w):=fun t=>.last hR t _ h1;have hr:∀o,Tm.Good R w0 (.ret (o,w)):=fun o=>.ret o _ h1;have it:∀{c:Prop} [Decidable c] {a b:Tm},(c→Tm.Good R w0 a)→(¬c→Tm.Good R w0 b)→Tm.Good R w0 (if c then a else b):=fun ha hb=>by
  split<;>rename_i h
  ·exact ha h
  ·exact hb h
 unfold zaF;refine it (fun _=>it (fun _=>hl _) fun _=>hr _) fun _=>?_;refine it (fun _=>(zhB hR x 0 s k _).mono hR h1) fun _=>?_;refine it (fun _=>hl _) fun _=>?_;refine it (fun _=>it (fun _=>.ask _ _ _ h1 (fun _=>rfl) fun o w1 _=>zdt hR k s o w1) fun _=>hl _) fun _=>?_;refine it (fun _=>hl _) fun _=>?_;refine it (fun _=>it (fun _=>it (fun _=>.ret _ _ h2) fun _=>.ask _ _ _ h2 (fun _=>rfl) fun o w1 _=>zdt hR k s o w1) fun _=>.ask _ _ _ h1 (fun _=>rfl) fun o w1 _=>zdt hR k s o w1) fun _=>?_;refine it (fun _=>it (fun _=>(zgz hR x k s .no _).mono hR h1) fun _=>.ask _ _ _ h1 (fun _=>rfl) fun o w1 _=>zgz hR x k s o w1) fun _=>?_;refine it (fun _=>it (fun _=>hr _) fun _=>hl _) fun _=>?_;refine it (fun _=>it (fun _=>hl _) fun _=>hr _) fun _=>?_;refine it (fun _=>it (fun _=>hr _) fun _=>.ask _ _ _ h1 (fun _=>rfl) fun o w1 _=>zk1 hR k o w1) fun _=>?_;refine it (fun _=>it (fun _=>hl _) fun _=>hl _) fun _=>?_;refine it (fun _=>it (fun _=>hr _) fun _=>it (fun _=>hl _) fun _=>.ask _ _ _ h1 (fun _=>rfl) fun o w1 _=>zlb hR k o w1) fun _=>?_;refine it (fun _=>it (fun _=>.last hR _ _ (hR.trans _ _ _ h1 (zjM hR x _))) fun _=>.ret _ _ (hR.trans _ _ _ h1 (zjM hR x _))) fun _=>?_;exact it (fun _=>hl _) fun _=>hl _
theorem zh9(B:Bk)(ht:∀w,R w (tick w))(ht2:∀w,R w {tick w with p:=(tick w).p+1})(t:Task)(w:Wk):Tm.Good R w (runS B t w):=by
 cases t with
 |try_ x s k=>
  simp only[runS];split
  ·exact .ret _ _ (ht w)
  ·exact zb9 hR B x s k (ht w) (ht2 w)
 |go k s=>exact zjE hR B s w k
 |alts l s k=>exact zgA hR s k w l
 |turn x m s k=>exact zgt hR x m s k w
theorem zdx{rec:Task→Wk→BRes}(h:∀t w o w',rec t w=some (o,w')→R w w'):∀{t:Tm} {w:Wk} {o:BOut} {w':Wk},Tm.Good R w t→t.eval rec=some (o,w')→R w w':=by
 intro t
 induction t with
 |ret r=>
  intro w o w' g e;cases g with
  |ret o1 w1 h1=>simp only[Tm.eval,aY,b5] at e;rw[←e.2];exact h1
 |ask t w1 f ih=>
  intro w o w' g e;cases g with
  |ask _ _ _ h1 ht hf=>
   simp only[Tm.eval,bC] at e;obtain⟨⟨o2,w2⟩,e1,e2⟩:=e;have h2:=h _ _ _ _ e1;exact hR.trans _ _ _ (hR.trans _ _ _ h1 h2) (ih _ (hf o2 w2 h2) e2)
end
theorem zgR(w:Wk):Wk.le w (tick w):=by unfold Wk.le tick;simp;omega
theorem zfa(w:Wk):Wk.le w {tick w with p:=(tick w).p+1}:=by unfold Wk.le tick;simp;omega
theorem zjm(B:Bk)(t:Task)(w:Wk):Tm.Good Wk.le w (runS B t w):=zh9 zcp B zgR zfa t w
theorem zbv(B:Bk):∀(n:Nat) (t:Task) (w:Wk) (o:BOut) (w':Wk),brun B n t w=some (o,w')→Wk.le w w'
 |0,t,w,o,w',h=>by cases h
 |n+1,t,w,o,w',h=>zdx zcp (zbv B n) (zjm B t w) h
theorem zii:Lat fun a b=>a.codes.length≤100→b.codes.length≤100:=⟨fun a h=>h,fun x a h=>by unfold zbB;split;(show(a.codes++[x.n]).length≤100;rw[aT,bc];omega);exact h,fun a l h=>h,fun a b c h k g=>k (h g)⟩
theorem zd4(B:Bk):∀(n:Nat) (t:Task) (w:Wk) (o:BOut) (w':Wk),brun B n t w=some (o,w')→w.codes.length≤100→w'.codes.length≤100
 |0,t,w,o,w',h=>by cases h
 |n+1,t,w,o,w',h=>zdx zii (zd4 B n) (zh9 zii B (fun w h=>h) (fun w h=>h) t w) h
theorem ziy{rec rec':Task→Wk→BRes}(h:∀t w r,rec t w=some r→rec' t w=some r):∀{t:Tm} {r:BOut×Wk},t.eval rec=some r→t.eval rec'=some r:=by
 intro t
 induction t with
 |ret q=>intro r e;exact e
 |ask t w1 f ih=>
  intro r e;simp only[Tm.eval,bC] at e ⊢;obtain⟨q,e1,e2⟩:=e;exact⟨q,h _ _ _ e1,ih q e2⟩
theorem zkh(B:Bk):∀(n:Nat) (t:Task) (w:Wk) (r:BOut×Wk),brun B n t w=some r→brun B (n+1) t w=some r
 |0,_,_,_,h=>by cases h
 |n+1,t,w,r,h=>ziy (zkh B n) h
theorem zj7(B:Bk){n m:Nat}(hnm:n≤m){t:Task}{w:Wk}{r:BOut×Wk}(h:brun B n t w=some r):brun B m t w=some r:=by
 induction hnm with
 |refl=>exact h
 |step _ ih=>exact zkh B _ t w r ih
def Ends(B:Bk)(t:Task)(w:Wk):Prop:=∃n r,brun B n t w=some r
inductive EndsTm(B:Bk):Tm→Prop
 |ret (r:BOut×Wk):EndsTm B (.ret r)
 |ask (t:Task) (w:Wk) (f:BOut×Wk→Tm) (h:Ends B t w) (hf:∀n o w1,brun B n t w=some (o,w1)→EndsTm B (f (o,w1))):EndsTm B (.ask t w f)
theorem EndsTm.out{B:Bk}{t:Tm}(h:EndsTm B t):∃n r,t.eval (brun B n)=some r:=by
 induction h with
 |ret r=>exact⟨0,r,rfl⟩
 |ask t w f h hf ih=>
  obtain⟨n,⟨o,w1⟩,e⟩:=h;obtain⟨m,r,e2⟩:=ih n o w1 e;refine⟨max n m,r,?_⟩;simp only[Tm.eval,bC];exact⟨(o,w1),zj7 B (Nat.le_max_left _ _) e,ziy (fun t w r h=>zj7 B (Nat.le_max_right _ _) h) e2⟩
theorem Ends.of{B:Bk}{t:Task}{w:Wk}(h:EndsTm B (runS B t w)):Ends B t w:=by
 obtain⟨n,r,e⟩:=h.out;exact⟨n+1,r,e⟩
theorem EndsTm.all{B:Bk}:∀{t:Tm} {w0:Wk},Tm.Good Wk.lw w0 t→(∀t w1,Wk.lw w0 w1→Ends B t w1)→EndsTm B t:=by
 intro t
 induction t with
 |ret r=>intro w0 _ _;exact .ret r
 |ask t w1 f ih=>
  intro w0 g h;cases g with
  |ask _ _ _ h1 ht hf=>
   refine .ask t w1 f (h t w1 h1) fun n o w2 e=>?_;have h2:Wk.lw w1 w2:=by have:=zbv B n t w1 o w2 e;unfold Wk.le at this;unfold Wk.lw;omega
   exact ih _ (hf o w2 h2) fun t w3 h3=>h t w3 (zdT.trans _ _ _ h1 (zdT.trans _ _ _ h2 h3))
theorem zjR(B:Bk)(N:Nat)(hN:∀p r,r≤p→N<r→B.tau p r=true):∀(m:Nat) (w:Wk),N+1 - w.r≤m→w.r≤w.p→∀t,Ends B t w:=by
 intro m
 induction m with
 |zero=>exact fun w h1 h2 t=>ends_lev B N hN 0 (fun w hw=>absurd hw (by omega)) w h1 h2 t
 |succ m ih=>exact fun w h1 h2 t=>ends_lev B N hN (m+1) (fun w hw hp t=>ih w (by omega) hp t) w h1 h2 t
where
 ends_lev (B:Bk) (N:Nat) (hN:∀p r,r≤p→N<r→B.tau p r=true) (m:Nat) (ih:∀w:Wk,N+1 - w.r<m→w.r≤w.p→∀t,Ends B t w) (w:Wk) (h1:N+1 - w.r≤m) (h2:w.r≤w.p) (t:Task):Ends B t w:=by
  have ht:∀(w:Wk),N+1 - w.r≤m→w.r≤w.p→∀x s k,Ends B (.try_ x s k) w:=by
   intro w h1 h2 x s k;refine .of ?_
   show EndsTm B (if B.tau (w.p+1) (w.r+1)=true then .ret (.tired,tick w) else zaF B x s k (tick w))
   split
   ·exact .ret _
   ·rename_i hτ
    have hr:¬N<w.r+1:=fun h=>hτ (hN _ _ (by omega) h);refine EndsTm.all (w0:=tick w) (zb9 zdT B x s k (zdT.refl _) (by unfold Wk.lw;simp only;omega)) fun t w1 h3=>?_;unfold Wk.lw tick at h3;simp only at h3;exact ih w1 (by omega) (by omega) t
  have up:∀{w w1:Wk} {n:Nat} {t:Task} {o:BOut},brun B n t w=some (o,w1)→N+1 - w.r≤m→w.r≤w.p→N+1 - w1.r≤m∧w1.r≤w1.p:=by
   intro w w1 n t o e a b;have:=zbv B n t w o w1 e;unfold Wk.le at this;omega
  have last:∀{t:Task} {w:Wk},Ends B t w→EndsTm B (.last t w):=fun h=>.ask _ _ _ h fun _ _ _ _=>.ret _;have hk:∀(k:List Fm) (w:Wk),N+1 - w.r≤m→w.r≤w.p→(∀s,Ends B (.go k s) w)∧∀x many s,Ends B (.turn x many s k) w:=by
   intro k;have turns:∀k:List Fm,(∀(w:Wk),N+1 - w.r≤m→w.r≤w.p→∀s,Ends B (.go k s) w)→∀(w:Wk),N+1 - w.r≤m→w.r≤w.p→∀x many s,Ends B (.turn x many s k) w:=by
    intro k hg w h1 h2 x many s;refine .of ?_
    show EndsTm B (zcm x many s k w)
    unfold zcm;split<;>split
    ·refine .ask _ _ _ (hg w h1 h2 s) fun n o w1 e=>?_
     obtain⟨a,b⟩:=up e h1 h2;cases o<;>try exact .ret _
     show EndsTm B (if x.max<0∨many<x.max then _ else _)
     split
     ·exact last (ht w1 a b _ _ _)
     ·exact .ret _
    ·split
     ·exact last (ht w h1 h2 _ _ _)
     ·exact .ret _
    ·refine .ask _ _ _ (ht w h1 h2 _ _ _) fun n o w1 e=>?_
     obtain⟨a,b⟩:=up e h1 h2;cases o<;>try exact .ret _
     show EndsTm B (if many≥x.min then _ else _)
     split
     ·exact last (hg w1 a b _)
     ·exact .ret _
    ·split
     ·exact last (hg w h1 h2 _)
     ·exact .ret _
   induction k with
   |nil=>
    have hg:∀(w:Wk),N+1 - w.r≤m→w.r≤w.p→∀s,Ends B (.go [] s) w:=fun w _ _ s=>.of (.ret _);exact fun w h1 h2=>⟨hg w h1 h2,turns [] hg w h1 h2⟩
   |cons f k ihk=>
    have hg:∀(w:Wk),N+1 - w.r≤m→w.r≤w.p→∀s,Ends B (.go (f::k) s) w:=by
     intro w h1 h2 s;refine .of ?_;cases f with
     |cat x n=>
      show EndsTm B (catS x n s k w)
      unfold catS;split
      ·exact last (ht w h1 h2 _ _ _)
      ·exact last ((ihk w h1 h2).1 s)
     |turn x many fr=>
      show EndsTm B (if many≥x.min∧s.at_=fr then _ else _)
      split
      ·exact .ret _
      ·exact last ((ihk w h1 h2).2 _ _ _)
     |group x fr=>exact last ((ihk w h1 h2).1 _)
     |call o=>exact last ((ihk w h1 h2).1 _)
     |stop want=>
      show EndsTm B (if want≥0∧want≠s.at_ then _ else _)
      split<;>exact .ret _
     |fin=>
      show EndsTm B (if B.stop (w.acc++[s.at_])=true then _ else _)
      split<;>exact .ret _
    exact fun w h1 h2=>⟨hg w h1 h2,turns (f::k) hg w h1 h2⟩
  cases t with
  |try_ x s k=>exact ht w h1 h2 x s k
  |go k s=>exact(hk k w h1 h2).1 s
  |turn x many s k=>exact(hk k w h1 h2).2 x many s
  |alts l s k=>
   induction l generalizing w with
   |nil=>exact .of (.ret _)
   |cons y l ihl=>
    refine .of (.ask _ _ _ (ht w h1 h2 _ _ _) fun n o w1 e=>?_)
    obtain⟨a,b⟩:=up e h1 h2;cases o<;>try exact .ret _
    exact last (ihl w1 a b)
def Bk.quota(B:Bk)(tau:Nat→Nat→Bool):Bk:={B with tau:=tau}
theorem znq(B:Bk)(tau:Nat→Nat→Bool)(x:Pat)(s:Sg):zbY (B.quota tau) x s=zbY B x s:=rfl
theorem zjP(B:Bk)(tau:Nat→Nat→Bool)(x:Pat)(s:Sg)(k:List Fm)(w:Wk)(h:¬(x.op=8∧(fstL x.l).op=6)):zaF (B.quota tau) x s k w=zaF B x s k w:=by
 unfold zaF;rw[znq];by_cases h8:x.op=8
 ·have h6:¬(fstL x.l).op=6:=fun h6=>h ⟨h8,h6⟩
  simp only[h8,h6,bP];rfl
 ·simp only[h8,bP]
  rfl
theorem ziD(B:Bk)(x:Pat)(s:Sg)(k:List Fm)(w:Wk)(h8:x.op=8)(h6:(fstL x.l).op=6):zaF B x s k w=if B.tau (w.p+1) w.r=true then .ret (.tired,{w with p:=w.p+1})
    else .ask (.turn (fstL x.l) 0 s [.stop (-1)]) {w with p:=w.p+1} (thenS k s):=by
 unfold zaF;simp[h8,h6]
def Inv(w:Wk):Prop:=w.r≤w.p
theorem Inv.up{w w':Wk}(h:Inv w)(g:Wk.le w w'):Inv w':=by unfold Inv Wk.le at*;omega
theorem zlt{rec rec':Task→Wk→BRes}(hg:∀t w o w',rec t w=some (o,w')→Wk.le w w')(h:∀t w o w',Inv w→rec t w=some (o,w')→o≠ .tired→rec' t w=some (o,w')):∀{t:Tm} {w0:Wk} {o:BOut} {w':Wk},Inv w0→Tm.Good Wk.le w0 t→t.eval rec=some (o,w')→o≠ .tired→t.eval rec'=some (o,w'):=by
 intro t
 induction t with
 |ret r=>intro w0 o w' i g e ho;exact e
 |ask t w1 f ih=>
  intro w0 o w' i g e ho;cases g with
  |ask _ _ _ h1 ht hf=>
   simp only[Tm.eval,bC] at e ⊢;obtain⟨⟨o2,w2⟩,e1,e2⟩:=e;have h2:o2≠ .tired:=by
    rintro rfl;rw[ht w2] at e2;simp only[Tm.eval,aY,b5] at e2;exact ho e2.1.symm
   have hl:=hg _ _ _ _ e1;exact⟨(o2,w2),h _ _ _ _ (i.up h1) e1 h2,ih _ ((i.up h1).up hl) (hf o2 w2 hl) e2 ho⟩
theorem zic(B:Bk)(tau:Nat→Nat→Bool)(hτ:∀p r,r≤p→tau p r=true→B.tau p r=true):∀(n:Nat) (t:Task) (w:Wk) (o:BOut) (w':Wk),Inv w→brun B n t w=some (o,w')→o≠ .tired→brun (B.quota tau) n t w=some (o,w')
 |0,_,_,_,_,_,h,_=>by cases h
 |n+1,t,w,o,w',i,h,ho=>by
  have rest:∀{T:Tm} {w0:Wk},Inv w0→Tm.Good Wk.le w0 T→T.eval (brun B n)=some (o,w')→T.eval (brun (B.quota tau) n)=some (o,w'):=fun i g e=>zlt (zbv B n) (zic B tau hτ n) i g e ho;have g:=zjm B t w;cases t with
  |go k s=>
   show(goS (B.quota tau) s w k).eval _=_
   rw[show goS (B.quota tau) s w k=goS B s w k by cases k with|nil=>rfl|cons f k=>cases f<;>rfl]
   exact rest i g h
  |alts l s k=>exact rest i g h
  |turn x m s k=>exact rest i g h
  |try_ x s k=>
   change (if B.tau (w.p+1) (w.r+1)=true then Tm.ret (.tired,tick w) else zaF B x s k (tick w)).eval _=_ at h
   show(if tau (w.p+1) (w.r+1)=true then Tm.ret (.tired,tick w) else zaF (B.quota tau) x s k (tick w)).eval _=_
   by_cases h1:B.tau (w.p+1) (w.r+1)=true
   ·rw[af h1] at h
    simp only[Tm.eval,aY,b5] at h;exact absurd h.1.symm ho
   have h2:¬tau (w.p+1) (w.r+1)=true:=fun h=>h1 (hτ _ _ (by unfold Inv at i;omega) h);rw[ac h1] at h;rw[ac h2];have g2:Tm.Good Wk.le w (zaF B x s k (tick w)):=zb9 zcp B x s k (zgR w) (zfa w);by_cases h86:x.op=8∧(fstL x.l).op=6
   ·rw[ziD _ _ _ _ _ h86.1 h86.2] at h g2 ⊢
    by_cases h3:B.tau ((tick w).p+1) (tick w).r=true
    ·rw[af h3] at h
     simp only[Tm.eval,aY,b5] at h;exact absurd h.1.symm ho
    have h4:¬tau ((tick w).p+1) (tick w).r=true:=fun h=>h3 (hτ _ _ (by unfold Inv at i;unfold tick;simp only;omega) h);rw[ac h3] at h g2;rw[ac (by exact h4)];exact rest i g2 h
   ·rw[zjP _ _ _ _ _ _ h86]
    exact rest i g2 h
theorem zk2{rec rec':Task→Wk→BRes}{tau:Nat→Nat→Bool}(hm:∀p r p' r',p≤p'→r≤r'→tau p r=true→tau p' r'=true)(hg:∀t w o w',rec' t w=some (o,w')→Wk.le w w')(h:∀t w o w',Inv w→rec' t w=some (o,w')→¬tau w'.p w'.r=true→rec t w=some (o,w')):
  ∀{t:Tm} {w0:Wk} {o:BOut} {w':Wk},Inv w0→Tm.Good Wk.le w0 t→t.eval rec'=some (o,w')→¬tau w'.p w'.r=true→t.eval rec=some (o,w'):=by
 intro t
 induction t with
 |ret r=>intro w0 o w' i g e ho;exact e
 |ask t w1 f ih=>
  intro w0 o w' i g e ho;cases g with
  |ask _ _ _ h1 ht hf=>
   simp only[Tm.eval,bC] at e ⊢;obtain⟨⟨o2,w2⟩,e1,e2⟩:=e;have hl:=hg _ _ _ _ e1;have hl2:=zdx zcp hg (hf o2 w2 hl) e2;have h2:¬tau w2.p w2.r=true:=fun h=>ho (hm _ _ _ _ (by unfold Wk.le at hl2;omega) (by unfold Wk.le at hl2;omega) h);exact⟨(o2,w2),h _ _ _ _ (i.up h1) e1 h2,ih _ ((i.up h1).up hl) (hf o2 w2 hl) e2 ho⟩
theorem ziu(B:Bk)(tau:Nat→Nat→Bool)(hτ:∀p r,r≤p→tau p r=true→B.tau p r=true)(hm:∀p r p' r',p≤p'→r≤r'→B.tau p r=true→B.tau p' r'=true):
  ∀(n:Nat) (t:Task) (w:Wk) (o:BOut) (w':Wk),Inv w→brun (B.quota tau) n t w=some (o,w')→¬B.tau w'.p w'.r=true→brun B n t w=some (o,w')
 |0,_,_,_,_,_,h,_=>by cases h
 |n+1,t,w,o,w',i,h,ho=>by
  have rest:∀{T:Tm} {w0:Wk},Inv w0→Tm.Good Wk.le w0 T→T.eval (brun (B.quota tau) n)=some (o,w')→T.eval (brun B n)=some (o,w'):=fun i g e=>zk2 hm (zbv (B.quota tau) n) (ziu B tau hτ hm n) i g e ho;have g:=zjm (B.quota tau) t w;cases t with
  |go k s=>
   show(goS B s w k).eval _=_
   rw[show goS B s w k=goS (B.quota tau) s w k by cases k with|nil=>rfl|cons f k=>cases f<;>rfl]
   exact rest i g h
  |alts l s k=>exact rest i g h
  |turn x m s k=>exact rest i g h
  |try_ x s k=>
   change (if tau (w.p+1) (w.r+1)=true then Tm.ret (.tired,tick w) else zaF (B.quota tau) x s k (tick w)).eval _=_ at h
   show(if B.tau (w.p+1) (w.r+1)=true then Tm.ret (.tired,tick w) else zaF B x s k (tick w)).eval _=_
   have i':w.r+1≤w.p+1:=by unfold Inv at i;omega
   by_cases h2:tau (w.p+1) (w.r+1)=true
   ·rw[af h2] at h
    simp only[Tm.eval,aY,b5] at h;exact absurd (by rw[←h.2];exact hτ _ _ i' h2) ho
   rw[ac h2] at h;have g2:Tm.Good Wk.le w (zaF (B.quota tau) x s k (tick w)):=zb9 zcp _ x s k (zgR w) (zfa w);have g3:Tm.Good Wk.lw (tick w) (zaF (B.quota tau) x s k (tick w)):=zb9 zdT _ x s k (zdT.refl _) (by unfold Wk.lw;simp only;omega);have hlw:∀{T:Tm} {w0:Wk},Tm.Good Wk.lw w0 T→T.eval (brun (B.quota tau) n)=some (o,w')→¬B.tau w0.p w0.r=true:=fun g e h=>by
    have:=zdx zdT (fun t w o w' e=>by have:=zbv (B.quota tau) n t w o w' e;unfold Wk.le at this;unfold Wk.lw;omega) g e
    unfold Wk.lw at this;exact ho (hm _ _ _ _ (by omega) (by omega) h)
   rw[ac (show¬B.tau (w.p+1) (w.r+1)=true from hlw g3 h)]
   by_cases h86:x.op=8∧(fstL x.l).op=6
   ·rw[ziD _ _ _ _ _ h86.1 h86.2] at h g2 g3 ⊢
    have i2:(tick w).r≤(tick w).p+1:=by unfold tick;simp only;omega
    by_cases h4:tau ((tick w).p+1) (tick w).r=true
    ·rw[af (by exact h4)] at h
     simp only[Tm.eval,aY,b5] at h;exact absurd (by rw[←h.2];exact hτ _ _ i2 h4) ho
    rw[ac (by exact h4)] at h g2 g3;have g4:Tm.Good Wk.lw {tick w with p:=(tick w).p+1} (Tm.ask (.turn (fstL x.l) 0 s [.stop (-1)]) {tick w with p:=(tick w).p+1} (thenS k s)):=.ask _ _ _ (zdT.refl _) (fun _=>rfl) fun o w1 _=>zdt zdT k s o w1
    rw[ac (show¬B.tau ((tick w).p+1) (tick w).r=true from hlw g4 h)]
    exact rest i g2 h
   ·rw[zjP _ _ _ _ _ _ h86] at h g2
    exact rest i g2 h
def tauP(p r:Nat):Bool:=decide (p>20000)
def tauR(p r:Nat):Bool:=decide (r>80000)
theorem zoJ(B:Bk)(t:Task)(w:Wk)(i:Inv w):∃n oP wP oR wR,brun (B.quota tauP) n t w=some (oP,wP)∧brun (B.quota tauR) n t w=some (oR,wR)∧
  ((oP≠ .tired∧oR=oP∧wR=wP)∨(oP=.tired∧(oR=.tired∨wR.p>20000))):=by
 obtain⟨n1,⟨o1,w1⟩,e1⟩:=zjR (B.quota tauP) 80000 (fun p r h1 h2=>aA (show p>20000 by omega)) _ w (au _) i t
 obtain⟨n2,⟨o2,w2⟩,e2⟩:=zjR (B.quota tauR) 80000 (fun p r h1 h2=>aA (show r>80000 by omega)) _ w (au _) i t
 have e1:=zj7 _ (Nat.le_max_left n1 n2) e1;have e2:=zj7 _ (Nat.le_max_right n1 n2) e2;refine⟨max n1 n2,o1,w1,o2,w2,e1,e2,?_⟩;have hτ:∀p r,r≤p→tauR p r=true→(B.quota tauP).tau p r=true:=fun p r h1 h2=>aA (by have:=aj h2;omega);by_cases ho:o1=.tired
 ·refine .inr ⟨ho,?_⟩
  by_cases h3:w2.p>20000
  ·exact .inr h3
  ·left
   have e3:=ziu (B.quota tauP) tauR hτ (fun p r p' r' h1 h2 h=>aA (by have:=aj h;omega)) _ t w o2 w2 i e2 (fun h=>h3 (aj h));rw[e1] at e3;simp only[aY,b5] at e3;rw[←e3.1];exact ho
 ·have e3:=zic (B.quota tauP) tauR hτ _ t w o1 w1 i e1 ho
  change brun (B.quota tauR) _ t w=_ at e3
  rw[e2] at e3;simp only[aY,b5] at e3;exact .inl ⟨ho,e3.1,e3.2⟩
end Go.Bk
namespace Go.Proofs.YtpopmiodjibljaaGreatDoor
open Go Go.Abs
abbrev tF:TI:=⟨.func,1,8,[.nilf]⟩
abbrev tI:TI:=⟨(.int .i64),1,8,[.int .i64 0]⟩
abbrev tC:TI:=⟨.string,1,16,[.str []]⟩
abbrev tN:TI:=⟨.iface,1,16,[.nili]⟩
abbrev tP(n:Nat):TI:=⟨(.pointer n),1,8,[.nilp]⟩
abbrev tS(n:Nat):TI:=⟨(.slice n),1,24,[.nils]⟩
def L:Lay:=[(1,tF),
(2,tI),
(3,tI),
(4,⟨.bool,1,1,[.bool false]⟩),
(5,⟨(.int .u8),1,1,[.int .u8 0]⟩),
(6,⟨(.int .u8),1,1,[.int .u8 0]⟩),
(7,⟨(.struct [(0,2),(1,3),(2,4),(3,6)]),4,24,[.int .i64 0,.int .i64 0,.bool false,.int .u8 0]⟩),
(8,⟨(.struct [(0,2),(1,3),(2,4),(3,6)]),4,24,[.int .i64 0,.int .i64 0,.bool false,.int .u8 0]⟩),
(9,tC),
(10,tC),
(11,tC),
(12,⟨(.int .u64),1,8,[.int .u64 0]⟩),
(13,⟨(.struct [(0,9),(1,12)]),2,24,[.str [],.int .u64 0]⟩),
(14,⟨(.struct [(0,9),(1,12)]),2,24,[.str [],.int .u64 0]⟩),
(15,tP 367),
(16,tP 370),
(17,tP 377),
(18,⟨(.struct [(0,17)]),1,8,[.nilp]⟩),
(19,⟨(.struct [(0,17)]),1,8,[.nilp]⟩),
(20,tN),
(21,⟨(.int .i32),1,4,[.int .i32 0]⟩),
(22,tS 166),
(23,tS 25),
(24,⟨(.struct [(0,3),(1,3),(2,3),(3,3),(4,9),(5,22),(6,23)]),7,96,[.int .i64 0,.int .i64 0,.int .i64 0,.int .i64 0,.str [],.nils,.nils]⟩),
(25,⟨(.struct [(0,3),(1,3),(2,3),(3,3),(4,9),(5,22),(6,23)]),7,96,[.int .i64 0,.int .i64 0,.int .i64 0,.int .i64 0,.str [],.nils,.nils]⟩),
(26,tF),
(27,tF),
(28,tI),
(30,tF),
(31,tF),
(32,⟨(.struct [(0,9),(1,9),(2,3)]),3,40,[.str [],.str [],.int .i64 0]⟩),
(33,⟨(.struct [(0,9),(1,9),(2,3)]),3,40,[.str [],.str [],.int .i64 0]⟩),
(34,tF),
(35,tS 98),
(36,⟨(.struct [(0,3),(1,3),(2,35)]),3,40,[.int .i64 0,.int .i64 0,.nils]⟩),
(37,⟨(.struct [(0,3),(1,3),(2,35)]),3,40,[.int .i64 0,.int .i64 0,.nils]⟩),
(38,⟨(.struct [(0,37),(3,4),(4,3)]),5,56,[.int .i64 0,.int .i64 0,.nils,.bool false,.int .i64 0]⟩),
(39,⟨(.struct [(0,37),(3,4),(4,3)]),5,56,[.int .i64 0,.int .i64 0,.nils,.bool false,.int .i64 0]⟩),
(41,tF),
(43,tF),
(45,tF),
(46,tF),
(47,tS 3),
(49,tF),
(51,tF),
(52,tF),
(53,tF),
(55,tF),
(57,tF),
(58,tF),
(59,tS 37),
(61,tF),
(63,tF),
(64,tF),
(66,tF),
(67,tF),
(68,tS 9),
(70,tF),
(71,tF),
(72,tF),
(73,tF),
(75,tF),
(77,tF),
(79,tF),
(80,⟨(.struct [(0,3),(1,3),(2,3)]),3,24,[.int .i64 0,.int .i64 0,.int .i64 0]⟩),
(81,⟨(.struct [(0,3),(1,3),(2,3)]),3,24,[.int .i64 0,.int .i64 0,.int .i64 0]⟩),
(82,tF),
(83,tF),
(85,tF),
(86,tF),
(87,tF),
(88,tF),
(89,tF),
(90,tF),
(91,tF),
(92,tF),
(93,tF),
(94,tS 5),
(95,tF),
(96,tF),
(97,tF),
(98,⟨(.array 2 3),2,16,[.int .i64 0,.int .i64 0]⟩),
(99,tF),
(100,tP 111),
(101,tF),
(102,tS 47),
(103,⟨(.int .u64),1,8,[.int .u64 0]⟩),
(104,tP 171),
(105,⟨(.array 10 98),20,160,[.int .i64 0,.int .i64 0,.int .i64 0,.int .i64 0,.int .i64 0,.int .i64 0,.int .i64 0,.int .i64 0,.int .i64 0,.int .i64 0,.int .i64 0,.int .i64 0,.int .i64 0,.int .i64 0,.int .i64 0,.int .i64 0,.int .i64 0,.int .i64 0,.int .i64 0,.int .i64 0]⟩),
(106,tP 258),
(107,⟨(.struct [(0,3),(1,3),(2,105),(22,106)]),23,184,[.int .i64 0,.int .i64 0,.int .i64 0,.int .i64 0,.int .i64 0,.int .i64 0,.int .i64 0,.int .i64 0,.int .i64 0,.int .i64 0,.int .i64 0,.int .i64 0,.int .i64 0,.int .i64 0,.int .i64 0,.int .i64 0,.int .i64 0,.int .i64 0,.int .i64 0,.int .i64 0,.int .i64 0,.int .i64 0,.nilp]⟩),
(108,⟨(.struct [(0,3),(1,3),(2,105),(22,106)]),23,184,[.int .i64 0,.int .i64 0,.int .i64 0,.int .i64 0,.int .i64 0,.int .i64 0,.int .i64 0,.int .i64 0,.int .i64 0,.int .i64 0,.int .i64 0,.int .i64 0,.int .i64 0,.int .i64 0,.int .i64 0,.int .i64 0,.int .i64 0,.int .i64 0,.int .i64 0,.int .i64 0,.int .i64 0,.int .i64 0,.nilp]⟩),
(109,tS 4),
(110,⟨(.struct [(0,25),(7,9),(8,47),(9,102),(10,3),(11,4),(12,103),(13,47),(14,104),(15,108),(38,109),(39,3),(40,3),(41,4),(42,3),(43,4)]),44,464,[.int .i64 0,.int .i64 0,.int .i64 0,.int .i64 0,.str [],.nils,.nils,.str [],.nils,.nils,.int .i64 0,.bool false,.int .u64 0,.nils,.nilp,.int .i64 0,.int .i64 0,.int .i64 0,.int .i64 0,.int .i64 0,.int .i64 0,.int .i64 0,.int .i64 0,.int .i64 0,.int .i64 0,.int .i64 0,.int .i64 0,.int .i64 0,.int .i64 0,.int .i64 0,.int .i64 0,.int .i64 0,.int .i64 0,.int .i64 0,.int .i64 0,.int .i64 0,.int .i64 0,.nilp,.nils,.int .i64 0,.int .i64 0,.bool false,.int .i64 0,.bool false]⟩),
(111,⟨(.struct [(0,25),(7,9),(8,47),(9,102),(10,3),(11,4),(12,103),(13,47),(14,104),(15,108),(38,109),(39,3),(40,3),(41,4),(42,3),(43,4)]),44,464,[.int .i64 0,.int .i64 0,.int .i64 0,.int .i64 0,.str [],.nils,.nils,.str [],.nils,.nils,.int .i64 0,.bool false,.int .u64 0,.nils,.nilp,.int .i64 0,.int .i64 0,.int .i64 0,.int .i64 0,.int .i64 0,.int .i64 0,.int .i64 0,.int .i64 0,.int .i64 0,.int .i64 0,.int .i64 0,.int .i64 0,.int .i64 0,.int .i64 0,.int .i64 0,.int .i64 0,.int .i64 0,.int .i64 0,.int .i64 0,.int .i64 0,.int .i64 0,.int .i64 0,.nilp,.nils,.int .i64 0,.int .i64 0,.bool false,.int .i64 0,.bool false]⟩),
(112,tF),
(113,tP 125),
(115,tF),
(116,tF),
(118,tF),
(119,tF),
(120,⟨(.map 3 25),1,8,[.nilm]⟩),
(121,⟨(.map 9 22),1,8,[.nilm]⟩),
(122,tF),
(123,tF),
(124,⟨(.struct [(0,25),(7,120),(8,121),(9,47),(10,4),(11,4),(12,4),(13,3),(14,47),(15,3),(16,3),(17,3),(18,123)]),19,208,[.int .i64 0,.int .i64 0,.int .i64 0,.int .i64 0,.str [],.nils,.nils,.nilm,.nilm,.nils,.bool false,.bool false,.bool false,.int .i64 0,.nils,.int .i64 0,.int .i64 0,.int .i64 0,.nilf]⟩),
(125,⟨(.struct [(0,25),(7,120),(8,121),(9,47),(10,4),(11,4),(12,4),(13,3),(14,47),(15,3),(16,3),(17,3),(18,123)]),19,208,[.int .i64 0,.int .i64 0,.int .i64 0,.int .i64 0,.str [],.nils,.nils,.nilm,.nilm,.nils,.bool false,.bool false,.bool false,.int .i64 0,.nils,.int .i64 0,.int .i64 0,.int .i64 0,.nilf]⟩),
(126,tF),
(127,tF),
(128,tF),
(129,tF),
(130,tF),
(131,tF),
(133,tF),
(134,tF),
(135,tF),
(136,tF),
(137,tF),
(138,tF),
(139,tP 147),
(140,tF),
(141,tF),
(142,⟨(.struct [(0,3)]),1,8,[.int .i64 0]⟩),
(143,⟨(.struct [(0,3)]),1,8,[.int .i64 0]⟩),
(145,tF),
(146,⟨(.struct [(0,94),(1,47),(2,3),(3,3),(4,68),(5,4)]),6,96,[.nils,.nils,.int .i64 0,.int .i64 0,.nils,.bool false]⟩),
(147,⟨(.struct [(0,94),(1,47),(2,3),(3,3),(4,68),(5,4)]),6,96,[.nils,.nils,.int .i64 0,.int .i64 0,.nils,.bool false]⟩),
(148,tF),
(149,tF),
(150,tF),
(151,tF),
(152,tF),
(153,tF),
(154,tF),
(155,⟨(.struct [(0,3),(1,3),(2,3)]),3,24,[.int .i64 0,.int .i64 0,.int .i64 0]⟩),
(156,⟨(.struct [(0,3),(1,3),(2,3)]),3,24,[.int .i64 0,.int .i64 0,.int .i64 0]⟩),
(157,tF),
(158,tF),
(159,tF),
(160,⟨(.array 7 9),7,112,[.str [],.str [],.str [],.str [],.str [],.str [],.str []]⟩),
(161,tF),
(162,⟨(.map 9 4),1,8,[.nilm]⟩),
(163,tF),
(164,tF),
(165,⟨(.struct [(0,3),(1,3)]),2,16,[.int .i64 0,.int .i64 0]⟩),
(166,⟨(.struct [(0,3),(1,3)]),2,16,[.int .i64 0,.int .i64 0]⟩),
(167,tF),
(168,tF),
(169,tF),
(170,⟨(.struct [(0,3),(1,25),(8,3),(9,3),(10,108),(33,104)]),34,312,[.int .i64 0,.int .i64 0,.int .i64 0,.int .i64 0,.int .i64 0,.str [],.nils,.nils,.int .i64 0,.int .i64 0,.int .i64 0,.int .i64 0,.int .i64 0,.int .i64 0,.int .i64 0,.int .i64 0,.int .i64 0,.int .i64 0,.int .i64 0,.int .i64 0,.int .i64 0,.int .i64 0,.int .i64 0,.int .i64 0,.int .i64 0,.int .i64 0,.int .i64 0,.int .i64 0,.int .i64 0,.int .i64 0,.int .i64 0,.int .i64 0,.nilp,.nilp]⟩),
(171,⟨(.struct [(0,3),(1,25),(8,3),(9,3),(10,108),(33,104)]),34,312,[.int .i64 0,.int .i64 0,.int .i64 0,.int .i64 0,.int .i64 0,.str [],.nils,.nils,.int .i64 0,.int .i64 0,.int .i64 0,.int .i64 0,.int .i64 0,.int .i64 0,.int .i64 0,.int .i64 0,.int .i64 0,.int .i64 0,.int .i64 0,.int .i64 0,.int .i64 0,.int .i64 0,.int .i64 0,.int .i64 0,.int .i64 0,.int .i64 0,.int .i64 0,.int .i64 0,.int .i64 0,.int .i64 0,.int .i64 0,.int .i64 0,.nilp,.nilp]⟩),
(172,tF),
(173,tF),
(174,⟨(.array 10 98),20,160,[.int .i64 0,.int .i64 0,.int .i64 0,.int .i64 0,.int .i64 0,.int .i64 0,.int .i64 0,.int .i64 0,.int .i64 0,.int .i64 0,.int .i64 0,.int .i64 0,.int .i64 0,.int .i64 0,.int .i64 0,.int .i64 0,.int .i64 0,.int .i64 0,.int .i64 0,.int .i64 0]⟩),
(175,tS 295),
(176,tF),
(177,tF),
(178,⟨(.struct [(0,3),(1,3),(2,174),(22,175),(23,3),(24,177)]),25,216,[.int .i64 0,.int .i64 0,.int .i64 0,.int .i64 0,.int .i64 0,.int .i64 0,.int .i64 0,.int .i64 0,.int .i64 0,.int .i64 0,.int .i64 0,.int .i64 0,.int .i64 0,.int .i64 0,.int .i64 0,.int .i64 0,.int .i64 0,.int .i64 0,.int .i64 0,.int .i64 0,.int .i64 0,.int .i64 0,.nils,.int .i64 0,.nilf]⟩),
(179,⟨(.struct [(0,3),(1,3),(2,174),(22,175),(23,3),(24,177)]),25,216,[.int .i64 0,.int .i64 0,.int .i64 0,.int .i64 0,.int .i64 0,.int .i64 0,.int .i64 0,.int .i64 0,.int .i64 0,.int .i64 0,.int .i64 0,.int .i64 0,.int .i64 0,.int .i64 0,.int .i64 0,.int .i64 0,.int .i64 0,.int .i64 0,.int .i64 0,.int .i64 0,.int .i64 0,.int .i64 0,.nils,.int .i64 0,.nilf]⟩),
(180,tF),
(181,tF),
(183,tF),
(184,tF),
(185,tF),
(186,tF),
(187,tF),
(188,tP 25),
(189,tP 191),
(190,⟨(.struct [(0,189),(1,94)]),2,32,[.nilp,.nils]⟩),
(191,⟨(.struct [(0,189),(1,94)]),2,32,[.nilp,.nils]⟩),
(192,tN),
(193,tN),
(195,tF),
(196,tF),
(197,tF),
(198,tF),
(199,tF),
(200,tF),
(201,tF),
(202,tF),
(203,tF),
(204,tF),
(205,tF),
(207,tF),
(208,tF),
(209,tF),
(210,tF),
(211,tF),
(212,tF),
(213,tF),
(214,tF),
(215,tF),
(216,tF),
(217,tF),
(218,tF),
(219,tF),
(221,tF),
(222,tF),
(223,tF),
(224,tP 5),
(225,tF),
(226,tI),
(228,tF),
(229,tF),
(230,tF),
(231,tF),
(232,tF),
(233,⟨(.int .u32),1,4,[.int .u32 0]⟩),
(234,tF),
(235,⟨(.int .u64),1,8,[.int .u64 0]⟩),
(236,tF),
(237,tF),
(238,tF),
(240,tF),
(241,tF),
(242,tF),
(243,tF),
(244,tF),
(246,⟨(.int .u64),1,8,[.int .u64 0]⟩),
(247,⟨(.struct [(0,17),(1,245),(2,246)]),3,24,[.nilp,.nilp,.int .u64 0]⟩),
(248,⟨(.struct [(0,17),(1,245),(2,246)]),3,24,[.nilp,.nilp,.int .u64 0]⟩),
(249,tF),
(250,tF),
(251,tF),
(252,tF),
(253,tF),
(254,⟨(.struct [(0,154),(1,250)]),2,16,[.nilf,.nilf]⟩),
(255,⟨(.struct [(0,154),(1,250)]),2,16,[.nilf,.nilf]⟩),
(256,tF),
(257,⟨(.struct [(0,3),(1,3),(2,106),(3,3)]),4,32,[.int .i64 0,.int .i64 0,.nilp,.int .i64 0]⟩),
(258,⟨(.struct [(0,3),(1,3),(2,106),(3,3)]),4,32,[.int .i64 0,.int .i64 0,.nilp,.int .i64 0]⟩),
(259,tF),
(260,tF),
(261,tF),
(262,tF),
(263,tF),
(264,tF),
(265,tF),
(266,⟨(.int .u64),1,8,[.int .u64 0]⟩),
(267,tF),
(268,tF),
(269,tF),
(270,tP 3),
(271,tF),
(272,tF),
(274,tF),
(275,⟨(.map 9 9),1,8,[.nilm]⟩),
(276,tF),
(277,tF),
(278,⟨(.struct [(0,17)]),1,8,[.nilp]⟩),
(279,⟨(.struct [(0,17)]),1,8,[.nilp]⟩),
(280,tP 379),
(281,tF),
(282,tI),
(284,tF),
(285,tF),
(286,tF),
(287,tF),
(288,tF),
(289,tF),
(290,tF),
(291,tF),
(293,tF),
(294,⟨(.struct [(0,3),(1,3)]),2,16,[.int .i64 0,.int .i64 0]⟩),
(295,⟨(.struct [(0,3),(1,3)]),2,16,[.int .i64 0,.int .i64 0]⟩),
(296,tF),
(297,tF),
(299,⟨(.struct [(0,5),(1,5)]),2,2,[.int .u8 0,.int .u8 0]⟩),
(300,⟨(.struct [(0,5),(1,5)]),2,2,[.int .u8 0,.int .u8 0]⟩),
(301,⟨(.array 16 300),32,32,[.int .u8 0,.int .u8 0,.int .u8 0,.int .u8 0,.int .u8 0,.int .u8 0,.int .u8 0,.int .u8 0,.int .u8 0,.int .u8 0,.int .u8 0,.int .u8 0,.int .u8 0,.int .u8 0,.int .u8 0,.int .u8 0,.int .u8 0,.int .u8 0,.int .u8 0,.int .u8 0,.int .u8 0,.int .u8 0,.int .u8 0,.int .u8 0,.int .u8 0,.int .u8 0,.int .u8 0,.int .u8 0,.int .u8 0,.int .u8 0,.int .u8 0,.int .u8 0]⟩),
(302,tP 266),
(303,tF),
(305,tF),
(306,⟨(.array 24 5),24,24,[.int .u8 0,.int .u8 0,.int .u8 0,.int .u8 0,.int .u8 0,.int .u8 0,.int .u8 0,.int .u8 0,.int .u8 0,.int .u8 0,.int .u8 0,.int .u8 0,.int .u8 0,.int .u8 0,.int .u8 0,.int .u8 0,.int .u8 0,.int .u8 0,.int .u8 0,.int .u8 0,.int .u8 0,.int .u8 0,.int .u8 0,.int .u8 0]⟩),
(307,tF),
(309,tF),
(310,tF),
(311,⟨(.int .u64),1,8,[.int .u64 0]⟩),
(312,tF),
(313,tF),
(315,tF),
(316,tF),
(317,tF),
(318,tF),
(320,tF),
(321,tF),
(322,tF),
(323,tF),
(324,tF),
(325,⟨(.array 20 235),20,160,[.int .u64 0,.int .u64 0,.int .u64 0,.int .u64 0,.int .u64 0,.int .u64 0,.int .u64 0,.int .u64 0,.int .u64 0,.int .u64 0,.int .u64 0,.int .u64 0,.int .u64 0,.int .u64 0,.int .u64 0,.int .u64 0,.int .u64 0,.int .u64 0,.int .u64 0,.int .u64 0]⟩),
(327,tF),
(328,⟨(.array 9 98),18,144,[.int .i64 0,.int .i64 0,.int .i64 0,.int .i64 0,.int .i64 0,.int .i64 0,.int .i64 0,.int .i64 0,.int .i64 0,.int .i64 0,.int .i64 0,.int .i64 0,.int .i64 0,.int .i64 0,.int .i64 0,.int .i64 0,.int .i64 0,.int .i64 0]⟩),
(329,⟨(.array 9 98),18,144,[.int .i64 0,.int .i64 0,.int .i64 0,.int .i64 0,.int .i64 0,.int .i64 0,.int .i64 0,.int .i64 0,.int .i64 0,.int .i64 0,.int .i64 0,.int .i64 0,.int .i64 0,.int .i64 0,.int .i64 0,.int .i64 0,.int .i64 0,.int .i64 0]⟩),
(330,⟨(.map 9 329),1,8,[.nilm]⟩),
(331,tF),
(332,tF),
(333,tF),
(334,tF),
(335,tP 311),
(336,tF),
(337,tF),
(338,⟨(.map 5 9),1,8,[.nilm]⟩),
(339,tF),
(340,tF),
(341,⟨(.array 32 5),32,32,[.int .u8 0,.int .u8 0,.int .u8 0,.int .u8 0,.int .u8 0,.int .u8 0,.int .u8 0,.int .u8 0,.int .u8 0,.int .u8 0,.int .u8 0,.int .u8 0,.int .u8 0,.int .u8 0,.int .u8 0,.int .u8 0,.int .u8 0,.int .u8 0,.int .u8 0,.int .u8 0,.int .u8 0,.int .u8 0,.int .u8 0,.int .u8 0,.int .u8 0,.int .u8 0,.int .u8 0,.int .u8 0,.int .u8 0,.int .u8 0,.int .u8 0,.int .u8 0]⟩),
(343,tF),
(344,tF),
(345,tF),
(346,tF),
(347,tF),
(348,tF),
(349,tF),
(350,tF),
(351,tF),
(352,tF),
(353,tF),
(354,tF),
(355,tF),
(357,tF),
(358,tS 365),
(359,tP 365),
(360,tF),
(361,tF),
(362,⟨(.array 3 21),3,12,[.int .i32 0,.int .i32 0,.int .i32 0]⟩),
(363,⟨(.array 3 21),3,12,[.int .i32 0,.int .i32 0,.int .i32 0]⟩),
(364,⟨(.struct [(0,233),(1,233),(2,363)]),5,20,[.int .u32 0,.int .u32 0,.int .i32 0,.int .i32 0,.int .i32 0]⟩),
(365,⟨(.struct [(0,233),(1,233),(2,363)]),5,20,[.int .u32 0,.int .u32 0,.int .i32 0,.int .i32 0,.int .i32 0]⟩),
(366,⟨(.struct [(0,17),(1,17),(2,17),(3,9)]),4,40,[.nilp,.nilp,.nilp,.str []]⟩),
(367,⟨(.struct [(0,17),(1,17),(2,17),(3,9)]),4,40,[.nilp,.nilp,.nilp,.str []]⟩),
(368,⟨(.array 0 16),0,0,[]⟩),
(369,⟨(.struct [(0,368)]),0,0,[]⟩),
(370,⟨(.struct [(0,368)]),0,0,[]⟩),
(371,⟨(.int .u8),1,1,[.int .u8 0]⟩),
(372,⟨(.int .u8),1,1,[.int .u8 0]⟩),
(373,tF),
(374,⟨(.int .i32),1,4,[.int .i32 0]⟩),
(375,⟨(.int .i32),1,4,[.int .i32 0]⟩),
(376,⟨(.struct [(0,12),(1,12),(2,233),(3,371),(4,5),(5,5),(6,372),(7,373),(8,224),(9,374),(10,375)]),11,48,[.int .u64 0,.int .u64 0,.int .u32 0,.int .u8 0,.int .u8 0,.int .u8 0,.int .u8 0,.nilf,.nilp,.int .i32 0,.int .i32 0]⟩),
(377,⟨(.struct [(0,12),(1,12),(2,233),(3,371),(4,5),(5,5),(6,372),(7,373),(8,224),(9,374),(10,375)]),11,48,[.int .u64 0,.int .u64 0,.int .u32 0,.int .u8 0,.int .u8 0,.int .u8 0,.int .u8 0,.nilf,.nilp,.int .i32 0,.int .i32 0]⟩),
(378,⟨(.struct [(0,9),(1,372)]),2,24,[.str [],.int .u8 0]⟩),
(379,⟨(.struct [(0,9),(1,372)]),2,24,[.str [],.int .u8 0]⟩)]
theorem okL:zaq Tryz.prog L:=zaq.of_check (by kernel_rfl)
theorem hmix:Tryz.prog.follows .mixedOrders=true:=by kernel_rfl
end Go.Proofs.YtpopmiodjibljaaGreatDoor
namespace Go.Abs
open Go
def rowM:Int→List (Int×Int)→Bool
 |_,[]=>true
 |nx,x::l=>!(decide (x.1<nx)||decide (x.2<x.1)||decide (x.2>1114111))&&rowM (x.2+2) l
theorem zdi{nx:Int}{x:Int×Int}{l:List (Int×Int)}(h:rowM nx (x::l)=true):nx≤x.1∧x.1≤x.2∧x.2≤1114111∧rowM (x.2+2) l=true:=by
 simp only[rowM,aO,bL,d9,aV] at h;exact⟨by omega,by omega,by omega,h.2⟩
theorem zdV{nx:Int}{x:Int×Int}{l:List (Int×Int)}(h:nx≤x.1∧x.1≤x.2∧x.2≤1114111∧rowM (x.2+2) l=true):rowM nx (x::l)=true:=by
 simp only[rowM,aO,bL,d9,aV];exact⟨⟨⟨by omega,by omega⟩,by omega⟩,h.2.2.2⟩
def inS(x:Int×Int)(n:Int):Bool:=decide (x.1≤n)&&decide (n≤x.2)
def inM(l:List (Int×Int))(n:Int):Bool:=l.any fun x=>inS x n
theorem zbm(x:Int×Int)(l:List (Int×Int))(n:Int):inM (x::l) n=(inS x n||inM l n):=rfl
theorem zbO(x:Int×Int)(n:Int):inS x n=true↔x.1≤n∧n≤x.2:=by simp[inS]
theorem zex{n:Int}:∀{l:List (Int×Int)} {nx:Int},rowM nx l=true→inM l n=true→nx≤n∧n≤1114111
 |[],nx,_,h=>by cases h
 |x::l,nx,h,hn=>by
  obtain⟨h1,h2,h3,h4⟩:=zdi h;rw[zbm,bp] at hn;rcases hn with hn|hn
  ·rw[zbO] at hn;omega
  ·have:=zex h4 hn;omega
theorem zlD{n nx:Int}{l:List (Int×Int)}(h:rowM nx l=true)(hn:n<nx):inM l n=false:=by
 cases e:inM l n with
 |false=>rfl
 |true=>have:=zex h e;omega
theorem zr2:∀{l1 l2:List (Int×Int)} {nx:Int},rowM nx l1=true→rowM nx l2=true→(∀n,inM l1 n=inM l2 n)→l1=l2
 |[],[],_,_,_,_=>rfl
 |[],y::t,nx,h1,h2,h=>by
  have a:=zdi h2;have:=h y.1;rw[zbm,(zbO y y.1).2 ⟨am _,a.2.1⟩] at this;cases this
 |x::t,[],nx,h1,h2,h=>by
  have a:=zdi h1;have:=h x.1;rw[zbm,(zbO x x.1).2 ⟨am _,a.2.1⟩] at this;cases this
 |x::t1,y::t2,nx,h1,h2,h=>by
  have a:=zdi h1;have b:=zdi h2;have xin:inM (x::t1) x.1=true:=by rw[zbm,(zbO x x.1).2 ⟨am _,a.2.1⟩];rfl
  have yin:inM (y::t2) y.1=true:=by rw[zbm,(zbO y y.1).2 ⟨am _,b.2.1⟩];rfl
  have e1:x.1=y.1:=by
   have p:=zex (zdV (nx:=y.1) ⟨am _,b.2⟩) ((h x.1).symm.trans xin);have q:=zex (zdV (nx:=x.1) ⟨am _,a.2⟩) ((h y.1).trans yin);omega
  have e2:x.2=y.2:=by
   rcases Int.lt_trichotomy x.2 y.2 with hl|hl|hl
   ·have p:inM (y::t2) (x.2+1)=true:=by rw[zbm,(zbO y (x.2+1)).2 ⟨by omega,by omega⟩];rfl
    rw[←h (x.2+1),zbm,bp,zbO] at p;rcases p with p|p
    ·omega
    ·have:=zex a.2.2.2 p;omega
   ·exact hl
   ·have p:inM (x::t1) (y.2+1)=true:=by rw[zbm,(zbO x (y.2+1)).2 ⟨by omega,by omega⟩];rfl
    rw[h (y.2+1),zbm,bp,zbO] at p;rcases p with p|p
    ·omega
    ·have:=zex b.2.2.2 p;omega
  have e:x=y:=Prod.ext e1 e2;subst e;have:=zr2 a.2.2.2 b.2.2.2 fun n=>by
   by_cases hn:n<x.2+2
   ·rw[zlD a.2.2.2 hn,zlD b.2.2.2 hn]
   ·have:=h n
    rw[zbm,zbm] at this;have hx:inS x n=false:=by
     cases e:inS x n with
     |false=>rfl
     |true=>rw[zbO] at e;omega
    rw[hx] at this;exact this
  rw[this]
def zca(y:Int×Int):List (Int×Int)→List (Int×Int)
 |[]=>[y]
 |x::l=>if x.1≤y.2+1 then zca (y.1,max y.2 x.2) l else y::zca x l
def zeo:List (Int×Int)→List (Int×Int)
 |[]=>[]
 |x::l=>zca x l
def okS'(x:Int×Int):Prop:=x.1≤x.2∧x.2≤1114111
def asc(l:List (Int×Int)):Prop:=l.Pairwise fun x y=>x.1≤y.1
theorem zen:∀{l:List (Int×Int)} {y:Int×Int} {nx:Int},nx≤y.1→okS' y→(∀x∈l,okS' x)→asc (y::l)→rowM nx (zca y l)=true
 |[],y,nx,h,hy,_,_=>zdV ⟨h,hy.1,hy.2,rfl⟩
 |x::l,y,nx,h,hy,hl,hs=>by
  have hx:=hl x aE;unfold okS' at hx hy;obtain⟨hs1,hs2⟩:=List.pairwise_cons.1 hs;have h1:=hs1 x aE;simp only[zca];split
  ·refine zen (by exact h) ⟨by simp only;omega,by simp only;omega⟩ (fun z hz=>hl z (aB _ hz)) (List.pairwise_cons.2 ⟨fun z hz=>hs1 z (aB _ hz),(List.pairwise_cons.1 hs2).2⟩)
  ·exact zdV ⟨h,hy.1,hy.2,zen (by omega) hx (fun z hz=>hl z (aB _ hz)) hs2⟩
theorem zfv(n:Int):∀{l:List (Int×Int)} {y:Int×Int},okS' y→(∀x∈l,okS' x)→asc (y::l)→inM (zca y l) n=(inS y n||inM l n)
 |[],y,_,_,_=>by simp[zca,inM]
 |x::l,y,hy,hl,hs=>by
  have hx:=hl x aE;unfold okS' at hx hy;obtain⟨hs1,hs2⟩:=List.pairwise_cons.1 hs;have h1:=hs1 x aE;simp only[zca];split
  ·rename_i hc
   rw[zfv n (y:=(y.1,max y.2 x.2)) ⟨by simp only;omega,by simp only;omega⟩ (fun z hz=>hl z (aB _ hz)) (List.pairwise_cons.2 ⟨fun z hz=>hs1 z (aB _ hz),(List.pairwise_cons.1 hs2).2⟩),zbm,←Bool.or_assoc]
   congr 1
   rw[aK,bp,zbO,zbO,zbO];simp only;omega
  ·rw[zbm,zfv n hx (fun z hz=>hl z (aB _ hz)) hs2,zbm]
theorem zip{l:List (Int×Int)}(hl:∀x∈l,0≤x.1∧okS' x)(hs:asc l):rowM 0 (zeo l)=true:=by
 cases l with
 |nil=>rfl
 |cons x l=>exact zen (hl x aE).1 (hl x aE).2 (fun z hz=>(hl z (aB _ hz)).2) hs
theorem zg9{l:List (Int×Int)}(hl:∀x∈l,okS' x)(hs:asc l)(n:Int):inM (zeo l) n=inM l n:=by
 cases l with
 |nil=>rfl
 |cons x l=>exact zfv n (hl x aE) (fun z hz=>hl z (aB _ hz)) hs
theorem zgI{l l':List (Int×Int)}(h:l.Perm l')(n:Int):inM l n=inM l' n:=by
 rw[aK];simp only[inM,cW];exact⟨fun⟨x,hx,hn⟩=>⟨x,h.mem_iff.1 hx,hn⟩,fun⟨x,hx,hn⟩=>⟨x,h.mem_iff.2 hx,hn⟩⟩
def zsH(want:Int)(x y:Bool):Bool:=!((decide (want=0)&&(x||y))||(decide (want=1)&&(!x&&!y))||(decide (want=2)&&(!x||!y)))
def takes(a b:List (Int×Int))(want p q:Int):Bool:=!(decide (p>q)||decide (p>1114111))&&zsH want (inM a p) (inM b p)
end Go.Abs
namespace Go.Proofs.YtpopmiodjibljaaGreatDoor
open Go Go.Abs
theorem ag{N:NN}{Q:Exit→Env→Heap→Prop}{H:Heap}(n:Nat){f f':Foc}{k k':List Fr}{T T':Env}(h:stN L N true n f k T=some (f',k',T'))(c:AC Tryz.prog N L f' k' Q T' H):AC Tryz.prog N L f k Q T H:=AC.g n okL h c
section
variable{N:NN}{Q:Exit→Env→Heap→Prop}{H:Heap}{T:Env}{k:List Fr}
theorem ae{c:Code}(h:AC Tryz.prog N L (.code c) k Q T H):AWp Tryz.prog N c (kQ Tryz.prog N k Q) T H:=h.out
theorem ae0{c:Code}(h:AC Tryz.prog N L (.code c) [] Q T H):AWp Tryz.prog N c Q T H:=h.out
theorem ab{all rest:List Oper}(h:AC Tryz.prog N L (.ops all rest) k Q T H):AOps Tryz.prog N all rest (kQ Tryz.prog N k Q) T H:=h.out
theorem ap{ops:Array Oper}{rest:List Oper}(h:AC Tryz.prog N L (.pl ops rest) k Q T H):Pl Tryz.prog N L ops (kQ Tryz.prog N k Q .normal) rest T H:=h.out
theorem ax{e:Exit}(h:AC Tryz.prog N L (.ex e) k Q T H):kQ Tryz.prog N k Q e T H:=h.out
end
def w64(n:Int):Int:=IntKind.i64.wrap n
theorem zdd{n:Int}(h1:-9223372036854775808≤n)(h2:n≤9223372036854775807):w64 n=n:=zhW h1 h2
theorem zap{n:Int}(h:-9223372036854775808≤n∧n≤9223372036854775807):IntKind.i64.wrap n=n:=zhW h.1 h.2
theorem zcQ{α:Type}{l:List α}{k:Nat}{y:α}(h:l[k]?=some y):l.take (k+1)=l.take k++[y]:=by rw[cd,h];rfl
theorem zpd{s:List UInt8}{i:Nat}(h:i<s.length):s[((i:Nat):Int).toNat]?=some (s.getD i 0):=by
 simp[List.getD_eq_getElem?_getD,h]
def nC(c:Nat):List A:=[i64 (c:Int)]
def zC(c:Int):List A:=[i64 c]
def sC(s:List UInt8):List A:=[.str s]
theorem zi7{α:Type}{r:Nat}{l:List α}:some r=none→l=[]:=fun h=>by cases h
def chM(c:Int):Bool:=decide (c≥0)&&(decide (c≤1114111)&&(decide (c<55296)||decide (c>57343)))
theorem zby(c:Int):PTr Tryz.prog 55 [i64 c] (.bool (chM c)):=by
 refine aC (N:=18) Tryz.func55 I I I ?_;refine ae0 (ag 10 I (J3 ?_));refine J6 I I I (fun h=>?_) (fun h=>?_)
 ·refine ab (ag 4 I (J3 ?_))
  refine J6 I I I (fun h=>?_) (fun h=>?_)
  ·refine ab (ag 3 I (J3 ?_))
   refine J6 I I I (fun h=>?_) (fun h=>?_)
   ·refine ab (ag 9 I (J ?_))
    refine zaa (J5 I I) ?_;(simp_all[chM]<;>((rw[aK];simp<;>omega)))
   ·refine ab (ag 9 I (J ?_))
    refine zaa (J5 I I) ?_;(simp_all[chM]<;>first|omega|(rw[aK];simp<;>omega))
  ·refine ab (ag 12 I (J ?_))
   refine zaa (J5 I I) ?_;(simp_all[chM]<;>(omega))
 ·refine ab (ag 16 I (J ?_))
  refine zaa (J5 I I) ?_;(simp_all[chM]<;>(omega))
theorem zf9(c:Int):PTr Tryz.prog 137 [i64 c] (.bool (chM c)):=by
 refine aC (N:=17) Tryz.func137 I I I ?_;refine ae0 (ag 10 I (J3 ?_));refine J6 I I I (fun h=>?_) (fun h=>?_)
 ·refine ab (ag 4 I (J3 ?_))
  refine J6 I I I (fun h=>?_) (fun h=>?_)
  ·refine ab (ag 3 I (J3 ?_))
   refine J6 I I I (fun h=>?_) (fun h=>?_)
   ·refine ab (ag 8 I (J ?_))
    refine zaa (J5 I I) ?_;(simp_all[chM]<;>first|omega|(rw[aK];simp<;>omega))
   ·refine ab (ag 8 I (J ?_))
    refine zaa (J5 I I) ?_;(simp_all[chM]<;>(omega))
  ·refine ab (ag 11 I (J ?_))
   refine zaa (J5 I I) ?_;(simp_all[chM]<;>(omega))
 ·refine ab (ag 15 I (J ?_))
  refine zaa (J5 I I) ?_;(simp_all[chM]<;>(omega))
def mxI(a b:Int):Int:=if b>a then b else a
mutual
/-- Nodes, groups and depth of a pattern. -/
def szP:Pat→Int×Int×Int
 |.mk op _ _ _ _ _ l=>let a:=szL l (1,if op=7 then 1 else 0,0);(a.1,a.2.1,w64 (a.2.2+1))
def szL:List Pat→Int×Int×Int→Int×Int×Int
 |[],a=>a
 |y::l,a=>szL l (w64 (a.1+(szP y).1),w64 (a.2.1+(szP y).2.1),mxI a.2.2 (szP y).2.2)
end
theorem zpf(x:Pat):szP x=((szL x.l (1,if x.op=7 then 1 else 0,0)).1,(szL x.l (1,if x.op=7 then 1 else 0,0)).2.1,w64 ((szL x.l (1,if x.op=7 then 1 else 0,0)).2.2+1)):=by
 cases x;rw[szP];rfl
set_option maxRecDepth 100000 in
theorem ref12Size_tr(x:Pat):PTr Tryz.prog 48 [.agg x.C] (.agg [i64 (szP x).1,i64 (szP x).2.2,i64 (szP x).2.1]):=by
 induction x using Pat.ind with|h x IH=>_
 refine aC (N:=47) Tryz.func48 I I I ?_;refine Jv (t:=0) I (za1.agg (x:=.ds (x.l.map Pat.cells)) (by simp[Pat.C]) (za1.ds _)) fun hlen=>?_;rw[ak] at hlen;refine ae0 (ag 2 I (O (Jk I I (zab I) I I (fun _ _=>(ab (O (Jf okL I I I (fun _ _=>(ab (ag 5 I (O (Jf okL I I I (fun _ _=>(ab (O (J8 okL I I I (zab I) I I I .here I I I (ab (ag 6 I (O (J1 okL I (.tail _ (.tail _ (.head _))) I I I I (ab (ag 3 I (J2 ?_)))))))))))))))))))))));rename_i r1 _ r2 _ r3 _;refine Y1 (α:=Int) (fun _=>[(1,.ptr r1 7 0 0),(2,.ptr r2 3 0 0),(3,.ptr r3 3 0 0)])
  (fun g=>[(r3,.row 81 3 [[i64 1,i64 0,i64 g]]),(r2,.row 81 3 [[i64 0,i64 0,i64 0]]),(r1,.row 25 7 [x.C])])
  (fun g=>g=if x.op=7 then 1 else 0) ?_ fun R K hR=>?_
 ·intro g hg
  refine ae (ag 7 I (J2 ?_));refine Jj (α:=Nat×Int×Int×Int) (fun a=>x.l.length - a.1) (fun a=>[(1,.ptr r1 7 0 0),(2,.ptr r2 3 0 0),(3,.ptr r3 3 0 0),(4,i64 a.1)])
   (fun a=>[(r3,.row 81 3 [[i64 a.2.1,i64 a.2.2.2,i64 a.2.2.1]]),(r2,.row 81 3 [[i64 0,i64 0,i64 0]]),(r1,.row 25 7 [x.C])])
   (fun a=>a.1≤x.l.length∧szL (x.l.drop a.1) a.2=szL x.l (1,if x.op=7 then 1 else 0,0)) (0,1,g,0) ⟨aM _,by rw[←hg];rfl⟩ ?_ (ar _) ?_
  ·simp only[zaz]
   refine⟨I,I,I,I,trivial⟩
  rintro⟨k,m⟩ ⟨hk,hm⟩ ih;simp only at hk hm;refine ae0 (ag 5 I (O (J1 okL I (.tail _ (.tail _ (.head _))) I I I I (ab (ag 4 I (J2 ?_))))))
  (refine J4 I (fun h=>?_) (fun h=>?_))
  ·have h:=aj h
   simp only[ak] at h;obtain⟨y,hy⟩:∃y,x.l[k]?=some y:=⟨x.l[k],by simp[show k<x.l.length by omega]⟩
   rw[zaA hy,szL] at hm;refine ae (ag 7 I (O (J1 okL I (.tail _ (.tail _ (.head _))) I I I I (ab (ag 1 I (J3 ?_))))))
   (refine AOps.simple okL I (zad I I I I I ((by omega)) (getC hy) I) I ?_)
   refine ab (ag 1 I (O (J9 I I I (IH y (List.mem_of_getElem? hy)) (ab (O (Jf okL I I I (fun _ _=>(ab (O (J8 okL I I I (zab I) I I I .here I I I (ab (ag 5 I (O (J1 okL I (.tail _ (.head _)) I I I I (ab (ag 1 I (O (J1 okL I (.head _) I I I I (ab (ag 2 I (O (J8 okL I I I (zab I) I I I (.there .here) I I I (ab (ag 5 I (O (J1 okL I (.tail _ (.head _)) I I I I (ab (ag 1 I (O (J1 okL I (.head _) I I I I (ab (ag 2 I (O (J8 okL I I I (zab I) I I I (.there .here) I I I (ab (ag 4 I (O (J1 okL I (.tail _ (.head _)) I I I I (ab (ag 1 I (O (J1 okL I (.head _) I I I I (ab (ag 2 I (O (J8 okL I I I (zab I) I I I (.there .here) I I I (ab (ag 8 I (J (zae ?_))))))))))))))))))))))))))))))))))))))))))))))))));refine aq 1 (ih (k+1,_) ⟨by omega,hm⟩ (by simp only;omega)) ?_ I
   simp only[zaz];refine⟨I,I,I,?_,trivial⟩;exact ai some (nxt (by omega) hlen)
  ·have h:=ao h
   simp only[ak] at h;rw[aW (by omega),szL] at hm;refine ae (ag 2 I (J (ae (ag 3 I (O (J1 okL I (.head _) I I I I (ab (ag 2 I (O (J8 okL I I I (zab I) I I I .here I I I (ab (ag 4 I (O (J1 okL I (.head _) I I I I (ab (O (J8 okL I I I (zab I) I I I (.there .here) I I I (ab (ag 3 I (J ?_))))))))))))))))))));refine zaa (Jw okL I I (.tail _ (.head _)) I I I) ?_;rw[zpf,←hm];rfl
 (refine J4 I (fun h=>?_) (fun h=>?_))
 ·refine ae0 (ag 2 I (O (J8 okL I I I (zab I) I I I .here I I I (ab (ag 1 I (J ?_))))))
  (refine K (1) (by rw[af (aj h)]) 0 _ _ ?_ I;exact⟨I,I,I,trivial⟩)
 ·refine ae0 (ag 1 I (J ?_))
  (refine K (0) (by rw[ac (ao h)]) 0 _ _ ?_ I;exact⟨I,I,I,trivial⟩)
set_option maxRecDepth 100000 in
theorem measure_tr(x:Pat):PTr Tryz.prog 111 [.agg x.C] (.agg [i64 (szP x).1,i64 (szP x).2.1,i64 (szP x).2.2]):=by
 induction x using Pat.ind with|h x IH=>_
 refine aC (N:=43) Tryz.func111 I I I ?_;refine Jv (t:=0) I (za1.agg (x:=.ds (x.l.map Pat.cells)) (by simp[Pat.C]) (za1.ds _)) fun hlen=>?_;rw[ak] at hlen;refine ae0 (ag 2 I (O (Jk I I (zab I) I I (fun _ _=>(ab (O (Jf okL I I I (fun _ _=>(ab (ag 5 I (O (Jf okL I I I (fun _ _=>(ab (O (J8 okL I I I (zab I) I I I .here I I I (ab (ag 6 I (O (J1 okL I (.tail _ (.tail _ (.head _))) I I I I (ab (ag 3 I (J2 ?_)))))))))))))))))))))));rename_i r1 _ r2 _ r3 _;refine Y1 (α:=Int) (fun _=>[(1,.ptr r1 7 0 0),(2,.ptr r2 3 0 0),(3,.ptr r3 3 0 0)])
  (fun g=>[(r3,.row 156 3 [[i64 1,i64 g,i64 0]]),(r2,.row 156 3 [[i64 0,i64 0,i64 0]]),(r1,.row 25 7 [x.C])])
  (fun g=>g=if x.op=7 then 1 else 0) ?_ fun R K hR=>?_
 ·intro g hg
  refine ae (ag 4 I (O (J1 okL I (.tail _ (.tail _ (.head _))) I I I I (ab (ag 5 I (J2 ?_))))));refine Jj (α:=Nat×Int×Int×Int) (fun a=>x.l.length - a.1) (fun a=>[(1,.ptr r1 7 0 0),(2,.ptr r2 3 0 0),(3,.ptr r3 3 0 0),(13,.ds (x.l.map Pat.cells)),(14,i64 (x.l.map Pat.cells).length),(15,i64 a.1)])
   (fun a=>[(r3,.row 156 3 [[i64 a.2.1,i64 a.2.2.1,i64 a.2.2.2]]),(r2,.row 156 3 [[i64 0,i64 0,i64 0]]),(r1,.row 25 7 [x.C])])
   (fun a=>a.1≤x.l.length∧szL (x.l.drop a.1) a.2=szL x.l (1,if x.op=7 then 1 else 0,0)) (0,1,g,0) ⟨aM _,by rw[←hg];rfl⟩ ?_ (ar _) ?_
  ·simp only[zaz]
   refine⟨I,I,I,I,I,I,trivial⟩
  rintro⟨k,m⟩ ⟨hk,hm⟩ ih;simp only at hk hm;refine ae0 (ag 6 I (J2 ?_))
  (refine J4 I (fun h=>?_) (fun h=>?_))
  ·have h:=aj h
   simp only[ak] at h;obtain⟨y,hy⟩:∃y,x.l[k]?=some y:=⟨x.l[k],by simp[show k<x.l.length by omega]⟩
   rw[zaA hy,szL] at hm;refine ae (ag 6 I (J3 ?_))
   (refine AOps.simple okL I (zad I I I I I ((by omega)) (getC hy) I) I ?_)
   refine ab (ag 1 I (O (Jf okL I I I (fun _ _=>(ab (O (J8 okL I I I (zab I) I I I .here I I I (ab (ag 4 I (O (J1 okL I (.head _) I I I I (ab (O (J9 I I I (IH y (List.mem_of_getElem? hy)) (ab (O (Jf okL I I I (fun _ _=>(ab (O (J8 okL I I I (zab I) I I I .here I I I (ab (ag 4 I (O (J1 okL I (.tail _ (.tail _ (.head _))) I I I I (ab (ag 1 I (O (J1 okL I (.head _) I I I I (ab (ag 2 I (O (J1 okL I (.tail _ (.tail _ (.head _))) I I I I (ab (ag 1 I (O (J1 okL I (.head _) I I I I (ab (ag 2 I (O (J1 okL I (.tail _ (.tail _ (.head _))) I I I I (ab (ag 1 I (O (J1 okL I (.head _) I I I I (ab (ag 2 I (O (J8 okL I I I (zab I) I I I (.there (.there .here)) I I I (ab (ag 7 I (J (zae ?_)))))))))))))))))))))))))))))))))))))))))))))))))))));refine aq 2 (ih (k+1,_) ⟨by omega,hm⟩ (by simp only;omega)) ?_ I
   simp only[zaz];refine⟨I,I,I,I,I,?_,trivial⟩;exact ai some (nxt (by omega) hlen)
  ·have h:=ao h
   simp only[ak] at h;rw[aW (by omega),szL] at hm;refine ae (ag 2 I (J (ae (ag 3 I (O (J1 okL I (.head _) I I I I (ab (ag 2 I (O (J8 okL I I I (zab I) I I I .here I I I (ab (ag 4 I (O (J1 okL I (.head _) I I I I (ab (O (J8 okL I I I (zab I) I I I (.there .here) I I I (ab (ag 3 I (J ?_))))))))))))))))))));refine zaa (Jw okL I I (.tail _ (.head _)) I I I) ?_;rw[zpf,←hm];rfl
 (refine J4 I (fun h=>?_) (fun h=>?_))
 ·refine ae0 (ag 2 I (O (J8 okL I I I (zab I) I I I .here I I I (ab (ag 1 I (J ?_))))))
  (refine K (1) (by rw[af (aj h)]) 0 _ _ ?_ I;exact⟨I,I,I,trivial⟩)
 ·refine ae0 (ag 1 I (J ?_))
  (refine K (0) (by rw[ac (ao h)]) 0 _ _ ?_ I;exact⟨I,I,I,trivial⟩)
theorem zb0(c:Int):PTr Tryz.prog 60 [i64 c] (.bool (chM c)):=by
 refine aC (N:=17) Tryz.func60 I I I ?_;refine ae0 (ag 10 I (J3 ?_));refine J6 I I I (fun h=>?_) (fun h=>?_)
 ·refine ab (ag 4 I (J3 ?_))
  refine J6 I I I (fun h=>?_) (fun h=>?_)
  ·refine ab (ag 3 I (J3 ?_))
   refine J6 I I I (fun h=>?_) (fun h=>?_)
   ·refine ab (ag 8 I (J ?_))
    refine zaa (J5 I I) ?_;(simp_all[chM]<;>first|omega|(rw[aK];simp<;>omega))
   ·refine ab (ag 8 I (J ?_))
    refine zaa (J5 I I) ?_;(simp_all[chM]<;>(omega))
  ·refine ab (ag 11 I (J ?_))
   refine zaa (J5 I I) ?_;(simp_all[chM]<;>(omega))
 ·refine ab (ag 15 I (J ?_))
  refine zaa (J5 I I) ?_;(simp_all[chM]<;>(omega))
def wiM(n lo hi:Int):Bool:=decide (n≥lo)&&decide (n≤hi)
theorem zaQ(n lo hi:Int):PTr Tryz.prog 211 [i64 n,i64 lo,i64 hi] (.bool (wiM n lo hi)):=by
 refine aC (N:=15) Tryz.func211 I I I ?_;refine ae0 (ag 11 I (J3 ?_));refine J6 I I I (fun h=>?_) (fun h=>?_)
 ·refine ab (ag 8 I (J ?_))
  refine zaa (J5 I I) ?_;(simp_all[wiM]<;>first|omega|(rw[aK];simp<;>omega))
 ·refine ab (ag 8 I (J ?_))
  refine zaa (J5 I I) ?_;(simp_all[wiM]<;>(omega))
theorem zax(n lo hi:Int):PTr Tryz.prog 157 [i64 n,i64 lo,i64 hi] (.bool (wiM n lo hi)):=by
 refine aC (N:=15) Tryz.func157 I I I ?_;refine ae0 (ag 11 I (J3 ?_));refine J6 I I I (fun h=>?_) (fun h=>?_)
 ·refine ab (ag 8 I (J ?_))
  refine zaa (J5 I I) ?_;(simp_all[wiM]<;>first|omega|(rw[aK];simp<;>omega))
 ·refine ab (ag 8 I (J ?_))
  refine zaa (J5 I I) ?_;(simp_all[wiM]<;>(omega))
def ltM(c:Int):Bool:=decide (c≥97)&&decide (c≤122)||decide (c≥65)&&decide (c≤90)
theorem zgb(c:Int):PTr Tryz.prog 260 [.int .u8 c] (.bool (ltM c)):=by
 refine aC (N:=17) Tryz.func260 I I I ?_;refine ae0 (ag 10 I (J3 ?_));refine J6 I I I (fun h=>?_) (fun h=>?_)
 ·refine ab (ag 4 I (J3 ?_))
  refine J6 I I I (fun h=>?_) (fun h=>?_)
  ·refine ab (ag 11 I (J ?_))
   refine zaa (J5 I I) ?_;(simp_all[ltM]<;>first|omega|(rw[aK];simp<;>omega))
  ·refine ab (ag 3 I (J3 ?_))
   refine J6 I I I (fun h=>?_) (fun h=>?_)
   ·refine ab (ag 8 I (J ?_))
    refine zaa (J5 I I) ?_;(simp_all[ltM]<;>(omega))
   ·refine ab (ag 8 I (J ?_))
    refine zaa (J5 I I) ?_;(simp_all[ltM]<;>(omega))
 ·refine ab (ag 7 I (J3 ?_))
  refine J6 I I I (fun h=>?_) (fun h=>?_)
  ·refine ab (ag 8 I (J ?_))
   refine zaa (J5 I I) ?_;(simp_all[ltM]<;>(omega))
  ·refine ab (ag 8 I (J ?_))
   refine zaa (J5 I I) ?_;(simp_all[ltM]<;>(omega))
theorem zgc(c:Int):PTr Tryz.prog 208 [.int .u8 c] (.bool (ltM c)):=by
 refine aC (N:=17) Tryz.func208 I I I ?_;refine ae0 (ag 10 I (J3 ?_));refine J6 I I I (fun h=>?_) (fun h=>?_)
 ·refine ab (ag 4 I (J3 ?_))
  refine J6 I I I (fun h=>?_) (fun h=>?_)
  ·refine ab (ag 11 I (J ?_))
   refine zaa (J5 I I) ?_;(simp_all[ltM]<;>first|omega|(rw[aK];simp<;>omega))
  ·refine ab (ag 3 I (J3 ?_))
   refine J6 I I I (fun h=>?_) (fun h=>?_)
   ·refine ab (ag 8 I (J ?_))
    refine zaa (J5 I I) ?_;(simp_all[ltM]<;>(omega))
   ·refine ab (ag 8 I (J ?_))
    refine zaa (J5 I I) ?_;(simp_all[ltM]<;>(omega))
 ·refine ab (ag 7 I (J3 ?_))
  refine J6 I I I (fun h=>?_) (fun h=>?_)
  ·refine ab (ag 8 I (J ?_))
   refine zaa (J5 I I) ?_;(simp_all[ltM]<;>(omega))
  ·refine ab (ag 8 I (J ?_))
   refine zaa (J5 I I) ?_;(simp_all[ltM]<;>(omega))
def zbE(n l:Int):Int:=if n=0∨l=0 then 0 else if n<0∨l<0 then -1 else w64 (n*l)
theorem zjB(n l:Int):PTr Tryz.prog 215 [i64 n,i64 l] (i64 (zbE n l)):=by
 refine aC (N:=22) Tryz.func215 I I I ?_;refine ae0 (ag 12 I (J3 ?_));refine J6 I I I (fun h=>?_) (fun h=>?_)
 ·refine ab (ag 15 I (J ?_))
  refine zaa (J5 I I) ?_;(simp_all[zbE,w64]<;>first|omega|(rw[aK];simp<;>omega))
 ·refine ab (ag 6 I (J2 ?_))
  refine J4 I (fun h=>?_) (fun h=>?_)
  ·refine ae (ag 8 I (J ?_))
   refine zaa (J5 I I) ?_;(simp_all[zbE,w64]<;>first|omega|(rw[aK];simp<;>omega))
  ·refine ae (ag 5 I (J3 ?_))
   refine J6 I I I (fun h=>?_) (fun h=>?_)
   ·refine ab (ag 15 I (J ?_))
    refine zaa (J5 I I) ?_;(simp_all[zbE,w64]<;>first|omega|(rw[aK];simp<;>omega))
   ·refine ab (ag 6 I (J2 ?_))
    refine J4 I (fun h=>?_) (fun h=>?_)
    ·refine ae (ag 8 I (J ?_))
     refine zaa (J5 I I) ?_;(simp_all[zbE,w64]<;>first|omega|(rw[aK];simp<;>omega))
    ·refine ae (ag 12 I (J ?_))
     refine zaa (J5 I I) ?_;(simp_all[zbE,w64]<;>(omega))
def zkY(a b:Int):Int:=if a<0∨b<0 then -1 else w64 (a+b)
theorem zp5(a b:Int):PTr Tryz.prog 216 [i64 a,i64 b] (i64 (zkY a b)):=by
 refine aC (N:=14) Tryz.func216 I I I ?_;refine ae0 (ag 11 I (J3 ?_));refine J6 I I I (fun h=>?_) (fun h=>?_)
 ·refine ab (ag 13 I (J ?_))
  refine zaa (J5 I I) ?_;(simp_all[zkY,w64]<;>first|omega|(rw[aK];simp<;>omega))
 ·refine ab (ag 5 I (J2 ?_))
  refine J4 I (fun h=>?_) (fun h=>?_)
  ·refine ae (ag 7 I (J ?_))
   refine zaa (J5 I I) ?_;(simp_all[zkY,w64]<;>first|omega|(rw[aK];simp<;>omega))
  ·refine ae (ag 11 I (J ?_))
   refine zaa (J5 I I) ?_;(simp_all[zkY,w64]<;>(omega))
def zeC(x y:Pat):Bool:=if x.op=4 then !decide (y.op=4)&&!decide (y.op=0) else if x.op=5 then !decide (y.op=5) else true
theorem ziW(x y:Pat):PTr Tryz.prog 165 [.agg x.C,.agg y.C] (.bool (zeC x y)):=by
 refine aC (N:=22) Tryz.func165 I I I ?_;refine ae0 (ag 2 I (O (Jk I I (zab I) I I (fun _ _=>(ab (O (Jk I I (zab I) I I (fun _ _=>(ab (ag 7 I (O (J1 okL I (.tail _ (.head _)) I I I I (ab (ag 9 I (J2 ?_)))))))))))))));refine J4 I (fun h=>?_) (fun h=>?_)
 ·refine ae (ag 3 I (O (J1 okL I (.head _) I I I I (ab (ag 2 I (J3 ?_))))))
  refine J6 I I I (fun h=>?_) (fun h=>?_)
  ·refine ab (ag 1 I (Jg I I I (J1 okL I (.head _) I I I I (ab (ag 8 I (J ?_))))))
   refine zaa (J5 I I) ?_;(simp_all[zeC]<;>((rw[aK];simp<;>omega)))
  ·refine ab (ag 10 I (J ?_))
   refine zaa (J5 I I) ?_;(simp_all[zeC]<;>first|omega|(rw[aK];simp<;>omega))
 ·refine ae (ag 6 I (J2 ?_))
  refine J4 I (fun h=>?_) (fun h=>?_)
  ·refine ae (ag 3 I (O (J1 okL I (.head _) I I I I (ab (ag 7 I (J ?_))))))
   refine zaa (J5 I I) ?_;(simp_all[zeC]<;>((rw[aK];simp<;>omega)))
  ·refine ae (ag 9 I (J ?_))
   refine zaa (J5 I I) ?_;(simp_all[zeC]<;>first|omega|(rw[aK];simp<;>omega))
def zbl(op:Int):Int×Int:=if op=4∨op=5 then (2,60) else if op=6∨op=7∨op=8∨op=9 then (1,1) else if op=15 then (2,2) else (0,0)
theorem znV(op:Int):PTr Tryz.prog 156 [i64 op] (.tup [i64 (zbl op).1,i64 (zbl op).2]):=by
 refine aC (N:=15) Tryz.func156 I I I ?_;refine ae0 (ag 20 I (J2 ?_));refine J4 I (fun h=>?_) (fun h=>?_)
 ·refine ae (ag 12 I (J ?_))
  refine zaa (Jm I I I) ?_;(simp_all[zbl]<;>first|omega|(rw[aK];simp<;>omega))
 ·refine ae (ag 5 I (J2 ?_))
  refine J4 I (fun h=>?_) (fun h=>?_)
  ·refine ae (ag 9 I (J ?_))
   refine zaa (Jm I I I) ?_;(simp_all[zbl]<;>first|omega|(rw[aK];simp<;>omega))
  ·refine ae (ag 7 I (J2 ?_))
   refine J4 I (fun h=>?_) (fun h=>?_)
   ·refine ae (ag 12 I (J ?_))
    refine zaa (Jm I I I) ?_;(simp_all[zbl]<;>first|omega|(rw[aK];simp<;>omega))
   ·refine ae (ag 6 I (J2 ?_))
    refine J4 I (fun h=>?_) (fun h=>?_)
    ·refine ae (ag 12 I (J ?_))
     refine zaa (Jm I I I) ?_;(simp_all[zbl]<;>first|omega|(rw[aK];simp<;>omega))
    ·refine ae (ag 6 I (J2 ?_))
     refine J4 I (fun h=>?_) (fun h=>?_)
     ·refine ae (ag 12 I (J ?_))
      refine zaa (Jm I I I) ?_;(simp_all[zbl]<;>first|omega|(rw[aK];simp<;>omega))
     ·refine ae (ag 5 I (J2 ?_))
      refine J4 I (fun h=>?_) (fun h=>?_)
      ·refine ae (ag 9 I (J ?_))
       refine zaa (Jm I I I) ?_;(simp_all[zbl]<;>first|omega|(rw[aK];simp<;>omega))
      ·refine ae (ag 6 I (J2 ?_))
       refine J4 I (fun h=>?_) (fun h=>?_)
       ·refine ae (ag 9 I (J ?_))
        refine zaa (Jm I I I) ?_;(simp_all[zbl]<;>first|omega|(rw[aK];simp<;>omega))
       ·refine ae (ag 10 I (J ?_))
        refine zaa (Jm I I I) ?_;(simp_all[zbl]<;>first|omega|(rw[aK];simp<;>omega))
def numM(x:Pat)(g:Int):Bool:=
 if x.op=1 then chM x.n else if x.op=3∨x.op=13 then wiM x.n 0 1 else if x.op=6∨x.op=16 then wiM x.n 0 2 else if x.op=7∨x.op=10∨x.op=15 then wiM x.n 1 g
 else if x.op=14 then wiM x.n 0 g else if x.op=9 then wiM x.n 0 3 else if x.op=17 then wiM x.n 0 9 else decide (x.n=0)
theorem ziT(x:Pat)(g:Int):PTr Tryz.prog 158 [.agg x.C,i64 g] (.bool (numM x g)):=by
 refine aC (N:=51) Tryz.func158 I I I ?_;refine ae0 (ag 2 I (O (Jk I I (zab I) I I (fun _ _=>(ab (ag 7 I (O (J1 okL I (.head _) I I I I (ab (ag 9 I (J2 ?_)))))))))));refine J4 I (fun h=>?_) (fun h=>?_)
 ·refine ae (ag 3 I (O (J1 okL I (.head _) I I I I (ab (O (J9 I I I (zby _) (ab (ag 6 I (J ?_)))))))))
  refine zaa (J5 I I) ?_;(simp_all[numM]<;>first|omega|(rw[aK];simp<;>omega))
 ·refine ae (ag 7 I (J2 ?_))
  refine J4 I (fun h=>?_) (fun h=>?_)
  ·refine ae (ag 6 I (O (J1 okL I (.head _) I I I I (ab (O (J9 I I I (zax _ _ _) (ab (ag 6 I (J ?_)))))))))
   refine zaa (J5 I I) ?_;(simp_all[numM]<;>first|omega|(rw[aK];simp<;>omega))
  ·refine ae (ag 5 I (J2 ?_))
   refine J4 I (fun h=>?_) (fun h=>?_)
   ·refine ae (ag 3 I (O (J1 okL I (.head _) I I I I (ab (O (J9 I I I (zax _ _ _) (ab (ag 6 I (J ?_)))))))))
    refine zaa (J5 I I) ?_;(simp_all[numM]<;>first|omega|(rw[aK];simp<;>omega))
   ·refine ae (ag 7 I (J2 ?_))
    refine J4 I (fun h=>?_) (fun h=>?_)
    ·refine ae (ag 6 I (O (J1 okL I (.head _) I I I I (ab (O (J9 I I I (zax _ _ _) (ab (ag 6 I (J ?_)))))))))
     refine zaa (J5 I I) ?_;(simp_all[numM]<;>first|omega|(rw[aK];simp<;>omega))
    ·refine ae (ag 5 I (J2 ?_))
     refine J4 I (fun h=>?_) (fun h=>?_)
     ·refine ae (ag 3 I (O (J1 okL I (.head _) I I I I (ab (O (J9 I I I (zax _ _ _) (ab (ag 6 I (J ?_)))))))))
      refine zaa (J5 I I) ?_;(simp_all[numM]<;>first|omega|(rw[aK];simp<;>omega))
     ·refine ae (ag 7 I (J2 ?_))
      refine J4 I (fun h=>?_) (fun h=>?_)
      ·refine ae (ag 6 I (O (J1 okL I (.head _) I I I I (ab (ag 1 I (O (J9 I I I (zax _ _ _) (ab (ag 6 I (J ?_))))))))))
       refine zaa (J5 I I) ?_;(simp_all[numM]<;>first|omega|(rw[aK];simp<;>omega))
      ·refine ae (ag 6 I (J2 ?_))
       refine J4 I (fun h=>?_) (fun h=>?_)
       ·refine ae (ag 6 I (O (J1 okL I (.head _) I I I I (ab (ag 1 I (O (J9 I I I (zax _ _ _) (ab (ag 6 I (J ?_))))))))))
        refine zaa (J5 I I) ?_;(simp_all[numM]<;>first|omega|(rw[aK];simp<;>omega))
       ·refine ae (ag 5 I (J2 ?_))
        refine J4 I (fun h=>?_) (fun h=>?_)
        ·refine ae (ag 3 I (O (J1 okL I (.head _) I I I I (ab (ag 1 I (O (J9 I I I (zax _ _ _) (ab (ag 6 I (J ?_))))))))))
         refine zaa (J5 I I) ?_;(simp_all[numM]<;>first|omega|(rw[aK];simp<;>omega))
        ·refine ae (ag 6 I (J2 ?_))
         refine J4 I (fun h=>?_) (fun h=>?_)
         ·refine ae (ag 3 I (O (J1 okL I (.head _) I I I I (ab (ag 1 I (O (J9 I I I (zax _ _ _) (ab (ag 6 I (J ?_))))))))))
          refine zaa (J5 I I) ?_;(simp_all[numM]<;>first|omega|(rw[aK];simp<;>omega))
         ·refine ae (ag 6 I (J2 ?_))
          refine J4 I (fun h=>?_) (fun h=>?_)
          ·refine ae (ag 3 I (O (J1 okL I (.head _) I I I I (ab (O (J9 I I I (zax _ _ _) (ab (ag 6 I (J ?_)))))))))
           refine zaa (J5 I I) ?_;(simp_all[numM]<;>first|omega|(rw[aK];simp<;>omega))
          ·refine ae (ag 6 I (J2 ?_))
           refine J4 I (fun h=>?_) (fun h=>?_)
           ·refine ae (ag 3 I (O (J1 okL I (.head _) I I I I (ab (O (J9 I I I (zax _ _ _) (ab (ag 6 I (J ?_)))))))))
            refine zaa (J5 I I) ?_;(simp_all[numM]<;>first|omega|(rw[aK];simp<;>omega))
           ·refine ae (ag 6 I (O (J1 okL I (.head _) I I I I (ab (ag 5 I (J ?_))))))
            refine zaa (J5 I I) ?_;(simp_all[numM]<;>((rw[aK];simp<;>omega)))
def zck(x:Pat):Bool:=decide ((szP x).1>60)||(decide ((szP x).2.2>12)||decide ((szP x).2.1>9))
theorem zlo(x:Pat):PTr Tryz.prog 104 [.agg x.C] (.bool (zck x)):=by
 refine aC (N:=19) Tryz.func104 I I I ?_;refine ae0 (ag 2 I (O (Jk I I (zab I) I I (fun _ _=>(ab (ag 5 I (O (J1 okL I (.head _) I I I I (ab (O (J9 I I I (ref12Size_tr x) (ab (O (Jf okL I I I (fun _ _=>(ab (O (J8 okL I I I (zab I) I I I .here I I I (ab (ag 5 I (O (J1 okL I (.head _) I I I I (ab (ag 2 I (J3 ?_)))))))))))))))))))))))));refine J6 I I I (fun h=>?_) (fun h=>?_)
 ·refine ab (ag 13 I (J ?_))
  refine zaa (J5 I I) ?_;(simp_all[zck]<;>first|omega|(rw[aK];simp<;>omega))
 ·refine ab (ag 1 I (Jg I I I (J1 okL I (.head _) I I I I (ab (ag 3 I (J3 ?_))))))
  refine J6 I I I (fun h=>?_) (fun h=>?_)
  ·refine ab (ag 8 I (J ?_))
   refine zaa (J5 I I) ?_;(simp_all[zck]<;>first|omega|(rw[aK];simp<;>omega))
  ·refine ab (ag 1 I (Jg I I I (J1 okL I (.head _) I I I I (ab (ag 6 I (J ?_))))))
   refine zaa (J5 I I) ?_;(simp_all[zck]<;>((rw[aK];simp<;>omega)))
def lenS(op:Int)(first:Bool)(a b:Int×Int):Int×Int:=
 if first then b else if op=4 then (w64 (a.1+b.1),zkY a.2 b.2) else (if b.1<a.1 then b.1 else a.1,if a.2≥0∧(b.2<0∨b.2>a.2) then b.2 else a.2)
mutual
def lenP:Pat→Int×Int
 |.mk op _ mn mx _ _ l=>
  if op=1∨op=2∨op=3 then (1,1) else if op=10∨op=14 then (0,-1) else if op=9 then (0,0)
  else if op=6 then (zbE mn (lenH l).1,zbE mx (lenH l).2) else lenL op l true (0,0)
def lenH:List Pat→Int×Int
 |[]=>(0,0)
 |y::_=>lenP y
def lenL:Int→List Pat→Bool→Int×Int→Int×Int
 |_,[],_,a=>a
 |op,y::l,f,a=>lenL op l false (lenS op f a (lenP y))
end
theorem zbu(x:Pat):lenP x=if x.op=1∨x.op=2∨x.op=3 then (1,1) else if x.op=10∨x.op=14 then (0,-1) else if x.op=9 then (0,0)
  else if x.op=6 then (zbE x.min (lenH x.l).1,zbE x.max (lenH x.l).2) else lenL x.op x.l true (0,0):=by cases x;rw[lenP];rfl
inductive Sh:Pat→Prop
 |mk (x:Pat) (h:x.op=5∨x.op=6∨x.op=7∨x.op=8∨x.op=15→x.l≠[]) (t:∀y∈x.l,Sh y):Sh x
theorem Sh.tl{x:Pat}(h:Sh x):∀y∈x.l,Sh y:=by cases h;assumption
theorem Sh.hd{x:Pat}(h:Sh x):x.op=5∨x.op=6∨x.op=7∨x.op=8∨x.op=15→x.l≠[]:=by cases h;assumption
theorem zrf{x:Pat}{a:Int×Int}(h:x.op=6)(hH:lenH x.l=a):lenP x=(zbE x.min a.1,zbE x.max a.2):=by rw[zbu,hH];simp[h]
theorem zjh{x:Pat}:A.ds (x.l.map Pat.cells)∈x.C:=by simp[Pat.C]
set_option maxHeartbeats 2000000 in
theorem lengths_tr(x:Pat)(hs:Sh x):PTr Tryz.prog 166 [.agg x.C] (.tup [i64 (lenP x).1,i64 (lenP x).2]):=by
 induction x using Pat.ind with|h x IH=>_
 refine aC (N:=87) Tryz.func166 I I I ?_;refine Jv (t:=0) I (za1.agg zjh (za1.ds _)) fun hlen=>?_;rw[ak] at hlen;refine ae0 (ag 2 I (O (Jk I I (zab I) I I (fun _ _=>(ab (ag 8 I (O (J1 okL I (.head _) I I I I (ab (ag 2 I (J2 ?_)))))))))));rename_i r _;refine Y1 (α:=Unit) (fun _=>[(1,.ptr r 7 0 0)]) (fun _=>[(r,.row 25 7 [x.C])]) (fun _=>lenP x=lenL x.op x.l true (0,0)) ?_ fun R K hR=>?_
 ·rintro _ hl
  refine ae (ag 10 I (O (J1 okL I (.head _) I I I I (ab (ag 5 I (J2 ?_))))));refine Jj (α:=Nat×Int×Int) (fun a=>x.l.length - a.1) (fun a=>[(1,.ptr r 7 0 0),(6,i64 a.2.1),(7,i64 a.2.2),(42,.ds (x.l.map Pat.cells)),(43,i64 (x.l.map Pat.cells).length),(44,i64 a.1)]) (fun _=>[(r,.row 25 7 [x.C])])
   (fun a=>a.1≤x.l.length∧lenL x.op (x.l.drop a.1) (decide ((a.1:Int)=0)) a.2=lenP x) (0,0,0) ⟨aM _,hl.symm⟩ ?_ (ar _) ?_
  ·simp only[zaz]
   refine⟨I,I,I,I,I,I,trivial⟩
  rintro⟨k,m⟩ ⟨hk,hm⟩ ih;simp only at hk hm;refine ae0 (ag 6 I (J2 ?_))
  (refine J4 I (fun h=>?_) (fun h=>?_))
  ·have h:=aj h
   simp only[ak] at h;obtain⟨y,hy⟩:∃y,x.l[k]?=some y:=⟨x.l[k],by simp[show k<x.l.length by omega]⟩
   have nx:=nxt (k:=k) (n:=x.l.length) (by omega) hlen;rw[zaA hy,lenL] at hm;have hk1:decide (((k+1:Nat):Int)=0)=false:=aG (by omega);have hc:=IH y (List.mem_of_getElem? hy) (hs.tl y (List.mem_of_getElem? hy));refine ae (ag 7 I (Jo okL (zad I I I I I (by omega) (getC hy) I) I (ag 1 I (O (Jf okL I I I (fun _ _=>(ab (ag 1 I (O (J8 okL I I I (zab I) I I I .here I I I (ab (ag 4 I (O (J1 okL I (.head _) I I I I (ab (O (J9 I I I (hc) (ab (ag 15 I (J2 ?_))))))))))))))))))));refine J4 I (fun h=>?_) (fun h=>?_)
   ·refine ae (ag 13 I (J (zae ?_)))
    (refine aq 1 (ih ((k+1,lenS x.op (decide ((k:Int)=0)) m (lenP y))) (⟨by omega,by simp only[hk1];exact hm⟩) (by omega)) ?_ I;exact⟨I,ai (fun v=>some (A.int .i64 v)) (by clear ih IH hc hm;simp_all[lenS,w64]<;>omega),ai (fun v=>some (A.int .i64 v)) (by clear ih IH hc hm;simp_all[lenS,w64]<;>omega),I,I,ai some nx,trivial⟩)
   ·refine ae (ag 3 I (O (J1 okL I (.tail _ (.head _)) I I I I (ab (ag 4 I (J2 ?_))))))
    refine J4 I (fun h=>?_) (fun h=>?_)
    ·refine ae (ag 6 I (O (J9 I I I (zp5 _ _) (ab (ag 10 I (J (zae ?_)))))))
     (refine aq 1 (ih ((k+1,lenS x.op (decide ((k:Int)=0)) m (lenP y))) (⟨by omega,by simp only[hk1];exact hm⟩) (by omega)) ?_ I;exact⟨I,ai (fun v=>some (A.int .i64 v)) (by clear ih IH hc hm;simp_all[lenS,w64]<;>omega),ai (fun v=>some (A.int .i64 v)) (by clear ih IH hc hm;simp_all[lenS,w64]<;>omega),I,I,ai some nx,trivial⟩)
    ·refine ae (ag 13 I (J3 ?_))
     refine J6 I I I (fun h=>?_) (fun h=>?_)
     ·refine ab (ag 3 I (J3 ?_))
      refine J6 I I I (fun h=>?_) (fun h=>?_)
      ·refine ab (ag 19 I (J (zae ?_)))
       (refine aq 1 (ih ((k+1,lenS x.op (decide ((k:Int)=0)) m (lenP y))) (⟨by omega,by simp only[hk1];exact hm⟩) (by omega)) ?_ I;exact⟨I,ai (fun v=>some (A.int .i64 v)) (by clear ih IH hc hm;simp_all[lenS,w64]<;>omega),ai (fun v=>some (A.int .i64 v)) (by clear ih IH hc hm;simp_all[lenS,w64]<;>omega),I,I,ai some nx,trivial⟩)
      ·refine ab (ag 7 I (J2 ?_))
       refine J4 I (fun h=>?_) (fun h=>?_)
       ·refine ae (ag 11 I (J (zae ?_)))
        (refine aq 1 (ih ((k+1,lenS x.op (decide ((k:Int)=0)) m (lenP y))) (⟨by omega,by simp only[hk1];exact hm⟩) (by omega)) ?_ I;exact⟨I,ai (fun v=>some (A.int .i64 v)) (by clear ih IH hc hm;simp_all[lenS,w64]<;>omega),ai (fun v=>some (A.int .i64 v)) (by clear ih IH hc hm;simp_all[lenS,w64]<;>omega),I,I,ai some nx,trivial⟩)
       ·refine ae (ag 8 I (J (zae ?_)))
        (refine aq 1 (ih ((k+1,lenS x.op (decide ((k:Int)=0)) m (lenP y))) (⟨by omega,by simp only[hk1];exact hm⟩) (by omega)) ?_ I;exact⟨I,ai (fun v=>some (A.int .i64 v)) (by clear ih IH hc hm;simp_all[lenS,w64]<;>omega),ai (fun v=>some (A.int .i64 v)) (by clear ih IH hc hm;simp_all[lenS,w64]<;>omega),I,I,ai some nx,trivial⟩)
     ·refine ab (ag 19 I (J (zae ?_)))
      (refine aq 1 (ih ((k+1,lenS x.op (decide ((k:Int)=0)) m (lenP y))) (⟨by omega,by simp only[hk1];exact hm⟩) (by omega)) ?_ I;exact⟨I,ai (fun v=>some (A.int .i64 v)) (by clear ih IH hc hm;simp_all[lenS,w64]<;>omega),ai (fun v=>some (A.int .i64 v)) (by clear ih IH hc hm;simp_all[lenS,w64]<;>omega),I,I,ai some nx,trivial⟩)
  ·have h:=ao h
   simp only[ak] at h;rw[aW (by omega),lenL] at hm;refine ae (ag 2 I (J (ae (ag 9 I (J ?_)))));refine zaa (Jm I I I) ?_;rw[←hm]
 ·have hR':=hR .ret
  cases hxl:x.l with
  |nil=>
   refine ae0 (ag 8 I (J2 ?_));refine J4 I (fun h=>?_) (fun h=>?_)
   ·refine ae (ag 11 I (J ?_))
    (refine hR _ _ _ (by intro h;cases h) ?_;refine zaa (Jm I I I) ?_;clear K hR hR' IH;rw[zbu];simp_all;done)
   ·refine ae (ag 6 I (J2 ?_))
    refine J4 I (fun h=>?_) (fun h=>?_)
    ·refine ae (ag 11 I (J ?_))
     (refine hR _ _ _ (by intro h;cases h) ?_;refine zaa (Jm I I I) ?_;clear K hR hR' IH;rw[zbu];simp_all;done)
    ·refine ae (ag 5 I (J2 ?_))
     refine J4 I (fun h=>?_) (fun h=>?_)
     ·refine ae (ag 8 I (J ?_))
      (refine hR _ _ _ (by intro h;cases h) ?_;refine zaa (Jm I I I) ?_;clear K hR hR' IH;rw[zbu];simp_all;done)
     ·refine ae (ag 7 I (J2 ?_))
      refine J4 I (fun h=>?_) (fun h=>?_)
      ·refine ae (ag 11 I (J ?_))
       (refine hR _ _ _ (by intro h;cases h) ?_;refine zaa (Jm I I I) ?_;clear K hR hR' IH;rw[zbu];simp_all;done)
      ·refine ae (ag 5 I (J2 ?_))
       refine J4 I (fun h=>?_) (fun h=>?_)
       ·refine ae (ag 8 I (J ?_))
        (refine hR _ _ _ (by intro h;cases h) ?_;refine zaa (Jm I I I) ?_;clear K hR hR' IH;rw[zbu];simp_all;done)
       ·refine ae (ag 6 I (J2 ?_))
        refine J4 I (fun h=>?_) (fun h=>?_)
        ·refine ae (ag 8 I (J ?_))
         (refine hR _ _ _ (by intro h;cases h) ?_;refine zaa (Jm I I I) ?_;clear K hR hR' IH;rw[zbu];simp_all;done)
        ·refine ae (ag 6 I (J2 ?_))
         refine J4 I (fun h=>?_) (fun h=>?_)
         ·refine ae (ag 3 I (O (J1 okL I (.head _) I I I I (ab (J3 (ab (J3 ?_)))))))
          (exfalso;exact hs.hd (by simp_all) hxl)
         ·refine ae (ag 2 I (J ?_))
          (refine K () ?_ 0 _ _ ⟨I,trivial⟩ I;clear K hR hR' IH;rw[zbu];simp_all;done)
  |cons y0 l0=>
   have hy0:y0∈x.l:=by rw[hxl];exact aE
   have hc:=IH y0 hy0 (hs.tl y0 hy0);have hH:lenH x.l=lenP y0:=by rw[hxl];rfl
   have hg:x.l[0]?=some y0:=by rw[hxl];rfl
   refine ae0 (ag 8 I (J2 ?_));refine J4 I (fun h=>?_) (fun h=>?_)
   ·refine ae (ag 11 I (J ?_))
    (refine hR _ _ _ (by intro h;cases h) ?_;refine zaa (Jm I I I) ?_;clear K hR hR' IH hc;rw[zbu];simp_all;done)
   ·refine ae (ag 6 I (J2 ?_))
    refine J4 I (fun h=>?_) (fun h=>?_)
    ·refine ae (ag 11 I (J ?_))
     (refine hR _ _ _ (by intro h;cases h) ?_;refine zaa (Jm I I I) ?_;clear K hR hR' IH hc;rw[zbu];simp_all;done)
    ·refine ae (ag 5 I (J2 ?_))
     refine J4 I (fun h=>?_) (fun h=>?_)
     ·refine ae (ag 8 I (J ?_))
      (refine hR _ _ _ (by intro h;cases h) ?_;refine zaa (Jm I I I) ?_;clear K hR hR' IH hc;rw[zbu];simp_all;done)
     ·refine ae (ag 7 I (J2 ?_))
      refine J4 I (fun h=>?_) (fun h=>?_)
      ·refine ae (ag 11 I (J ?_))
       (refine hR _ _ _ (by intro h;cases h) ?_;refine zaa (Jm I I I) ?_;clear K hR hR' IH hc;rw[zbu];simp_all;done)
      ·refine ae (ag 5 I (J2 ?_))
       refine J4 I (fun h=>?_) (fun h=>?_)
       ·refine ae (ag 8 I (J ?_))
        (refine hR _ _ _ (by intro h;cases h) ?_;refine zaa (Jm I I I) ?_;clear K hR hR' IH hc;rw[zbu];simp_all;done)
       ·refine ae (ag 6 I (J2 ?_))
        refine J4 I (fun h=>?_) (fun h=>?_)
        ·refine ae (ag 8 I (J ?_))
         (refine hR _ _ _ (by intro h;cases h) ?_;refine zaa (Jm I I I) ?_;clear K hR hR' IH hc;rw[zbu];simp_all;done)
        ·refine ae (ag 6 I (J2 ?_))
         refine J4 I (fun h=>?_) (fun h=>?_)
         ·refine ae (ag 3 I (O (J1 okL I (.head _) I I I I (ab (Jo okL (zad I I I I I (am _) (getC hg) I) I (ag 1 I (O (J9 I I I (hc) (ab (ag 8 I (Jq okL hmix (by kernel_rfl) (ag 1 I (Je (aD I I I (J1 okL I (.head _) I I I I (Ja (Qn_n ⟨I,I⟩))) (ap (ag 1 I (Je (aD I I I (J9 I I I (zjB _ _) (Ja (Qn_n ⟨I,I⟩))) (ap (ag 1 I (Je (aD I I I (J1 okL I (.head _) I I I I (Ja (Qn_n ⟨I,I⟩))) (ap (ag 1 I (Je (aD I I I (J9 I I I (zjB _ _) (Ja (Qn_n ⟨I,I⟩))) (ap (ag 6 I (J ?_)))))))))))))))))))))))))))))
          (refine hR _ _ _ (by intro h;cases h) ?_;refine zaa (Jm I I I) ?_;rw[zrf (by simpa using h) hH];done)
         ·refine ae (ag 2 I (J ?_))
          (refine K () ?_ 0 _ _ ⟨I,trivial⟩ I;clear K hR hR' IH hc;rw[zbu];simp_all;done)
def zeN(a b:Int×Int):Int×Int:=(w64 (a.1+b.1),if b.2<0∨a.2<0 then -1 else w64 (a.2+b.2))
def altS(a b:Int×Int):Int×Int:=(if b.1<a.1 then b.1 else a.1,if b.2<0∨a.2<0 then -1 else if b.2>a.2 then b.2 else a.2)
mutual
def spanP:Pat→Int×Int
 |.mk op _ mn mx _ _ l=>
  if op=1∨op=2∨op=3 then (1,1) else if op=7∨op=8 then zdD l else if op=10∨op=14 then (0,-1)
  else if op=6 then (if (zdD l).2=0 then (0,0) else if (zdD l).2<0∨mx<0 then (w64 ((zdD l).1*mn),-1) else (w64 ((zdD l).1*mn),w64 ((zdD l).2*mx)))
  else if op=4 then zcZ l (0,0) else if op=5∨op=15 then zqH l else (0,0)
def zdD:List Pat→Int×Int
 |[]=>(0,0)
 |y::_=>spanP y
def zcZ:List Pat→Int×Int→Int×Int
 |[],a=>a
 |y::l,a=>zcZ l (zeN a (spanP y))
def zek:List Pat→Int×Int→Int×Int
 |[],a=>a
 |y::l,a=>zek l (altS a (spanP y))
def zqH:List Pat→Int×Int
 |[]=>(0,0)
 |y::l=>zek l (spanP y)
end
theorem zaK(x:Pat):spanP x=if x.op=1∨x.op=2∨x.op=3 then (1,1) else if x.op=7∨x.op=8 then zdD x.l else if x.op=10∨x.op=14 then (0,-1)
  else if x.op=6 then (if (zdD x.l).2=0 then (0,0) else if (zdD x.l).2<0∨x.max<0 then (w64 ((zdD x.l).1*x.min),-1) else (w64 ((zdD x.l).1*x.min),w64 ((zdD x.l).2*x.max)))
  else if x.op=4 then zcZ x.l (0,0) else if x.op=5∨x.op=15 then zqH x.l else (0,0):=by cases x;rw[spanP];rfl
theorem zsG{x y0:Pat}(h6:x.op=6)(hH:zdD x.l=spanP y0)(h1:¬(spanP y0).2=0)(h2:0≤(spanP y0).2)(h3:0≤x.max):spanP x=(w64 ((spanP y0).1*x.min),w64 ((spanP y0).2*x.max)):=by
 rw[zaK,hH,ac (by omega),ac (by omega),ac (by omega),af h6,ac h1,ac (by omega)]
set_option maxHeartbeats 2000000 in
theorem refSpan_tr(x:Pat)(hs:Sh x):PTr Tryz.prog 209 [.agg x.C] (.tup [i64 (spanP x).1,i64 (spanP x).2]):=by
 induction x using Pat.ind with|h x IH=>_
 refine aC (N:=141) Tryz.func209 I I I ?_;refine Jv (t:=0) I (za1.agg zjh (za1.ds _)) fun hlen=>?_;rw[ak] at hlen;by_cases h4:x.op=4
 ·obtain⟨op,n,mn,mx,nm,st,l⟩:=x
  simp only[Pat.op] at h4;subst h4;have hP:spanP (.mk 4 n mn mx nm st l)=zcZ l (0,0):=by rw[zaK];rfl
  simp only[Pat.l] at IH hlen;refine ae0 (ag 2 I (O (Jk I I (zab I) I I (fun _ _=>(ab (ag 8 I (O (J1 okL I (.head _) I I I I (ab (ag 79 I (J2 ?_)))))))))));rename_i r _;refine Jj (α:=Nat×Int×Int) (fun a=>l.length - a.1) (fun a=>[(1,.ptr r 7 0 0),(6,i64 a.2.1),(7,i64 a.2.2),(8,i64 a.1)]) (fun _=>_)
   (fun a=>a.1≤l.length∧zcZ (l.drop a.1) a.2=spanP (.mk 4 n mn mx nm st l)) (0,0,0) ⟨aM _,hP.symm⟩ ?_ (ar _) ?_
  ·simp only[zaz]
   refine⟨I,I,I,I,trivial⟩
  rintro⟨k,m⟩ ⟨hk,hm⟩ ih;simp only at hk hm;refine ae0 (ag 5 I (O (J1 okL I (.head _) I I I I (ab (ag 4 I (J2 ?_))))))
  (refine J4 I (fun h=>?_) (fun h=>?_))
  ·have h:=aj h
   simp only[ak,Pat.l] at h;obtain⟨y,hy⟩:∃y,l[k]?=some y:=⟨l[k],by simp[show k<l.length by omega]⟩
   have nx:=nxt (k:=k) (n:=l.length) (by omega) hlen;rw[zaA hy,zcZ] at hm;have hc:=IH y (List.mem_of_getElem? hy) (hs.tl y (List.mem_of_getElem? hy));refine ae (ag 7 I (O (J1 okL I (.head _) I I I I (ab (ag 1 I (Jo okL (zad I I I I I (by omega) (getC hy) I) I (ag 1 I (O (J9 I I I (hc) (ab (ag 20 I (J3 ?_))))))))))));refine J6 I I I (fun h=>?_) (fun h=>?_)
   ·refine ab (ag 16 I (J (zae ?_)))
    (refine aq 0 (ih ((k+1,zeN m (spanP y))) (⟨by omega,hm⟩) (by omega)) ?_ I;exact⟨I,I,ai (fun v=>some (A.int .i64 v)) (by clear ih IH hc hm hP;simp_all[zeN,w64]<;>omega),ai some nx,trivial⟩)
   ·refine ab (ag 5 I (J2 ?_))
    refine J4 I (fun h=>?_) (fun h=>?_)
    ·refine ae (ag 10 I (J (zae ?_)))
     (refine aq 0 (ih ((k+1,zeN m (spanP y))) (⟨by omega,hm⟩) (by omega)) ?_ I;exact⟨I,I,ai (fun v=>some (A.int .i64 v)) (by clear ih IH hc hm hP;simp_all[zeN,w64]<;>omega),ai some nx,trivial⟩)
    ·refine ae (ag 13 I (J (zae ?_)))
     (refine aq 0 (ih ((k+1,zeN m (spanP y))) (⟨by omega,hm⟩) (by omega)) ?_ I;exact⟨I,I,ai (fun v=>some (A.int .i64 v)) (by clear ih IH hc hm hP;simp_all[zeN,w64]<;>omega),ai some nx,trivial⟩)
  ·have h:=ao h
   simp only[ak,Pat.l] at h;rw[aW (by omega),zcZ] at hm;refine ae (ag 2 I (J (ae (ag 11 I (J ?_)))));refine zaa (Jm I I I) ?_;rw[←hm]
 by_cases h5:x.op=5
 ·obtain⟨op,n,mn,mx,nm,st,l⟩:=x
  simp only[Pat.op] at h5;subst h5;cases l with
  |nil=>exact absurd rfl (hs.hd (by simp[Pat.op]))
  |cons y0 l0=>
  have hP:spanP (.mk 5 n mn mx nm st (y0::l0))=zek l0 (spanP y0):=by rw[zaK];rfl
  simp only[Pat.l] at IH hlen;have hc0:=IH y0 aE (hs.tl y0 aE);refine ae0 (ag 2 I (O (Jk I I (zab I) I I (fun _ _=>(ab (ag 8 I (O (J1 okL I (.head _) I I I I (ab (ag 80 I (O (J1 okL I (.head _) I I I I (ab (Jo okL (zad I I I I I (am _) (getC (l:=y0::l0) (k:=0) I) I) I (ag 1 I (O (J9 I I I (hc0) (ab (ag 14 I (J2 ?_))))))))))))))))))));rename_i r _;refine Jj (α:=Nat×Int×Int) (fun a=>(y0::l0).length - a.1) (fun a=>[(1,.ptr r 7 0 0),(11,i64 a.2.1),(12,i64 a.2.2),(13,i64 a.1)]) (fun _=>_)
   (fun a=>1≤a.1∧a.1≤(y0::l0).length∧zek ((y0::l0).drop a.1) a.2=spanP (.mk 5 n mn mx nm st (y0::l0))) (1,spanP y0) ⟨au _,by simp,hP.symm⟩ ?_ (ar _) ?_
  ·simp only[zaz]
   refine⟨I,I,I,I,trivial⟩
  rintro⟨k,m⟩ ⟨hk1,hk,hm⟩ ih;simp only at hk1 hk hm;refine ae0 (ag 5 I (O (J1 okL I (.head _) I I I I (ab (ag 4 I (J2 ?_))))))
  (refine J4 I (fun h=>?_) (fun h=>?_))
  ·have h:=aj h
   simp only[ak,Pat.l] at h;obtain⟨y,hy⟩:∃y,(y0::l0)[k]?=some y:=⟨(y0::l0)[k]'(by omega),by simp[show k<(y0::l0).length by omega]⟩
   have nx:=nxt (k:=k) (n:=(y0::l0).length) (by omega) hlen;rw[zaA hy,zek] at hm;have hc:=IH y (List.mem_of_getElem? hy) (hs.tl y (List.mem_of_getElem? hy));refine ae (ag 7 I (O (J1 okL I (.head _) I I I I (ab (ag 1 I (Jo okL (zad I I I I I (by omega) (getC hy) I) I (ag 1 I (O (J9 I I I (hc) (ab (ag 20 I (J3 ?_))))))))))));refine J6 I I I (fun h=>?_) (fun h=>?_)
   ·refine ab (ag 16 I (J (zae ?_)))
    (refine aq 0 (ih ((k+1,altS m (spanP y))) (⟨by omega,by omega,hm⟩) (by omega)) ?_ I;exact⟨I,I,ai (fun v=>some (A.int .i64 v)) (by clear ih IH hc hc0 hm hP hy hs;simp_all[altS,w64]<;>omega),ai some nx,trivial⟩)
   ·refine ab (ag 5 I (J2 ?_))
    refine J4 I (fun h=>?_) (fun h=>?_)
    ·refine ae (ag 10 I (J (zae ?_)))
     (refine aq 0 (ih ((k+1,altS m (spanP y))) (⟨by omega,by omega,hm⟩) (by omega)) ?_ I;exact⟨I,I,ai (fun v=>some (A.int .i64 v)) (by clear ih IH hc hc0 hm hP hy hs;simp_all[altS,w64]<;>omega),ai some nx,trivial⟩)
    ·refine ae (ag 13 I (J (zae ?_)))
     (refine aq 0 (ih ((k+1,altS m (spanP y))) (⟨by omega,by omega,hm⟩) (by omega)) ?_ I;exact⟨I,I,ai (fun v=>some (A.int .i64 v)) (by clear ih IH hc hc0 hm hP hy hs;simp_all[altS,w64]<;>omega),ai some nx,trivial⟩)
  ·have h:=ao h
   simp only[ak,Pat.l] at h;rw[aW (by omega),zek] at hm;refine ae (ag 2 I (J (ae (ag 11 I (J ?_)))));refine zaa (Jm I I I) ?_;rw[←hm]
 by_cases h5':x.op=15
 ·obtain⟨op,n,mn,mx,nm,st,l⟩:=x
  simp only[Pat.op] at h5';subst h5';cases l with
  |nil=>exact absurd rfl (hs.hd (by simp[Pat.op]))
  |cons y0 l0=>
  have hP:spanP (.mk 15 n mn mx nm st (y0::l0))=zek l0 (spanP y0):=by rw[zaK];rfl
  simp only[Pat.l] at IH hlen;have hc0:=IH y0 aE (hs.tl y0 aE);refine ae0 (ag 2 I (O (Jk I I (zab I) I I (fun _ _=>(ab (ag 8 I (O (J1 okL I (.head _) I I I I (ab (ag 83 I (O (J1 okL I (.head _) I I I I (ab (Jo okL (zad I I I I I (am _) (getC (l:=y0::l0) (k:=0) I) I) I (ag 1 I (O (J9 I I I (hc0) (ab (ag 14 I (J2 ?_))))))))))))))))))));rename_i r _;refine Jj (α:=Nat×Int×Int) (fun a=>(y0::l0).length - a.1) (fun a=>[(1,.ptr r 7 0 0),(11,i64 a.2.1),(12,i64 a.2.2),(13,i64 a.1)]) (fun _=>_)
   (fun a=>1≤a.1∧a.1≤(y0::l0).length∧zek ((y0::l0).drop a.1) a.2=spanP (.mk 15 n mn mx nm st (y0::l0))) (1,spanP y0) ⟨au _,by simp,hP.symm⟩ ?_ (ar _) ?_
  ·simp only[zaz]
   refine⟨I,I,I,I,trivial⟩
  rintro⟨k,m⟩ ⟨hk1,hk,hm⟩ ih;simp only at hk1 hk hm;refine ae0 (ag 5 I (O (J1 okL I (.head _) I I I I (ab (ag 4 I (J2 ?_))))))
  (refine J4 I (fun h=>?_) (fun h=>?_))
  ·have h:=aj h
   simp only[ak,Pat.l] at h;obtain⟨y,hy⟩:∃y,(y0::l0)[k]?=some y:=⟨(y0::l0)[k]'(by omega),by simp[show k<(y0::l0).length by omega]⟩
   have nx:=nxt (k:=k) (n:=(y0::l0).length) (by omega) hlen;rw[zaA hy,zek] at hm;have hc:=IH y (List.mem_of_getElem? hy) (hs.tl y (List.mem_of_getElem? hy));refine ae (ag 7 I (O (J1 okL I (.head _) I I I I (ab (ag 1 I (Jo okL (zad I I I I I (by omega) (getC hy) I) I (ag 1 I (O (J9 I I I (hc) (ab (ag 20 I (J3 ?_))))))))))));refine J6 I I I (fun h=>?_) (fun h=>?_)
   ·refine ab (ag 16 I (J (zae ?_)))
    (refine aq 0 (ih ((k+1,altS m (spanP y))) (⟨by omega,by omega,hm⟩) (by omega)) ?_ I;exact⟨I,I,ai (fun v=>some (A.int .i64 v)) (by clear ih IH hc hc0 hm hP hy hs;simp_all[altS,w64]<;>omega),ai some nx,trivial⟩)
   ·refine ab (ag 5 I (J2 ?_))
    refine J4 I (fun h=>?_) (fun h=>?_)
    ·refine ae (ag 10 I (J (zae ?_)))
     (refine aq 0 (ih ((k+1,altS m (spanP y))) (⟨by omega,by omega,hm⟩) (by omega)) ?_ I;exact⟨I,I,ai (fun v=>some (A.int .i64 v)) (by clear ih IH hc hc0 hm hP hy hs;simp_all[altS,w64]<;>omega),ai some nx,trivial⟩)
    ·refine ae (ag 13 I (J (zae ?_)))
     (refine aq 0 (ih ((k+1,altS m (spanP y))) (⟨by omega,by omega,hm⟩) (by omega)) ?_ I;exact⟨I,I,ai (fun v=>some (A.int .i64 v)) (by clear ih IH hc hc0 hm hP hy hs;simp_all[altS,w64]<;>omega),ai some nx,trivial⟩)
  ·have h:=ao h
   simp only[ak,Pat.l] at h;rw[aW (by omega),zek] at hm;refine ae (ag 2 I (J (ae (ag 11 I (J ?_)))));refine zaa (Jm I I I) ?_;rw[←hm]
 cases hxl:x.l with
 |nil=>
  refine ae0 (ag 2 I (O (Jk I I (zab I) I I (fun _ _=>(ab (ag 8 I (O (J1 okL I (.head _) I I I I (ab (ag 10 I (J2 ?_)))))))))));refine J4 I (fun h=>?_) (fun h=>?_)
  ·refine ae (ag 12 I (J ?_))
   (refine zaa (Jm I I I) ?_;clear IH;rw[zaK x];simp_all;done)
  ·refine ae (ag 6 I (J2 ?_))
   refine J4 I (fun h=>?_) (fun h=>?_)
   ·refine ae (ag 12 I (J ?_))
    (refine zaa (Jm I I I) ?_;clear IH;rw[zaK x];simp_all;done)
   ·refine ae (ag 5 I (J2 ?_))
    refine J4 I (fun h=>?_) (fun h=>?_)
    ·refine ae (ag 9 I (J ?_))
     (refine zaa (Jm I I I) ?_;clear IH;rw[zaK x];simp_all;done)
    ·refine ae (ag 7 I (J2 ?_))
     refine J4 I (fun h=>?_) (fun h=>?_)
     ·refine ae (ag 6 I (O (J1 okL I (.head _) I I I I (ab (J3 (ab (J3 (ab (J3 (ab (J3 (ab (J3 (ab (J3 (ab (J3 (ab (J3 (ab (J3 (ab (J3 ?_)))))))))))))))))))))))
      (exfalso;exact hs.hd (by simp_all) hxl)
     ·refine ae (ag 5 I (J2 ?_))
      refine J4 I (fun h=>?_) (fun h=>?_)
      ·refine ae (ag 3 I (O (J1 okL I (.head _) I I I I (ab (J3 (ab (J3 (ab (J3 (ab (J3 (ab (J3 (ab (J3 (ab (J3 (ab (J3 (ab (J3 ?_)))))))))))))))))))))
       (exfalso;exact hs.hd (by simp_all) hxl)
      ·refine ae (ag 7 I (J2 ?_))
       refine J4 I (fun h=>?_) (fun h=>?_)
       ·refine ae (ag 12 I (J ?_))
        (refine zaa (Jm I I I) ?_;clear IH;rw[zaK x];simp_all;done)
       ·refine ae (ag 5 I (J2 ?_))
        refine J4 I (fun h=>?_) (fun h=>?_)
        ·refine ae (ag 9 I (J ?_))
         (refine zaa (Jm I I I) ?_;clear IH;rw[zaK x];simp_all;done)
        ·refine ae (ag 6 I (J2 ?_))
         refine J4 I (fun h=>?_) (fun h=>?_)
         ·refine ae (ag 3 I (O (J1 okL I (.head _) I I I I (ab (J3 (ab (J3 (ab (J3 (ab (J3 (ab (J3 (ab (J3 ?_)))))))))))))))
          (exfalso;exact hs.hd (by simp_all) hxl)
         ·refine ae (ag 6 I (J2 ?_))
          refine J4 I (fun h=>?_) (fun h=>?_)
          ·refine ae (ag 13 I (J2 (ae (J2 (ae (J2 (ae (J2 (ae (J2 ?_))))))))))
           (exfalso;exact hs.hd (by simp_all) hxl)
          ·refine ae (ag 7 I (J2 ?_))
           refine J4 I (fun h=>?_) (fun h=>?_)
           ·refine ae (ag 6 I (O (J1 okL I (.head _) I I I I (ab (J3 (ab (J3 (ab (J3 (ab (J3 ?_)))))))))))
            (exfalso;exact hs.hd (by simp_all) hxl)
           ·refine ae (ag 5 I (J2 ?_))
            refine J4 I (fun h=>?_) (fun h=>?_)
            ·refine ae (ag 3 I (O (J1 okL I (.head _) I I I I (ab (J3 (ab (J3 (ab (J3 ?_)))))))))
             (exfalso;exact hs.hd (by simp_all) hxl)
            ·refine ae (ag 10 I (J ?_))
             (refine zaa (Jm I I I) ?_;clear IH;rw[zaK x];simp_all;done)
 |cons y0 l0=>
  have hy0:y0∈x.l:=by rw[hxl];exact aE
  have hc:=IH y0 hy0 (hs.tl y0 hy0);have hH:zdD x.l=spanP y0:=by rw[hxl];rfl
  have hg:x.l[0]?=some y0:=by rw[hxl];rfl
  refine ae0 (ag 2 I (O (Jk I I (zab I) I I (fun _ _=>(ab (ag 8 I (O (J1 okL I (.head _) I I I I (ab (ag 10 I (J2 ?_)))))))))));refine J4 I (fun h=>?_) (fun h=>?_)
  ·refine ae (ag 12 I (J ?_))
   (refine zaa (Jm I I I) ?_;rw[zaK x,hH];clear IH hc hy0 hg hs hH hxl hlen;simp_all[w64];done)
  ·refine ae (ag 6 I (J2 ?_))
   refine J4 I (fun h=>?_) (fun h=>?_)
   ·refine ae (ag 12 I (J ?_))
    (refine zaa (Jm I I I) ?_;rw[zaK x,hH];clear IH hc hy0 hg hs hH hxl hlen;simp_all[w64];done)
   ·refine ae (ag 5 I (J2 ?_))
    refine J4 I (fun h=>?_) (fun h=>?_)
    ·refine ae (ag 9 I (J ?_))
     (refine zaa (Jm I I I) ?_;rw[zaK x,hH];clear IH hc hy0 hg hs hH hxl hlen;simp_all[w64];done)
    ·refine ae (ag 7 I (J2 ?_))
     refine J4 I (fun h=>?_) (fun h=>?_)
     ·refine ae (ag 6 I (O (J1 okL I (.head _) I I I I (ab (Jo okL (zad I I I I I (am _) (getC hg) I) I (ag 1 I (O (J9 I I I (hc) (ab (ag 9 I (J ?_)))))))))))
      (refine zaa (Jm I I I) ?_;rw[zaK x,hH];clear IH hc hy0 hg hs hH hxl hlen;simp_all[w64];done)
     ·refine ae (ag 5 I (J2 ?_))
      refine J4 I (fun h=>?_) (fun h=>?_)
      ·refine ae (ag 3 I (O (J1 okL I (.head _) I I I I (ab (Jo okL (zad I I I I I (am _) (getC hg) I) I (ag 1 I (O (J9 I I I (hc) (ab (ag 9 I (J ?_)))))))))))
       (refine zaa (Jm I I I) ?_;rw[zaK x,hH];clear IH hc hy0 hg hs hH hxl hlen;simp_all[w64];done)
      ·refine ae (ag 7 I (J2 ?_))
       refine J4 I (fun h=>?_) (fun h=>?_)
       ·refine ae (ag 12 I (J ?_))
        (refine zaa (Jm I I I) ?_;rw[zaK x,hH];clear IH hc hy0 hg hs hH hxl hlen;simp_all[w64];done)
       ·refine ae (ag 5 I (J2 ?_))
        refine J4 I (fun h=>?_) (fun h=>?_)
        ·refine ae (ag 9 I (J ?_))
         (refine zaa (Jm I I I) ?_;rw[zaK x,hH];clear IH hc hy0 hg hs hH hxl hlen;simp_all[w64];done)
        ·refine ae (ag 6 I (J2 ?_))
         refine J4 I (fun h=>?_) (fun h=>?_)
         ·refine ae (ag 3 I (O (J1 okL I (.head _) I I I I (ab (Jo okL (zad I I I I I (am _) (getC hg) I) I (ag 1 I (O (J9 I I I (hc) (ab (ag 16 I (J2 ?_)))))))))))
          refine J4 I (fun h=>?_) (fun h=>?_)
          ·refine ae (ag 11 I (J ?_))
           (refine zaa (Jm I I I) ?_;rw[zaK x,hH];clear IH hc hy0 hg hs hH hxl hlen;simp_all[w64];done)
          ·refine ae (ag 5 I (J3 ?_))
           refine J6 I I I (fun h=>?_) (fun h=>?_)
           ·refine ab (ag 12 I (O (J1 okL I (.head _) I I I I (ab (ag 10 I (J ?_))))))
            (refine zaa (Jm I I I) ?_;rw[zaK x,hH];clear IH hc hy0 hg hs hH hxl hlen;simp_all[w64];done)
           ·refine ab (ag 1 I (Jg I I I (J1 okL I (.head _) I I I I (ab (ag 5 I (J2 ?_))))))
            refine J4 I (fun h=>?_) (fun h=>?_)
            ·refine ae (ag 4 I (O (J1 okL I (.head _) I I I I (ab (ag 10 I (J ?_))))))
             (refine zaa (Jm I I I) ?_;rw[zaK x,hH];clear IH hc hy0 hg hs hH hxl hlen;simp_all[w64];done)
            ·refine ae (ag 4 I (Jq okL hmix (by kernel_rfl) (ag 2 I (Je (aD I I I (J1 okL I (.head _) I I I I (Ja (Qn_n ⟨I,I⟩))) (ap (ag 3 I (Je (aD I I I (J1 okL I (.head _) I I I I (Ja (Qn_n ⟨I,I⟩))) (ap (ag 8 I (J ?_))))))))))))
             (refine zaa (Jm I I I) ?_;have hsp:=@zsG x y0;clear IH hc hy0 hg hs hxl hlen;simp_all[w64];done)
         ·refine ae (ag 6 I (J2 ?_))
          refine J4 I (fun h=>?_) (fun h=>?_)
          ·refine ae (ag 13 I (J2 (ae (J2 (ae (J2 (ae (J2 (ae (J2 ?_))))))))))
           (exfalso;clear IH hc hy0 hg hs hH hxl hlen;simp_all;done)
          ·refine ae (ag 7 I (J2 ?_))
           refine J4 I (fun h=>?_) (fun h=>?_)
           ·refine ae (ag 6 I (O (J1 okL I (.head _) I I I I (ab (Jo okL (zad I I I I I (am _) (getC hg) I) I (ag 1 I (O (J9 I I I (hc) (ab (ag 14 I (J2 (ae (J2 (ae (J2 (ae (J2 ?_)))))))))))))))))
            (exfalso;clear IH hc hy0 hg hs hH hxl hlen;simp_all;done)
           ·refine ae (ag 5 I (J2 ?_))
            refine J4 I (fun h=>?_) (fun h=>?_)
            ·refine ae (ag 3 I (O (J1 okL I (.head _) I I I I (ab (Jo okL (zad I I I I I (am _) (getC hg) I) I (ag 1 I (O (J9 I I I (hc) (ab (ag 14 I (J2 (ae (J2 (ae (J2 ?_)))))))))))))))
             (exfalso;clear IH hc hy0 hg hs hH hxl hlen;simp_all;done)
            ·refine ae (ag 10 I (J ?_))
             (refine zaa (Jm I I I) ?_;rw[zaK x,hH];clear IH hc hy0 hg hs hH hxl hlen;simp_all[w64];done)
end Go.Proofs.YtpopmiodjibljaaGreatDoor
namespace Go.Bk
open Go Go.Abs
def zhQ(g:Int)(x:Pat):Prop:=
 (x.op=4∨x.op=5→2≤x.l.length∧x.l.length≤60)∧(x.op=6∨x.op=7∨x.op=8∨x.op=9→∃y,x.l=[y])∧(x.op=15→∃y z,x.l=[y,z])∧
 (x.op=7∨x.op=10∨x.op=15→1≤x.n∧x.n≤g)∧(x.op=14→0≤x.n∧x.n≤g)∧
 (x.op=6→0≤x.n∧x.n≤2∧0≤x.min∧x.min≤20∧(x.max=-1∨1≤x.max∧x.min≤x.max∧x.max≤20))∧
 (x.op=17→0≤x.n∧x.n≤9)∧(x.op=9→0≤x.n∧x.n≤3)∧(x.op=16→0≤x.n∧x.n≤2)∧(x.op=13∨x.op=3→0≤x.n∧x.n≤1)
def chQ(c:Int):Prop:=0≤c∧c≤1114111∧(c<55296∨c>57343)
def SetQ(l:List (Int×Int)):Prop:=(∀x∈l,chQ x.1∧chQ x.2∧x.1≤x.2)∧l≠[]∧l.length≤40
def LenQ(x:Pat):Prop:=Go.Proofs.YtpopmiodjibljaaGreatDoor.Sh x∧0≤(Go.Proofs.YtpopmiodjibljaaGreatDoor.lenP x).1∧(Go.Proofs.YtpopmiodjibljaaGreatDoor.lenP x).1≤1000000000000000000∧Go.Proofs.YtpopmiodjibljaaGreatDoor.spanP x=Go.Proofs.YtpopmiodjibljaaGreatDoor.lenP x
inductive Vd(g:Int):Pat→Prop
 |mk (x:Pat) (ho:0≤x.op∧x.op≤18) (hs:zhQ g x) (hc:∀y∈x.l,Vd g y) (h3:x.op=3→SetQ x.set) (h1:x.op=1→chQ x.n) (hl:LenQ x):Vd g x
theorem Vd.op{g:Int}{x:Pat}(h:Vd g x):0≤x.op∧x.op≤18:=by cases h;assumption
theorem Vd.shape{g:Int}{x:Pat}(h:Vd g x):zhQ g x:=by cases h;assumption
theorem Vd.sub{g:Int}{x y:Pat}(h:Vd g x)(hy:y∈x.l):Vd g y:=by cases h with|mk _ _ _ hc _ _ _=>exact hc y hy
theorem Vd.set{g:Int}{x:Pat}(h:Vd g x)(h3:x.op=3):SetQ x.set:=by cases h with|mk _ _ _ _ k _ _=>exact k h3
theorem Vd.chr{g:Int}{x:Pat}(h:Vd g x)(h1:x.op=1):chQ x.n:=by cases h with|mk _ _ _ _ _ k _=>exact k h1
theorem Vd.len{g:Int}{x:Pat}(h:Vd g x):LenQ x:=by cases h with|mk _ _ _ _ _ _ k=>exact k
structure SOk(N:Nat)(s:Sg):Prop where
 at0:0≤s.at_
 atN:s.at_≤N
 kp:0≤s.keep∧s.keep≤N
 len:s.caps.length=10
 cap:∀c∈s.caps,(c.1=-1∧c.2=-1)∨(0≤c.1∧c.1≤c.2∧c.2≤N)
 calls:s.calls.length≤20
def FOk(g:Int)(N:Nat)(p:Nat):Fm→Prop
 |.cat x n=>Vd g x∧1≤n∧n≤x.l.length
 |.turn x many fr=>Vd g x∧x.op=6∧0≤many∧many+1≤p∧(0≤x.max→many<x.max)∧0≤fr∧fr≤N
 |.group x fr=>Vd g x∧x.op=7∧0≤fr∧fr≤N
 |.call s=>SOk N s
 |.stop want=>-1≤want∧want≤N
 |.fin=>True
def KOk(g:Int)(N p:Nat)(k:List Fm):Prop:=∀f∈k,FOk g N p f
def zd3:Fm→Bool
 |.stop _=>true
 |.fin=>true
 |_=>false
def KB:List Fm→Prop
 |[]=>False
 |[f]=>zd3 f=true
 |f::k=>zd3 f=false∧KB k
def GB(a:Int)(k:List Fm):Prop:=∀x fr,Fm.group x fr∈k→fr≤a
theorem FOk.mono{g:Int}{N p q:Nat}{f:Fm}(h:FOk g N p f)(hq:p≤q):FOk g N q f:=by
 cases f<;>simp only[FOk] at*<;>first|exact h|(obtain⟨h1,h2,h3,h4,h5⟩:=h;exact⟨h1,h2,h3,by omega,h5⟩)
theorem KOk.mono{g:Int}{N p q:Nat}{k:List Fm}(h:KOk g N p k)(hq:p≤q):KOk g N q k:=fun f hf=>(h f hf).mono hq
theorem GB.mono{a b:Int}{k:List Fm}(h:GB a k)(hb:a≤b):GB b k:=fun x fr hf=>bm (h x fr hf) hb
theorem KB.cons{f:Fm}{k:List Fm}(h:KB k)(hf:zd3 f=false):KB (f::k):=by
 cases k with
 |nil=>exact h.elim
 |cons a k=>exact⟨hf,h⟩
theorem KB.tail{f:Fm}{k:List Fm}(h:KB (f::k))(hf:zd3 f=false):KB k:=by
 cases k with
 |nil=>simp only[KB] at h;rw[hf] at h;cases h
 |cons a k=>exact h.2
theorem zdu:∀{k:List Fm} {f:Fm},f∈barr k→f∈k
 |[],f,h=>h
 |.call s::k,f,h=>h
 |.stop w::k,f,h=>h
 |.fin::k,f,h=>h
 |.cat _ _::k,f,h=>aB _ (zdu (k:=k) h)
 |.turn _ _ _::k,f,h=>aB _ (zdu (k:=k) h)
 |.group _ _::k,f,h=>aB _ (zdu (k:=k) h)
theorem zg1:∀{k:List Fm},KB k→KB (barr k)
 |[],h=>h
 |.call s::k,h=>h
 |.stop w::k,h=>h
 |.fin::k,h=>h
 |.cat _ _::k,h=>zg1 (k:=k) (h.tail I)
 |.turn _ _ _::k,h=>zg1 (k:=k) (h.tail I)
 |.group _ _::k,h=>zg1 (k:=k) (h.tail I)
theorem zgm:∀{k:List Fm},KB k→1≤lvl k
 |[],h=>h.elim
 |.call s::k,h=>by simp[lvl]
 |.stop w::k,h=>by simp[lvl]
 |.fin::k,h=>by simp[lvl]
 |.cat _ _::k,h=>zgm (k:=k) (h.tail I)
 |.turn _ _ _::k,h=>zgm (k:=k) (h.tail I)
 |.group _ _::k,h=>zgm (k:=k) (h.tail I)
theorem zdY:∀k:List Fm,lvl (barr k)=lvl k
 |[]=>rfl
 |.call s::k=>rfl
 |.stop w::k=>rfl
 |.fin::k=>rfl
 |.cat _ _::k=>zdY k
 |.turn _ _ _::k=>zdY k
 |.group _ _::k=>zdY k
def Task.s:Task→Sg
 |.try_ _ s _=>s
 |.go _ s=>s
 |.alts _ s _=>s
 |.turn _ _ s _=>s
def Task.k:Task→List Fm
 |.try_ _ _ k=>k
 |.go k _=>k
 |.alts _ _ k=>k
 |.turn _ _ _ k=>k
def Task.up:Task→Nat
 |.try_ .. =>1
 |.alts .. =>1
 |_=>0
structure TOk(g:Int)(N:Nat)(t:Task)(w:Wk):Prop where
 s:SOk N t.s
 k:KOk g N (w.p+t.up) t.k
 b:KB t.k
 gb:GB t.s.at_ t.k
 x:match t with
  |.try_ x _ _=>Vd g x
  |.go _ _=>True
  |.alts l _ _=>∀y∈l,Vd g y
  |.turn x many _ _=>Vd g x∧x.op=6∧0≤many∧many≤w.p∧(0≤x.max→many≤x.max)
structure BOk(g:Int)(N:Nat)(B:Bk):Prop where
 takes:∀(x:Pat) (a:Int),Vd g x→0≤a→a≤N→B.takes x a=true→a<N
 copied:∀(c:Int×Int) (a:Int),0≤a→a≤N→((c.1=-1∧c.2=-1)∨(0≤c.1∧c.1≤c.2∧c.2≤(N:Int)))→a+B.copied c a≤N
 least:∀x,Vd g x→0≤B.least x
 body:∀n,0≤n→n≤g→Vd g (B.body n)
 g9:g≤9
def zaJ(B:Bk)(w:Wk):Prop:=B.tau w.p w.r=false
structure ROk(N:Nat)(B:Bk)(a:Int)(c:Nat)(w:Wk)(o:BOut)(w':Wk):Prop where
 le:Wk.le w w'
 fr:o≠ .tired→zaJ B w'
 yes:∀e,o=.yes e→SOk N e∧a≤e.at_
 cut:∀j,o=.cut j→1≤j∧j≤c
inductive Tm.Ok(g:Int)(N:Nat)(B:Bk)(a:Int)(c:Nat):Tm→Prop
 |ret (o:BOut) (w:Wk) (hf:o≠ .tired→zaJ B w) (hy:∀e,o=.yes e→SOk N e∧a≤e.at_) (hc:∀j,o=.cut j→1≤j∧j≤c):Tm.Ok g N B a c (.ret (o,w))
 |ask (t:Task) (w:Wk) (f:BOut×Wk→Tm) (ht:TOk g N t w) (hw:zaJ B w) (hf:∀o w',ROk N B t.s.at_ (lvl t.k) w o w'→Tm.Ok g N B a c (f (o,w'))):Tm.Ok g N B a c (.ask t w f)
section
variable{g:Int}{N:Nat}{B:Bk}
theorem Tm.Ok.last{t:Task}{w:Wk}{a:Int}{c:Nat}(ht:TOk g N t w)(hw:zaJ B w)(ha:a≤t.s.at_)(hc:lvl t.k≤c):Tm.Ok g N B a c (.last t w):=
 .ask t w _ ht hw fun o w' r=>.ret o w' r.fr (fun e he=>⟨(r.yes e he).1,bm ha (r.yes e he).2⟩) fun j hj=>⟨(r.cut j hj).1,cw (r.cut j hj).2 hc⟩
theorem Tm.Ok.no{w:Wk}{a:Int}{c:Nat}(hw:zaJ B w):Tm.Ok g N B a c (.ret (.no,w)):=.ret _ _ (fun _=>hw) (fun e h=>by cases h) fun j h=>by cases h
theorem Tm.Ok.tired{w:Wk}{a:Int}{c:Nat}:Tm.Ok g N B a c (.ret (.tired,w)):=.ret _ _ (fun h=>absurd I h) (fun e h=>by cases h) fun j h=>by cases h
theorem Tm.Ok.cut{w:Wk}{a:Int}{c j:Nat}(hw:zaJ B w)(h1:1≤j)(h2:j≤c):Tm.Ok g N B a c (.ret (.cut j,w)):=.ret _ _ (fun _=>hw) (fun e h=>by cases h) fun i h=>by cases h;exact⟨h1,h2⟩
theorem zes{l:List Pat}(h:∃y,l=[y]):fstL l∈l:=by obtain⟨y,rfl⟩:=h;exact aE
theorem KOk.cons{p:Nat}{f:Fm}{k:List Fm}(h:KOk g N p k)(hf:FOk g N p f):KOk g N p (f::k):=fun a ha=>by
 rcases List.mem_cons.1 ha with rfl|ha
 ·exact hf
 ·exact h a ha
theorem GB.cons{a:Int}{f:Fm}{k:List Fm}(h:GB a k)(hf:∀x fr,f=.group x fr→fr≤a):GB a (f::k):=fun x fr ha=>by
 rcases List.mem_cons.1 ha with e|ha
 ·exact hf x fr e.symm
 ·exact h x fr ha
theorem GB.stop{a:Int}{w:Int}:GB a [.stop w]:=fun x fr h=>by simp at h
theorem zj4{s:Sg}(h:SOk N s)(n:Int)(h0:0≤n)(h9:n≤9):capN s n∈s.caps:=by
 unfold capN;have hl:=h.len;rw[List.getD_eq_getElem?_getD,List.getElem?_eq_getElem (by omega),bT];exact bz _
theorem SOk.setCap{s:Sg}(h:SOk N s){i:Nat}{fr:Int}(h0:0≤fr)(h1:fr≤s.at_):SOk N {s with caps:=s.caps.set i (fr,s.at_)}:=
 ⟨h.at0,h.atN,h.kp,by simpa using h.len,fun c hc=>by
  rcases List.mem_or_eq_of_mem_set hc with hc|rfl
  ·exact h.cap c hc
  ·exact .inr ⟨h0,h1,h.atN⟩,h.calls⟩
theorem SOk.atTo{s:Sg}(h:SOk N s){a:Int}(h0:0≤a)(h1:a≤N):SOk N {s with at_:=a}:=⟨h0,h1,h.kp,h.len,h.cap,h.calls⟩
theorem zfm{w0 w:Wk}{o:BOut}{s:Sg}{k:List Fm}(hs:SOk N s)(hk:KOk g N w0.p k)(hb:KB k)(hg:GB s.at_ k){c:Nat}(r:ROk N B s.at_ c w0 o w):Tm.Ok g N B s.at_ (lvl k) (thenS k s (o,w)):=by
 cases o with
 |no=>exact .no (r.fr (by simp))
 |cut j=>exact .no (r.fr (by simp))
 |tired=>exact .tired
 |yes e=>
  obtain⟨h1,h2⟩:=r.yes e rfl;exact .last (t:=.go k _) ⟨⟨h1.at0,h1.atN,h1.kp,h1.len,h1.cap,hs.calls⟩,hk.mono (by have:=r.le;unfold Wk.le at this;show w0.p≤w.p+0;omega),hb,hg.mono h2,trivial⟩ (r.fr (by simp)) h2 (au _)
theorem zj3{w0 w:Wk}{o:BOut}{x:Pat}{s:Sg}{k:List Fm}{a:Int}(hs:SOk N s)(hk:KOk g N w0.p k)(hb:KB k)(hg:GB s.at_ k){c:Nat}(r:ROk N B a c w0 o w):Tm.Ok g N B s.at_ (lvl k) (zbj x k s (o,w)):=by
 have hp:w0.p≤w.p+0:=by have:=r.le;unfold Wk.le at this;omega
 have go:o≠ .tired→∀s',SOk N s'→s'.at_=s.at_→Tm.Ok g N B s.at_ (lvl k) (.last (.go k s') w):=fun ho s' h1 h2=>.last (t:=.go k _) ⟨h1,hk.mono hp,hb,hg.mono (cJ h2.symm),trivial⟩ (r.fr ho) (cJ h2.symm) (au _);cases o with
 |no=>simp only[zbj];split;exact .no (r.fr (by simp));exact go (by simp) s hs rfl
 |cut j=>simp only[zbj];split;exact .no (r.fr (by simp));exact go (by simp) s hs rfl
 |tired=>exact .tired
 |yes e=>
  obtain⟨h1,h2⟩:=r.yes e rfl;simp only[zbj];split
  ·exact go (by simp) _ ⟨hs.at0,hs.atN,hs.kp,h1.len,h1.cap,hs.calls⟩ I
  ·exact .no (r.fr (by simp))
theorem zko{w0 w:Wk}{o:BOut}{a b:Int}{c:Nat}(hb:b≤a)(r:ROk N B a c w0 o w):Tm.Ok g N B b c (.ret (o,w)):=.ret o w r.fr (fun e he=>⟨(r.yes e he).1,bm hb (r.yes e he).2⟩) r.cut
theorem znH{w0 w:Wk}{o:BOut}{k:List Fm}{a:Int}(r:ROk N B a (lvl k+1) w0 o w):Tm.Ok g N B a (lvl k) (zdP k (o,w)):=by
 cases o with
 |cut j=>
  simp only[zdP];split
  ·exact .no (r.fr (by simp))
  ·have:=r.cut j I
   exact .cut (r.fr (by simp)) this.1 (by omega)
 |no=>exact .no (r.fr (by simp))
 |yes e=>exact .ret _ _ r.fr r.yes fun j h=>by cases h
 |tired=>exact .tired
theorem zo6{w0 w:Wk}{o:BOut}{k:List Fm}{a:Int}(hb:KB k)(r:ROk N B a (lvl k) w0 o w):Tm.Ok g N B a (lvl k) (zhd k (o,w)):=by
 cases o with
 |no=>exact .cut (r.fr (by simp)) (zgm hb) (au _)
 |cut j=>exact zko (am _) r
 |yes e=>exact zko (am _) r
 |tired=>exact .tired
theorem zgZ{w0 w:Wk}{o:BOut}{f:Wk→Tm}{a:Int}{c:Nat}(r:ROk N B a c w0 o w)(hf:zaJ B w→Wk.le w0 w→Tm.Ok g N B a c (f w)):Tm.Ok g N B a c (zdR f (o,w)):=by
 cases o with
 |no=>exact hf (r.fr (by simp)) r.le
 |cut j=>exact zko (am _) r
 |yes e=>exact zko (am _) r
 |tired=>exact .tired
theorem zlJ{x:Pat}{n:Nat}{s:Sg}{k:List Fm}{w:Wk}(hw:zaJ B w)(hx:Vd g x)(hs:SOk N s)(hk:KOk g N w.p k)(hb:KB k)(hg:GB s.at_ k):Tm.Ok g N B s.at_ (lvl k) (catS x n s k w):=by
 unfold catS;split
 ·rename_i y hy
  have hn:=(List.getElem?_eq_some_iff.1 hy).1;exact .last (t:=.try_ y s _) ⟨hs,(hk.mono (cl _)).cons ⟨hx,by omega,by omega⟩,hb.cons I,hg.cons fun x fr h=>by(cases h),hx.sub (List.mem_of_getElem? hy)⟩ hw (am _) (au _)
 ·exact .last (t:=.go k s) ⟨hs,hk,hb,hg,trivial⟩ hw (am _) (au _)
theorem zgW{x:Pat}{many:Int}{s:Sg}{k:List Fm}{w:Wk}(hw:zaJ B w)(h:TOk g N (.turn x many s k) w):Tm.Ok g N B s.at_ (lvl k) (zcm x many s k w):=by
 obtain⟨hx,h6,hm0,hmp,hmx⟩:=h.x;obtain⟨hs,hk,hb,hg,_⟩:=h;simp only[Task.s,Task.k,Task.up,bG] at hs hk hb hg;have sh:=hx.shape;have more:∀w1,Wk.le w w1→zaJ B w1→Tm.Ok g N B s.at_ (lvl k) (if x.max<0∨many<x.max then .last (.try_ (fstL x.l) s (.turn x many s.at_::k)) w1 else .ret (.no,w1)):=fun w1 hl hf=>by
  have hp:w.p≤w1.p:=by unfold Wk.le at hl;omega
  split
  ·rename_i hc
   exact .last (t:=.try_ _ s _) ⟨hs,(hk.mono (by show w.p≤w1.p+1;omega)).cons ⟨hx,h6,hm0,by show many+1≤((w1.p+1:Nat):Int);omega,fun h0=>by omega,hs.at0,hs.atN⟩,hb.cons I,hg.cons fun x fr h=>by(cases h),hx.sub (zes (sh.2.1 (.inl h6)))⟩ hf (am _) (au _)
  ·exact .no hf
 have enough:∀w1,Wk.le w w1→zaJ B w1→TOk g N (.go k s) w1:=fun w1 hl hf=>⟨hs,hk.mono (by show w.p≤w1.p+0;unfold Wk.le at hl;omega),hb,hg,trivial⟩
 have endk:∀w1,Wk.le w w1→zaJ B w1→Tm.Ok g N B s.at_ (lvl k) (if many≥x.min then .last (.go k s) w1 else .ret (.no,w1)):=fun w1 hl hf=>by
  split
  ·exact .last (enough w1 hl hf) hf (am _) (au _)
  ·exact .no hf
 unfold zcm;split<;>split
 ·exact .ask _ _ _ (enough w (zcp.refl w) hw) hw fun o w1 r=>zgZ r fun hf hl=>more w1 hl hf
 ·exact more w (zcp.refl w) hw
 ·rename_i hc
  refine .ask (.try_ _ s _) _ _ ⟨hs,(hk.mono (cl _)).cons ⟨hx,h6,hm0,by show many+1≤((w.p+1:Nat):Int);omega,fun h0=>by omega,hs.at0,hs.atN⟩,hb.cons I,hg.cons fun x fr h=>by(cases h),hx.sub (zes (sh.2.1 (.inl h6)))⟩ hw fun o w1 r=>zgZ r fun hf hl=>endk w1 hl hf
 ·exact endk w (zcp.refl w) hw
theorem zn5{x:Pat}(h:LenQ x):LenQ (zcE x):=by
 obtain⟨h1,h2,h3,h4⟩:=h;have e2:Go.Proofs.YtpopmiodjibljaaGreatDoor.spanP (zcE x)=Go.Proofs.YtpopmiodjibljaaGreatDoor.spanP x:=by
  cases x;simp only[zcE,Pat.op,Pat.min,Pat.max,Pat.name,Pat.set,Pat.l,Go.Proofs.YtpopmiodjibljaaGreatDoor.spanP]
 have e:Go.Proofs.YtpopmiodjibljaaGreatDoor.lenP (zcE x)=Go.Proofs.YtpopmiodjibljaaGreatDoor.lenP x:=by
  cases x;simp only[zcE,Pat.op,Pat.min,Pat.max,Pat.name,Pat.set,Pat.l,Go.Proofs.YtpopmiodjibljaaGreatDoor.lenP]
 exact⟨.mk _ h1.hd h1.tl,by rw[e];exact h2,by rw[e];exact h3,by rw[e,e2];exact h4⟩
theorem zq3{x:Pat}(hx:Vd g x)(h6:x.op=6):Vd g (zcE x):=by
 have sh:=hx.shape;refine .mk _ hx.op ?_ (fun y hy=>hx.sub hy) (fun h=>by rw[show(zcE x).op=x.op from rfl] at h;omega) (fun h=>by rw[show(zcE x).op=x.op from rfl] at h;omega) (zn5 hx.len)
 unfold zhQ at*;simp only[zcE,Pat.op,Pat.l,Pat.n,Pat.min,Pat.max] at*;have h6':x.op=6:=h6;cases x with|mk op n mn mx nm st l=>
 simp only[Pat.op,Pat.l,Pat.n,Pat.min,Pat.max] at*;subst h6';have:=sh.2.2.2.2.2.1 I;refine⟨fun h=>by omega,fun _=>sh.2.1 (.inl I),fun h=>by omega,fun h=>by omega,fun h=>by omega,fun _=>⟨by omega,by omega,this.2.2⟩,fun h=>by omega,fun h=>by omega,fun h=>by omega,fun h=>by omega⟩
end
section
variable{g:Int}{N:Nat}{B:Bk}
theorem Tm.Ok.ite{a:Int}{n:Nat}{c:Prop}[Decidable c]{x y:Tm}(hx:c→Tm.Ok g N B a n x)(hy:¬c→Tm.Ok g N B a n y):Tm.Ok g N B a n (if c then x else y):=by
 split<;>rename_i h
 ·exact hx h
 ·exact hy h
theorem zhP{w:Int}:KB [Fm.stop w]:=rfl
theorem KOk.stop{p:Nat}{a:Int}(h1:-1≤a)(h2:a≤N):KOk g N p [Fm.stop a]:=fun f hf=>by rw[List.mem_singleton.1 hf];exact⟨h1,h2⟩
theorem zgS(hB:BOk g N B){x:Pat}{s:Sg}{k:List Fm}{w:Wk}(hw:zaJ B w)(hx:Vd g x)(hs:SOk N s)(hk:KOk g N w.p k)(hb:KB k)(hg:GB s.at_ k):Tm.Ok g N B s.at_ (lvl k) (zaF B x s k w):=by
 have sh:=hx.shape;have g9:=hB.g9;have hN:(0:Int)≤N:=by omega
 have go:∀{s':Sg} {w':Wk},zaJ B w'→w.p≤w'.p→SOk N s'→s.at_≤s'.at_→Tm.Ok g N B s.at_ (lvl k) (.last (.go k s') w'):=fun hf hp h1 h2=>.last (t:=.go k _) ⟨h1,hk.mono hp,hb,hg.mono h2,trivial⟩ hf h2 (au _);have tr:∀{y:Pat},y∈x.l→Tm.Ok g N B s.at_ (lvl k) (.last (.try_ y s k) w):=fun hy=>.last (t:=.try_ _ s k) ⟨hs,hk.mono (cl _),hb,hg,hx.sub hy⟩ hw (am _) (au _);unfold zaF;refine .ite (fun h=>.ite (fun ht=>?_) fun _=>.no hw) fun _=>?_
 ·have:=hB.takes x s.at_ hx hs.at0 hs.atN ht
  exact go hw (au _) (hs.atTo (by have:=hs.at0;omega) (by omega)) (by simp only;omega)
 refine .ite (fun h=>zlJ hw hx hs hk hb hg) fun _=>?_;refine .ite (fun h=>.last (t:=.alts x.l s k) ⟨hs,hk.mono (cl _),hb,hg,fun y hy=>hx.sub hy⟩ hw (am _) (au _)) fun _=>?_;refine .ite (fun h6=>.ite (fun h2=>?_) fun h2=>?_) fun _=>?_
 ·exact .ask (.turn _ 0 s _) _ _ ⟨hs,KOk.stop (by omega) (by omega),zhP,GB.stop,zq3 hx h6,h6,am _,by omega,fun h=>h⟩ hw fun o w' r=>zfm hs hk hb hg r
 ·exact .last (t:=.turn x 0 s k) ⟨hs,hk,hb,hg,hx,h6,am _,by omega,fun h=>h⟩ hw (am _) (au _)
 refine .ite (fun h7=>?_) fun _=>?_
 ·have hn:=sh.2.2.2.1 (.inl h7)
  exact .last (t:=.try_ _ s _) ⟨hs,(hk.mono (cl _)).cons ⟨hx,h7,hs.at0,hs.atN⟩,hb.cons I,hg.cons fun x fr h=>by cases h;exact am _,hx.sub (zes (sh.2.1 (.inr (.inl h7))))⟩ hw (am _) (au _)
 refine .ite (fun h8=>?_) fun _=>?_
 ·have hm:=zes (sh.2.1 (.inr (.inr (.inl h8))))
  refine .ite (fun h6=>?_) fun _=>?_
  ·by_cases hτ:B.tau (w.p+1) w.r=true
   ·rw[af hτ];exact .tired
   ·rw[ac hτ]
    exact .ask (.turn _ 0 s _) _ _ ⟨hs,KOk.stop (by omega) (by omega),zhP,GB.stop,hx.sub hm,h6,am _,by omega,fun h=>h⟩ (by simpa [zaJ] using hτ) fun o w' r=>zfm hs (hk.mono (cl _)) hb hg r
  ·exact .ask (.try_ _ s _) _ _ ⟨hs,KOk.stop (by omega) (by omega),zhP,GB.stop,hx.sub hm⟩ hw fun o w' r=>zfm hs hk hb hg r
 refine .ite (fun h9=>?_) fun _=>?_
 ·have hm:=zes (sh.2.1 (.inr (.inr (.inr h9))))
  have hl:=hB.least _ (hx.sub hm);refine .ite (fun hlt=>?_) fun hge=>?_
  ·exact zj3 (a:=s.at_) (c:=0) hs hk hb hg ⟨zcp.refl w,fun _=>hw,fun e h=>(by cases h),fun j h=>(by cases h)⟩
  ·have a1:zbY B x s≤s.at_:=by unfold zbY;split<;>omega
   have a2:-1≤zeO x s∧zeO x s≤N:=by
    have:=hs.at0;have:=hs.atN;unfold zeO;split<;>constructor<;>omega
   exact .ask (.try_ _ _ _) _ _ ⟨hs.atTo (by omega) (by have:=hs.atN;omega),KOk.stop a2.1 a2.2,zhP,GB.stop,hx.sub hm⟩ hw fun o w' r=>zj3 hs hk hb hg r
 refine .ite (fun h10=>.ite (fun _=>.no hw) fun hc=>?_) fun _=>?_
 ·have hn:=sh.2.2.2.1 (.inr (.inl h10))
  have:=hB.copied (capN s x.n) s.at_ hs.at0 hs.atN (hs.cap _ (zj4 hs x.n (by omega) (by omega)));exact go hw (au _) (hs.atTo (by have:=hs.at0;omega) (by omega)) (by simp only;omega)
 refine .ite (fun h=>.ite (fun _=>go hw (au _) hs (am _)) fun _=>.no hw) fun _=>?_;refine .ite (fun h14=>.ite (fun _=>.no hw) fun hc=>?_) fun _=>?_
 ·have hn:=sh.2.2.2.2.1 h14
  refine .ask (.try_ _ _ _) _ _ ⟨⟨hs.at0,hs.atN,hs.kp,hs.len,hs.cap,?_⟩,(hk.mono (cl _)).cons hs,hb.cons I,hg.cons fun x fr h=>by(cases h),hB.body x.n hn.1 hn.2⟩ hw fun o w' r=>znH r
  simp only[Task.s,aX];by_cases h20:s.calls.length≥20
  ·exact absurd (.inr h20) hc
  ·omega
 refine .ite (fun h15=>?_) fun _=>?_
 ·obtain⟨y,z,hl⟩:=sh.2.2.1 h15
  rw[hl];refine .ite (fun _=>tr ?_) fun _=>tr ?_<;>rw[hl]<;>simp[fstL,sndL]
 refine .ite (fun h16=>.ite (fun _=>.no hw) fun _=>.ite (fun _=>?_) fun _=>?_) fun _=>?_
 ·exact .last (t:=.go (barr k) s) ⟨hs,fun f hf=>hk f (zdu hf),zg1 hb,fun x fr hf=>hg x fr (zdu hf),trivial⟩ hw (am _) (Nat.le_of_eq (zdY k))
 ·exact .ask (.go k s) _ _ ⟨hs,hk,hb,hg,trivial⟩ hw fun o w' r=>zo6 hb r
 have hcw:zaJ B (zbB x w):=by unfold zbB;split<;>exact hw
 have hcp:w.p≤(zbB x w).p:=by unfold zbB;split<;>exact au _
 refine .ite (fun h17=>.ite (fun _=>go hcw hcp hs (am _)) fun _=>.no hcw) fun _=>?_;refine .ite (fun h18=>?_) fun _=>go hw (au _) hs (am _);exact go hw (au _) ⟨hs.at0,hs.atN,⟨hs.at0,hs.atN⟩,hs.len,hs.cap,hs.calls⟩ (am _)
theorem zmu(hB:BOk g N B){s:Sg}{k:List Fm}{w:Wk}(hw:zaJ B w)(h:TOk g N (.go k s) w):Tm.Ok g N B s.at_ (lvl k) (goS B s w k):=by
 obtain⟨hs,hk,hb,hg,_⟩:=h;simp only[Task.s,Task.k,Task.up,bG] at hs hk hb hg;cases k with
 |nil=>exact hb.elim
 |cons f k=>
  have hf:=hk f aE;have hk':KOk g N w.p k:=fun a ha=>hk a (aB _ ha);have hg':GB s.at_ k:=fun x fr ha=>hg x fr (aB _ ha);have go:zd3 f=false→∀{s':Sg},SOk N s'→s'.at_=s.at_→Tm.Ok g N B s.at_ (lvl (f::k)) (.last (.go k s') w):=fun hb0 _ h1 h2=>.last (t:=.go k _) ⟨h1,hk',hb.tail hb0,hg'.mono (cJ h2.symm),trivial⟩ hw (cJ h2.symm) (by cases f<;>simp[lvl,Task.k])
  cases f with
  |cat x n=>exact zlJ hw hf.1 hs hk' (hb.tail rfl) hg'
  |turn x many fr=>
   obtain⟨h1,h2,h3,h4,h5,h6⟩:=hf;simp only[goS];exact .ite (fun _=>.no hw) fun _=>.last (t:=.turn x _ s k) ⟨hs,hk',hb.tail I,hg',h1,h2,by omega,h4,fun h0=>by have:=h5 h0;omega⟩ hw (am _) (au _)
  |group x fr=>exact go rfl (hs.setCap hf.2.2.1 (hg x fr aE)) rfl
  |call o=>exact go rfl (SOk.atTo hf hs.at0 hs.atN) rfl
  |stop want=>
   simp only[goS];exact .ite (fun _=>.no hw) fun _=>.ret _ _ (fun _=>hw) (fun e h=>by cases h;exact⟨hs,am _⟩) fun j h=>by cases h
  |fin=>
   simp only[goS];exact .ite (fun _=>.ret _ _ (fun _=>hw) (fun e h=>by cases h;exact⟨hs,am _⟩) fun j h=>by cases h) fun _=>.no hw
theorem zg3{s:Sg}{k:List Fm}{w:Wk}(hw:zaJ B w):∀{l:List Pat},TOk g N (.alts l s k) w→Tm.Ok g N B s.at_ (lvl k) (zl0 s k w l)
 |[],h=>.no hw
 |y::l,h=>by
  obtain⟨hs,hk,hb,hg,hx⟩:=h;exact .ask (.try_ y s k) _ _ ⟨hs,hk,hb,hg,hx y aE⟩ hw fun o w' r=>zgZ r fun hf hl=>.last (t:=.alts l s k) ⟨hs,hk.mono (by show w.p+1≤w'.p+1;unfold Wk.le at hl;omega),hb,hg,fun z hz=>hx z (aB _ hz)⟩ hf (am _) (au _)
theorem zqT(hB:BOk g N B){t:Task}{w:Wk}(hw:zaJ B w)(h:TOk g N t w):Tm.Ok g N B t.s.at_ (lvl t.k) (runS B t w):=by
 cases t with
 |try_ x s k=>
  simp only[runS];by_cases hτ:B.tau (w.p+1) (w.r+1)=true
  ·rw[af hτ];exact .tired
  ·rw[ac hτ]
   exact zgS hB (show B.tau (w.p+1) (w.r+1)=false by simpa using hτ) h.x h.s h.k h.b h.gb
 |go k s=>exact zmu hB hw h
 |alts l s k=>exact zg3 hw h
 |turn x m s k=>exact zgW hw h
theorem zqE{rec:Task→Wk→BRes}(h:∀t w o w',zaJ B w→TOk g N t w→rec t w=some (o,w')→ROk N B t.s.at_ (lvl t.k) w o w'):∀{t:Tm} {a:Int} {c:Nat} {o:BOut} {w':Wk},Tm.Ok g N B a c t→t.eval rec=some (o,w')→(o≠ .tired→zaJ B w')∧(∀e,o=.yes e→SOk N e∧a≤e.at_)∧∀j,o=.cut j→1≤j∧j≤c:=by
 intro t
 induction t with
 |ret r=>
  intro a c o w' hk e;cases hk with
  |ret o1 w1 hf hy hc=>simp only[Tm.eval,aY,b5] at e;obtain⟨rfl,rfl⟩:=e;exact⟨hf,hy,hc⟩
 |ask t w1 f ih=>
  intro a c o w' hk e;cases hk with
  |ask _ _ _ ht hw hf=>
   simp only[Tm.eval,bC] at e;obtain⟨⟨o2,w2⟩,e1,e2⟩:=e;exact ih _ (hf o2 w2 (h _ _ _ _ hw ht e1)) e2
theorem zhT(hB:BOk g N B):∀(n:Nat) (t:Task) (w:Wk) (o:BOut) (w':Wk),zaJ B w→TOk g N t w→brun B n t w=some (o,w')→ROk N B t.s.at_ (lvl t.k) w o w'
 |0,t,w,o,w',_,_,h=>by cases h
 |n+1,t,w,o,w',hw,ht,h=>by
  obtain⟨h1,h2,h3⟩:=zqE (zhT hB n) (zqT hB hw ht) h;exact⟨zbv B (n+1) t w o w' h,h1,h2,h3⟩
end
def zc3(k:List Fm):Prop:=Fm.fin∉k
inductive Tm.Keep:List Int→Tm→Prop
 |ret {a:List Int} (o:BOut) (w:Wk) (h:w.acc=a):Tm.Keep a (.ret (o,w))
 |ask {a:List Int} (t:Task) (w:Wk) (f:BOut×Wk→Tm) (ht:zc3 t.k) (h:w.acc=a) (hf:∀o w',w'.acc=a→Tm.Keep a (f (o,w'))):Tm.Keep a (.ask t w f)
theorem Tm.Keep.last{t:Task}{w:Wk}{a:List Int}(ht:zc3 t.k)(h:w.acc=a):Tm.Keep a (.last t w):=.ask t w _ ht h fun o w' e=>.ret o w' e
theorem Tm.Keep.ite{a:List Int}{c:Prop}[Decidable c]{x y:Tm}(hx:Tm.Keep a x)(hy:Tm.Keep a y):Tm.Keep a (if c then x else y):=by
 split
 ·exact hx
 ·exact hy
theorem zcG{f:Fm}{k:List Fm}(h:zc3 k)(hf:f≠ .fin):zc3 (f::k):=fun hm=>by
 rcases List.mem_cons.1 hm with e|hm
 ·exact hf e.symm
 ·exact h hm
theorem zbx(a:Int):zc3 [.stop a]:=fun h=>by simp at h
theorem zkJ{k:List Fm}(h:zc3 k)(s:Sg)(o:BOut)(w:Wk):Tm.Keep w.acc (thenS k s (o,w)):=by
 cases o<;>first|exact .last h I|exact .ret _ _ I
theorem zgx{k:List Fm}(h:zc3 k)(x:Pat)(s:Sg)(o:BOut)(w:Wk):Tm.Keep w.acc (zbj x k s (o,w)):=by
 cases o<;>simp only[zbj]<;>(try refine .ite ?_ ?_)<;>first|exact .last h I|exact .ret _ _ I
theorem zkG(k:List Fm)(o:BOut)(w:Wk):Tm.Keep w.acc (zdP k (o,w)):=by
 cases o<;>simp only[zdP]<;>(try refine .ite ?_ ?_)<;>exact .ret _ _ I
theorem zkW(k:List Fm)(o:BOut)(w:Wk):Tm.Keep w.acc (zhd k (o,w)):=by
 cases o<;>exact .ret _ _ I
theorem zeE{f:Wk→Tm}(o:BOut)(w:Wk)(hf:Tm.Keep w.acc (f w)):Tm.Keep w.acc (zdR f (o,w)):=by
 cases o<;>first|exact hf|exact .ret _ _ I
theorem zih{k:List Fm}(h:zc3 k)(x:Pat)(n:Nat)(s:Sg)(w:Wk):Tm.Keep w.acc (catS x n s k w):=by
 unfold catS;split
 ·exact .last (zcG h (by simp)) I
 ·exact .last h I
theorem zkQ{k:List Fm}(h:zc3 k)(x:Pat)(m:Int)(s:Sg)(w:Wk):Tm.Keep w.acc (zcm x m s k w):=by
 have more:∀w:Wk,Tm.Keep w.acc (if x.max<0∨m<x.max then .last (.try_ (fstL x.l) s (.turn x m s.at_::k)) w else .ret (.no,w)):=fun w=>.ite (.last (zcG h (by simp)) I) (.ret _ _ I)
 have endk:∀w:Wk,Tm.Keep w.acc (if m≥x.min then .last (.go k s) w else .ret (.no,w)):=fun w=>.ite (.last h I) (.ret _ _ I)
 unfold zcm;refine .ite (.ite ?_ (more w)) (.ite ?_ (endk w))
 ·exact .ask (.go k s) _ _ h I fun o w' e=>by rw[←e];exact zeE o w' (more w')
 ·exact .ask (.try_ _ s _) _ _ (zcG h (by simp)) I fun o w' e=>by rw[←e];exact zeE o w' (endk w')
theorem zkz{k:List Fm}(h:zc3 k):zc3 (barr k):=fun hm=>h (zdu hm)
theorem zlN(B:Bk){t:Task}(h:zc3 t.k)(w:Wk):Tm.Keep w.acc (runS B t w):=by
 cases t with
 |turn x m s k=>exact zkQ h x m s w
 |alts l s k=>
  cases l with
  |nil=>exact .ret _ _ rfl
  |cons y l=>exact .ask (.try_ y s k) _ _ h rfl fun o w' e=>by rw[←e];exact zeE o w' (.last (t:=.alts l s k) h I)
 |go k s=>
  cases k with
  |nil=>exact .ret _ _ rfl
  |cons f k=>
   have h':zc3 k:=fun hm=>h (aB _ hm);cases f with
   |cat x n=>exact zih h' x n s w
   |turn x many fr=>exact .ite (.ret _ _ I) (.last (t:=.turn ..) h' I)
   |group x fr=>exact .last (t:=.go ..) h' I
   |call o=>exact .last (t:=.go ..) h' I
   |stop want=>exact .ite (.ret _ _ rfl) (.ret _ _ rfl)
   |fin=>exact absurd aE h
 |try_ x s k=>
  have h:zc3 k:=h;simp only[runS];refine .ite (.ret _ _ I) ?_;have L:∀{t:Task},zc3 t.k→Tm.Keep w.acc (.last t (tick w)):=fun ht=>.last ht I;have Rn:∀{o:BOut},Tm.Keep w.acc (.ret (o,tick w)):=.ret _ _ I;have go:∀{s:Sg},Tm.Keep w.acc (.last (.go k s) (tick w)):=L (t:=.go k _) h;have st:∀(t:Task) (w1:Wk),zc3 t.k→w1.acc=w.acc→Tm.Keep w.acc (.ask t w1 (thenS k s)):=fun t w1 ht e1=>.ask t w1 _ ht e1 fun o w' e=>by rw[←e];exact zkJ h s o w'
  unfold zaF;refine .ite (.ite go Rn) (.ite (zih h x 0 s (tick w)) (.ite (L (t:=.alts ..) h) (.ite (.ite (st (.turn ..) _ (zbx _) I) (L (t:=.turn ..) h)) (.ite (L (t:=.try_ ..) (zcG h (by simp))) (.ite (.ite ?_ (st (.try_ ..) _ (zbx _) I)) (.ite (.ite ?_ ?_) (.ite (.ite Rn go) (.ite (.ite go Rn) (.ite (.ite Rn ?_) (.ite (.ite (L (t:=.try_ ..) h) (L (t:=.try_ ..) h)) (.ite (.ite Rn (.ite (L (t:=.go ..) (zkz h)) ?_)) (.ite (.ite ?_ ?_) (.ite go go)))))))))))))
  ·exact .ite (.ret _ _ I) (st (.turn ..) _ (zbx _) I)
  ·exact zgx h x s .no (tick w)
  ·exact .ask (.try_ ..) _ _ (zbx _) I fun o w' e=>by rw[←e];exact zgx h x s o w'
  ·exact .ask (.try_ ..) _ _ (zcG h (by simp)) I fun o w' e=>by rw[←e];exact zkG k o w'
  ·exact .ask (.go k s) _ _ h I fun o w' e=>by rw[←e];exact zkW k o w'
  ·exact .last (t:=.go ..) h (by unfold zbB;split<;>rfl)
  ·exact .ret _ _ (by unfold zbB;split<;>rfl)
theorem zmA{rec:Task→Wk→BRes}(h:∀t w o w',zc3 t.k→rec t w=some (o,w')→w'.acc=w.acc):∀{t:Tm} {a:List Int} {o:BOut} {w':Wk},Tm.Keep a t→t.eval rec=some (o,w')→w'.acc=a:=by
 intro t
 induction t with
 |ret r=>
  intro a o w' hk e;cases hk with
  |ret o1 w1 h1=>simp only[Tm.eval,aY,b5] at e;rw[←e.2];exact h1
 |ask t w1 f ih=>
  intro a o w' hk e;cases hk with
  |ask _ _ _ ht h1 hf=>
   simp only[Tm.eval,bC] at e;obtain⟨⟨o2,w2⟩,e1,e2⟩:=e;exact ih _ (hf o2 w2 ((h _ _ _ _ ht e1).trans h1)) e2
theorem zd2(B:Bk):∀(n:Nat) (t:Task) (w:Wk) (o:BOut) (w':Wk),zc3 t.k→brun B n t w=some (o,w')→w'.acc=w.acc
 |0,t,w,o,w',_,h=>by cases h
 |n+1,t,w,o,w',ht,h=>zmA (zd2 B n) (zlN B ht w) h
end Go.Bk
namespace Go.Proofs.YtpopmiodjibljaaGreatDoor
open Go Go.Abs Go.Bk
def zaI(l:List (Int×Int))(i:Nat):Int×Int:=l.getD i (-1,-1)
def sgL(a kp:Int)(l:List (Int×Int))(cs:List (Int×Int))(b:Int)(acc:A):List A:=[i64 a,i64 kp,i64 (zaI l 0).1,i64 (zaI l 0).2,i64 (zaI l 1).1,i64 (zaI l 1).2,i64 (zaI l 2).1,i64 (zaI l 2).2,i64 (zaI l 3).1,i64 (zaI l 3).2,i64 (zaI l 4).1,i64 (zaI l 4).2,i64 (zaI l 5).1,i64 (zaI l 5).2,i64 (zaI l 6).1,i64 (zaI l 6).2,i64 (zaI l 7).1,i64 (zaI l 7).2,i64 (zaI l 8).1,i64 (zaI l 8).2,i64 (zaI l 9).1,i64 (zaI l 9).2,.ds (cs.reverse.map zaf),i64 b,acc]
def sgC(s:Sg)(b:Int)(acc:A):List A:=sgL s.at_ s.keep s.caps s.calls b acc
structure Mt where
 m:Nat
 rg:Nat
 rw:Nat
 root:Pat
 s:List Nat
 fold:Bool
 lines:Bool
 all:Bool
 mask:Int
 ge:List (A×A)
structure MS where
 w:Wk
 brd:Int
 bg:Int
 g:Option Nat
 we:List (A×A)
structure Bs where
 v:A
 Hb:List Int→Option Sg→Heap
def Mt.p(X:Mt):A:=.ptr X.m 19 0 0
def mC(X:Mt)(a:MS):List A:=[i64 X.root.op,i64 X.root.n,i64 X.root.min,i64 X.root.max,.str X.root.name,.ds (X.root.set.map zaf),.ds (X.root.l.map Pat.cells),
 .map X.rg,.map X.rw,.ds (X.s.map nC),.bool X.fold,.bool X.lines,.bool X.all,i64 X.mask,outV 1 a.g a.w.codes.length,i64 a.w.p,i64 a.brd,i64 a.bg,.nilf]
def Hm(X:Mt)(a:MS):Heap:=(X.m,.row 125 19 [mC X a])::(X.rg,.map X.ge)::(X.rw,.map a.we)::outH 3 1 a.g (a.w.codes.map zC)
def zb1(x:Pat):Pat:=if x.n=2 then zcE x else x
def encK(X:Mt)(v:A):List Int→List Fm→A×A
 |bs,[]=>(v,v)
 |bs,.cat x n::k=>(.fn 283 [] [.dp [X.p],.dp [.ds ((x.l.drop (n - 1)).map Pat.cells)],.dp [(encK X v bs k).1]],(encK X v bs k).2)
 |bs,.turn x many fr::k=>(.fn 318 [] [.dp [i64 many],.dp (zb1 x).C,.dp [i64 fr],.dp [X.p],.dp [(encK X v bs k).1]],(encK X v bs k).2)
 |bs,.group x fr::k=>(.fn 233 [] [.dp [i64 fr],.dp x.C,.dp [(encK X v bs k).1]],(encK X v bs k).2)
 |bs,.call o::k=>(.fn 293 [] [.dp (sgC o (bs.tail.headD 0) (encK X v bs.tail k).2),.dp [(encK X v bs.tail k).1]],.fn 293 [] [.dp (sgC o (bs.tail.headD 0) (encK X v bs.tail k).2),.dp [(encK X v bs.tail k).1]])
 |bs,.stop _::_=>(v,v)
 |bs,.fin::_=>(v,v)
def encS(X:Mt)(v:A)(s:Sg)(bs:List Int)(k:List Fm):List A:=sgC s (bs.headD 0) (encK X v bs k).2
def outI(bs:List Int):BOut→Int
 |.no=>0
 |.yes _=>1
 |.tired=>2
 |.cut j=>3+bs.getD (bs.length - j) 0
def outS:BOut→Option Sg
 |.yes s=>some s
 |_=>none
structure Wide where
 ok:List (A×A)→Prop
structure MOk(V:Wide)(X:Mt)(a:MS):Prop where
 g:a.g=none→a.w.codes=[]
 codes:a.w.codes.length≤100
 brd:0≤a.brd∧a.brd≤a.w.p
 we:V.ok a.we
def zaU(V:Wide)(X:Mt)(Z:Bs)(bs:List Int)(a:MS)(o:BOut)(w':Wk):A→Heap→Prop:=fun r H'=>
 ∃a' G,a'.w=w'∧MOk V X a'∧a.brd≤a'.brd∧r=i64 (outI bs o)∧H'.Perm (G++(Hm X a'++Z.Hb w'.acc (outS o)))
structure BrOk(bs:List Int)(k:List Fm)(a:MS):Prop where
 len:bs.length=lvl k
 le:∀b∈bs,0≤b∧b≤a.brd
 nd:bs.Nodup
def ConM(V:Wide)(X:Mt)(Z:Bs)(t:Task)(bs:List Int)(a:MS)(o:BOut)(w':Wk):Prop:=
 match t with
 |.try_ x s k=>TrG [] Tryz.prog 181 [X.p,.agg x.C,.agg (encS X Z.v s bs k),(encK X Z.v bs k).1] (Hm X a++Z.Hb a.w.acc none) (zaU V X Z bs a o w')
 |.go k s=>zln [] Tryz.prog (encK X Z.v bs k).1 [.agg (encS X Z.v s bs k)] (Hm X a++Z.Hb a.w.acc none) (zaU V X Z bs a o w')
 |.turn x many s k=>TrG [] Tryz.prog 286 [X.p,.agg (zb1 x).C,i64 many,.agg (encS X Z.v s bs k),(encK X Z.v bs k).1] (Hm X a++Z.Hb a.w.acc none) (zaU V X Z bs a o w')
 |.alts _ _ _=>True
theorem zho(X:Mt){v:A}(hv:∃f cap,v=.fn f [] cap):∀(bs:List Int) (k:List Fm),(∃f cap,(encK X v bs k).1=.fn f [] cap)∧∃f cap,(encK X v bs k).2=.fn f [] cap
 |bs,[]=>⟨hv,hv⟩
 |bs,.cat x n::k=>⟨⟨_,_,rfl⟩,(zho X hv bs k).2⟩
 |bs,.turn x many fr::k=>⟨⟨_,_,rfl⟩,(zho X hv bs k).2⟩
 |bs,.group x fr::k=>⟨⟨_,_,rfl⟩,(zho X hv bs k).2⟩
 |bs,.call o::k=>⟨⟨_,_,rfl⟩,⟨_,_,rfl⟩⟩
 |bs,.stop _::_=>⟨hv,hv⟩
 |bs,.fin::_=>⟨hv,hv⟩
theorem zpu(X:Mt)(x:Pat)(n:Nat)(s:Sg)(b:Int)(f2:FuncId)(cap2:List A)(f:FuncId)(cap:List A)(H:Heap)(R:A→Heap→Prop)
  (hy:∀y,x.l[n]?=some y→TrG [] Tryz.prog 181 [X.p,.agg y.C,.agg (sgC s b (.fn f2 [] cap2)),.fn 283 [] [.dp [X.p],.dp [.ds ((x.l.drop n).map Pat.cells)],.dp [.fn f [] cap]]] H R)
  (hR:∃v H',R v H')
  (hn:x.l.length≤n→TrG [] Tryz.prog f ([.agg (sgC s b (.fn f2 [] cap2))]++cap) H R):
  TrG [] Tryz.prog 231 [X.p,.ds ((x.l.drop n).map Pat.cells),.agg (sgC s b (.fn f2 [] cap2)),.fn f [] cap] H R:=by
 refine Jb (N:=22) Tryz.func231 I I I ?_;refine ae0 (ag 2 I (O (Jc 4 I I (zab I) I (ab (O (Jc 5 I I (zab I) I (ab (O (Jc 6 I I (zab I) I (ab (O (Jc 7 I I (zab I) I (ab (ag 11 I (J2 ?_)))))))))))))))
 (refine J4 I (fun h=>?_) (fun h=>?_))
 ·have h:(x.l.drop n).length=0:=by simpa using h
  have h:x.l.length≤n:=by rw[ba] at h;omega
  refine ae (ag 4 I (J3 ?_));refine J7 (Ji I I I (hn h) fun r H' hr=>?_)
  refine ab (ag 5 I (J ?_));refine zaa (J5 I I) ?_;exact hr
 ·have h:¬(x.l.drop n).length=0:=by simpa using h
  have h:n<x.l.length:=by simp at h;omega
  obtain⟨y,hy'⟩:∃y,x.l[n]?=some y:=⟨x.l[n],by simp[h]⟩
  have hd:((x.l.drop n).map Pat.cells)[((0:Nat):Int).toNat]?=some y.C:=by rw[List.getElem?_map,List.getElem?_drop];simp[hy',Pat.cells_eq]
  refine ae (ag 3 I (J2 ?_));refine aH hvK (fun _=>.nilp) okL hmix (by kernel_rfl) ?_;refine aa I I I (aa I I I (aa I I (zad I I I I I (am _) (hd) I) (aa I I I (aa I I I (aa I I I ?_)))));refine aR (R:=R) I I I hR (Ji I I I (hy y hy') fun r H' hr=>Ja (ah hr)) fun v H' hv=>?_
  (repeat (refine aa I I I ?_))
  refine aF ?_;refine ae (ag 1 I (J ?_));refine zaa (J5 I I) ?_;exact hv
theorem zlK{l:List Pat}:∀c∈l.map Pat.cells,c.length=7:=fun c hc=>by
 obtain⟨y,_,rfl⟩:=List.mem_map.1 hc;rw[Pat.cells_eq];rfl
theorem zpF(X:Mt)(x:Pat)(n:Nat)(hn:n<x.l.length)(s:Sg)(b:Int)(f2:FuncId)(cap2:List A)(f:FuncId)(cap:List A)(H:Heap)(R:A→Heap→Prop)(hR:∃v H',R v H')
  (h:TrG [] Tryz.prog 231 [X.p,.ds ((x.l.drop (n+1)).map Pat.cells),.agg (sgC s b (.fn f2 [] cap2)),.fn f [] cap] H R):
  TrG [] Tryz.prog 283 [.agg (sgC s b (.fn f2 [] cap2)),.dp [X.p],.dp [.ds ((x.l.drop n).map Pat.cells)],.dp [.fn f [] cap]] H R:=by
 refine Jb (N:=12) Tryz.func283 I I I ?_;have e:(((x.l.drop n).map Pat.cells).drop ((1:Nat):Int).toNat).take ((((x.l.drop n).map Pat.cells).length:Int).toNat - ((1:Nat):Int).toNat)=(x.l.drop (n+1)).map Pat.cells:=by
  rw[bF (by simp;omega),←List.map_drop,List.drop_drop];rfl
 rw[←e] at h;refine ae0 (ag 2 I (O (Jc 4 I I (zab I) I (ab (ag 4 I (J2 ?_))))));refine aH hvK (fun _=>.nilp) okL hmix (by kernel_rfl) ?_;refine aa I I I (aa I I I (aa I I (znZ I I I I I I (zlK) (by omega) (by simp;omega) (am _)) (aa I I I (aa I I I ?_))));refine aR (R:=R) I I I hR (Ji I I I h fun r H' hr=>Ja (ah hr)) fun v H' hv=>?_
 (repeat (refine aa I I I ?_))
 refine aF ?_;refine ae (ag 1 I (J ?_));refine zaa (J5 I I) ?_;exact hv
theorem ten{l:List (Int×Int)}(h:l.length=10):∃c0 c1 c2 c3 c4 c5 c6 c7 c8 c9,l=[c0,c1,c2,c3,c4,c5,c6,c7,c8,c9]:=by
 match l,h with
 |[c0,c1,c2,c3,c4,c5,c6,c7,c8,c9],_=>exact⟨c0,c1,c2,c3,c4,c5,c6,c7,c8,c9,rfl⟩
theorem nine{n:Int}(h:1≤n∧n≤9):n=1∨n=2∨n=3∨n=4∨n=5∨n=6∨n=7∨n=8∨n=9:=by omega
theorem zkZ{a kp:Int}{l cs:List (Int×Int)}{b:Int}{acc:A}(h:l.length=10){n:Int}(hn:1≤n∧n≤9)(u v:Int):zcf (sgL a kp l cs b acc) (0+2+n.toNat*2) [i64 u,i64 v]=some (sgL a kp (l.set n.toNat (u,v)) cs b acc):=by
 obtain⟨c0,c1,c2,c3,c4,c5,c6,c7,c8,c9,rfl⟩:=ten h;rcases nine hn with rfl|rfl|rfl|rfl|rfl|rfl|rfl|rfl|rfl<;>rfl
theorem zoo(x:Pat)(fr:Int)(s:Sg)(b:Int)(f2:FuncId)(cap2:List A)(f:FuncId)(cap:List A)(H:Heap)(R:A→Heap→Prop)(hn:1≤x.n∧x.n≤9)(hc:s.caps.length=10)(hG:∀v H' G,R v H'→R v (G++H'))
  (h:TrG [] Tryz.prog f ([.agg (sgC {s with caps:=s.caps.set x.n.toNat (fr,s.at_)} b (.fn f2 [] cap2))]++cap) H R):
  TrG [] Tryz.prog 233 [.agg (sgC s b (.fn f2 [] cap2)),.dp [i64 fr],.dp x.C,.dp [.fn f [] cap]] H R:=by
 refine Jb (N:=17) Tryz.func233 I I I ?_;refine ae0 (ag 2 I (O (Jk I I (zab I) I I (fun _ _=>(ab (ag 9 I (O (J1 okL I (.head _) I I I I (ab (ag 2 I (Jo okL (zaC I I I I I (by omega) (by omega)) I (J3 ?_))))))))))));rename_i r _;refine J7 (J8 okL I I I (zab I) I I I .here I (zkZ hc hn fr s.at_) I ?_)
 refine ab (ag 5 I (O (J1 okL I (.head _) I I I I (ab (J3 ?_)))));refine J7 (Jd [_] I I I I h fun v H' hr=>?_)
 refine ab (ag 4 I (J ?_));refine zaa (J5 I I) ?_;exact hG _ _ _ hr
theorem zot(X:Mt)(x:Pat)(many fr:Int)(s:Sg)(b:Int)(f2:FuncId)(cap2:List A)(f:FuncId)(cap:List A)(H:Heap)(R:A→Heap→Prop)
  (h0:many≥x.min∧s.at_=fr→R (i64 0) H)
  (h1:¬(many≥x.min∧s.at_=fr)→TrG [] Tryz.prog 286 [X.p,.agg x.C,i64 (IntKind.i64.wrap (many+1)),.agg (sgC s b (.fn f2 [] cap2)),.fn f [] cap] H R):
  TrG [] Tryz.prog 318 [.agg (sgC s b (.fn f2 [] cap2)),.dp [i64 many],.dp x.C,.dp [i64 fr],.dp [X.p],.dp [.fn f [] cap]] H R:=by
 refine Jb (N:=25) Tryz.func318 I I I ?_;refine ae0 (ag 2 I (O (Jc 6 I I (zab I) I (ab (ag 11 I (J3 ?_))))))
 (refine J6 I I I (fun g=>?_) (fun g=>?_))
 ·have g:many≥x.min:=aj g
  refine ab (ag 7 I (J2 ?_))
  (refine J4 I (fun h=>?_) (fun h=>?_))
  ·have h:s.at_=fr:=by simpa using h
   refine ae (ag 7 I (J ?_));refine zaa (J5 I I) ?_;exact h0 ⟨g,h⟩
  ·have h:¬s.at_=fr:=by simpa using h
   refine ae (ag 10 I (J3 ?_));refine J7 (Ji I I I (h1 fun e=>h e.2) fun v H' hr=>?_)
   refine ab (ag 4 I (J ?_));refine zaa (J5 I I) ?_;exact hr
 ·have g:¬many≥x.min:=ao g
  refine ab (ag 18 I (J3 ?_));refine J7 (Ji I I I (h1 fun e=>g e.1) fun v H' hr=>?_)
  refine ab (ag 4 I (J ?_));refine zaa (J5 I I) ?_;exact hr
theorem zdU(x:Pat)(many:Int)(s:Sg)(b:Int)(f2:FuncId)(cap2:List A)(f:FuncId)(cap:List A)(H:Heap)(R:A→Heap→Prop)
  (h0:¬many≥x.min→R (i64 0) H) (h1:many≥x.min→TrG [] Tryz.prog f ([.agg (sgC s b (.fn f2 [] cap2))]++cap) H R):
  TrG [] Tryz.prog 319 [.dp [i64 many],.dp x.C,.dp [.fn f [] cap],.dp (sgC s b (.fn f2 [] cap2))] H R:=by
 refine Jb (N:=12) Tryz.func319 I I I ?_;refine ae0 (ag 14 I (J2 ?_))
 (refine J4 I (fun h=>?_) (fun h=>?_))
 ·have h:many<x.min:=aj h
  refine ae (ag 7 I (J ?_));refine zaa (J5 I I) ?_;exact h0 (by omega)
 ·have h:¬many<x.min:=ao h
  refine ae (ag 6 I (J3 ?_));refine J7 (Ji I I I (h1 (by omega)) fun v H' hr=>?_)
  refine ab (ag 4 I (J ?_));refine zaa (J5 I I) ?_;exact hr
theorem zm0(X:Mt)(x y:Pat)(hl:x.l=[y])(many:Int)(s:Sg)(b:Int)(f2:FuncId)(cap2:List A)(f:FuncId)(cap:List A)(H:Heap)(R:A→Heap→Prop)(hR:∃v H',R v H')
  (h0:many=x.max→R (i64 0) H)
  (h1:many≠x.max→TrG [] Tryz.prog 181 [X.p,.agg y.C,.agg (sgC s b (.fn f2 [] cap2)),.fn 318 [] [.dp [i64 many],.dp x.C,.dp [i64 s.at_],.dp [X.p],.dp [.fn f [] cap]]] H R):
  TrG [] Tryz.prog 317 [.dp [i64 many],.dp x.C,.dp (sgC s b (.fn f2 [] cap2)),.dp [X.p],.dp [.fn f [] cap]] H R:=by
 refine Jb (N:=21) Tryz.func317 I I I ?_;refine ae0 (ag 14 I (J2 ?_))
 (refine J4 I (fun h=>?_) (fun h=>?_))
 ·have h:many=x.max:=by simpa using h
  refine ae (ag 7 I (J ?_));refine zaa (J5 I I) ?_;exact h0 h
 ·have h:many≠x.max:=by simpa using h
  have hd:(x.l.map Pat.cells)[((0:Nat):Int).toNat]?=some y.C:=by rw[hl];simp[Pat.cells_eq]
  refine ae (ag 6 I (O (Jf okL I I I (fun _ _=>(ab (O (J8 okL I I I (zab I) I I I .here I I I (ab (ag 3 I (J2 ?_))))))))));refine dr 6 I (ar _) (Fz.ptr _ _ _) ?_;refine aH hvK (fun _=>.nilp) okL hmix (by kernel_rfl) ?_;refine aa I I I (aa I I I (aa I I I (aa I I (zad I I I I I (am _) (hd) I) (aa I I I (aa I I I (aa I I I ?_))))));refine aR (R:=R) I I I hR (Ji I I I (h1 h) fun r H' hr=>Ja (ah hr)) fun v H' hv=>?_
  (repeat (refine aa I I I ?_))
  refine aF ?_;refine ae (ag 1 I (J ?_));refine zaa (J5 I I) ?_;exact hv
theorem zkf(X:Mt)(x:Pat)(many:Int)(s:Sg)(b:Int)(f2:FuncId)(cap2:List A)(f:FuncId)(cap:List A)(H:Heap)(R1 R:A→Heap→Prop)(hI:∀v H',R1 v H'→∃n,v=i64 n)(hR:∀n H',R1 (i64 n) H'→n≠0→R (i64 n) H')
  (h1:x.n=1→TrG [] Tryz.prog 319 [.dp [i64 many],.dp x.C,.dp [.fn f [] cap],.dp (sgC s b (.fn f2 [] cap2))] H R1∧
   ∀H',R1 (i64 0) H'→TrG [] Tryz.prog 317 [.dp [i64 many],.dp x.C,.dp (sgC s b (.fn f2 [] cap2)),.dp [X.p],.dp [.fn f [] cap]] H' R)
  (h2:x.n≠1→TrG [] Tryz.prog 317 [.dp [i64 many],.dp x.C,.dp (sgC s b (.fn f2 [] cap2)),.dp [X.p],.dp [.fn f [] cap]] H R1∧
   ∀H',R1 (i64 0) H'→TrG [] Tryz.prog 319 [.dp [i64 many],.dp x.C,.dp [.fn f [] cap],.dp (sgC s b (.fn f2 [] cap2))] H' R):
  TrG [] Tryz.prog 286 [X.p,.agg x.C,i64 many,.agg (sgC s b (.fn f2 [] cap2)),.fn f [] cap] H R:=by
 refine Jb (N:=32) Tryz.func286 I I I ?_;refine ae0 (ag 2 I (O (Jc 5 I I (zab I) I (ab (O (Jc 6 I I (zab I) I (ab (O (Jc 7 I I (zab I) I (ab (O (Jc 8 I I (zab I) I (ab (O (Jc 9 I I (zab I) I (ab (ag 31 I (J2 ?_))))))))))))))))))
 (refine J4 I (fun h=>?_) (fun h=>?_))
 ·have h:x.n=1:=by simpa using h
  obtain⟨k1,k2⟩:=h1 h;refine ae (ag 11 I (J3 ?_));refine J7 (Ji I I I k1 fun v H' hr=>?_)
  obtain⟨n,rfl⟩:=hI v H' hr;refine ab (ag 9 I (J2 ?_))
  (refine J4 I (fun g=>?_) (fun g=>?_))
  ·have g:n≠0:=by simpa using g
   refine ae (ag 8 I (J ?_));refine zaa (J5 I I) ?_;exact hR n H' hr g
  ·have g:n=0:=by simpa using g
   subst g;refine ae (ag 5 I (J3 ?_));refine J7 (Ji I I I (k2 H' hr) fun v H' hr=>?_)
   refine ab (ag 4 I (J ?_));refine zaa (J5 I I) ?_;exact hr
 ·have h:x.n≠1:=by simpa using h
  obtain⟨k1,k2⟩:=h2 h;refine ae (ag 6 I (J3 ?_));refine J7 (Ji I I I k1 fun v H' hr=>?_)
  obtain⟨n,rfl⟩:=hI v H' hr;refine ab (ag 9 I (J2 ?_))
  (refine J4 I (fun g=>?_) (fun g=>?_))
  ·have g:n≠0:=by simpa using g
   refine ae (ag 8 I (J ?_));refine zaa (J5 I I) ?_;exact hR n H' hr g
  ·have g:n=0:=by simpa using g
   subst g;refine ae (ag 5 I (J3 ?_));refine J7 (Ji I I I (k2 H' hr) fun v H' hr=>?_)
   refine ab (ag 4 I (J ?_));refine zaa (J5 I I) ?_;exact hr
theorem zoU(o:Sg)(b':Int)(f3:FuncId)(cap3:List A)(s:Sg)(b:Int)(f2:FuncId)(cap2:List A)(f:FuncId)(cap:List A)(H:Heap)(R:A→Heap→Prop)(hG:∀v H' G,R v H'→R v (G++H'))
  (h:TrG [] Tryz.prog f ([.agg (sgC {o with at_:=s.at_} b' (.fn f3 [] cap3))]++cap) H R):
  TrG [] Tryz.prog 293 [.agg (sgC s b (.fn f2 [] cap2)),.dp (sgC o b' (.fn f3 [] cap3)),.dp [.fn f [] cap]] H R:=by
 refine Jb (N:=13) Tryz.func293 I I I ?_;refine ae0 (ag 2 I (O (Jc 3 I I (zab I) I (ab (ag 6 I (O (Jf okL I I I (fun _ _=>(ab (O (J8 okL I I I (zab I) I I I .here I I I (ab (ag 7 I (O (J8 okL I I I (zab I) I I I .here I I I (ab (ag 5 I (O (J1 okL I (.head _) I I I I (ab (J3 ?_)))))))))))))))))))));rename_i r _;refine J7 (Jd [_] I I I I h fun v H' hr=>?_)
 refine ab (ag 4 I (J ?_));refine zaa (J5 I I) ?_;exact hG _ _ _ hr
theorem zbq{e xs:List A}(h:e.length=25)(k:xs.length=25):zcf e (0+0) xs=some xs:=by
 unfold zcf;have:Nat.ble (0+0+xs.length) e.length=true:=dz (by omega);rw[this,aW (by omega)];simp
theorem zmg(want:Int)(re:Nat)(e0:List A)(s:Sg)(b:Int)(f2:FuncId)(cap2:List A)(Hx:Heap)(R:A→Heap→Prop)(he:e0.length=25)
  (h0:want≥0∧want≠s.at_→R (i64 0) ((re,.row 179 25 [e0])::Hx))
  (h1:¬(want≥0∧want≠s.at_)→R (i64 1) ((re,.row 179 25 [sgC s b (.fn f2 [] cap2)])::Hx)):
  TrG [] Tryz.prog 320 [.agg (sgC s b (.fn f2 [] cap2)),.dp [i64 want],.ptr re 25 0 0] ((re,.row 179 25 [e0])::Hx) R:=by
 refine Jb (N:=14) Tryz.func320 I I I ?_;refine ae0 (ag 2 I (O (Jc 3 I I (zab I) I (ab (ag 9 I (J3 ?_))))))
 (refine J6 I I I (fun g=>?_) (fun g=>?_))
 ·have g:want≥0:=aj g
  refine ab (ag 7 I (J2 ?_))
  (refine J4 I (fun h=>?_) (fun h=>?_))
  ·have h:s.at_≠want:=by simpa using h
   refine ae (ag 7 I (J ?_));refine zaa (J5 I I) ?_;exact h0 ⟨g,fun e=>h e.symm⟩
  ·have h:s.at_=want:=by simpa using h
   refine ae (ag 5 I (J3 ?_));refine J7 (J8 okL I I I (zab I) I I I .here I (zbq he I) I ?_)
   refine ab (ag 8 I (J ?_));refine zaa (J5 I I) ?_;exact h1 fun hh=>hh.2 h.symm
 ·have g:¬want≥0:=ao g
  refine ab (ag 13 I (J3 ?_));refine J7 (J8 okL I I I (zab I) I I I .here I (zbq he I) I ?_)
  refine ab (ag 8 I (J ?_));refine zaa (J5 I I) ?_;exact h1 fun hh=>g hh.1
end Go.Proofs.YtpopmiodjibljaaGreatDoor
namespace Go.Bk
open Go Go.Abs
def cb(c:List (Int×Int)):List Fm→List (Int×Int)
 |[]=>c
 |.call o::k=>cb o.calls k
 |.cat _ _::k=>cb c k
 |.turn _ _ _::k=>cb c k
 |.group _ _::k=>cb c k
 |.stop _::_=>c
 |.fin::_=>c
def Task.cb(t:Task):List (Int×Int):=Go.Bk.cb t.s.calls t.k
theorem zgU(c:List (Int×Int)):∀k:List Fm,cb c (barr k)=cb c k
 |[]=>rfl
 |.call o::k=>rfl
 |.stop w::k=>rfl
 |.fin::k=>rfl
 |.cat _ _::k=>zgU c k
 |.turn _ _ _::k=>zgU c k
 |.group _ _::k=>zgU c k
inductive Tm.Cb:List (Int×Int)→Tm→Prop
 |ret {c:List (Int×Int)} (o:BOut) (w:Wk) (h:∀e,o=.yes e→e.calls=c):Tm.Cb c (.ret (o,w))
 |ask {c:List (Int×Int)} (t:Task) (w:Wk) (f:BOut×Wk→Tm) (hf:∀o w',(∀e,o=.yes e→e.calls=t.cb)→Tm.Cb c (f (o,w'))):Tm.Cb c (.ask t w f)
theorem Tm.Cb.last{t:Task}{w:Wk}{c:List (Int×Int)}(h:t.cb=c):Tm.Cb c (.last t w):=.ask t w _ fun o w' k=>.ret o w' fun e he=>(k e he).trans h
theorem Tm.Cb.no{c:List (Int×Int)}{o:BOut}{w:Wk}(h:∀e,o≠ .yes e):Tm.Cb c (.ret (o,w)):=.ret o w fun e he=>absurd he (h e)
theorem Tm.Cb.if_{c:List (Int×Int)}{p:Prop}[Decidable p]{x y:Tm}(hx:Tm.Cb c x)(hy:Tm.Cb c y):Tm.Cb c (if p then x else y):=by
 split
 ·exact hx
 ·exact hy
theorem zhm(k:List Fm)(s:Sg)(o:BOut)(w:Wk):Tm.Cb (cb s.calls k) (thenS k s (o,w)):=by
 cases o<;>first|exact .last I|exact .no (fun e h=>by cases h)
theorem zjC(x:Pat)(k:List Fm)(s:Sg)(o:BOut)(w:Wk):Tm.Cb (cb s.calls k) (zbj x k s (o,w)):=by
 cases o<;>simp only[zbj]<;>(try refine .if_ ?_ ?_)<;>first|exact .last I|exact .no (fun e h=>by cases h)
theorem zoP{c:List (Int×Int)}(k:List Fm)(o:BOut)(w:Wk)(h:∀e,o=.yes e→e.calls=c):Tm.Cb c (zdP k (o,w)):=by
 cases o<;>simp only[zdP]<;>(try refine .if_ ?_ ?_)<;>first|exact .ret _ _ h|exact .no (fun e h=>by cases h)
theorem zo4{c:List (Int×Int)}(k:List Fm)(o:BOut)(w:Wk)(h:∀e,o=.yes e→e.calls=c):Tm.Cb c (zhd k (o,w)):=by
 cases o<;>first|exact .ret _ _ h|exact .no (fun e h=>by cases h)
theorem zgN{c:List (Int×Int)}{f:Wk→Tm}(o:BOut)(w:Wk)(h:∀e,o=.yes e→e.calls=c)(hf:Tm.Cb c (f w)):Tm.Cb c (zdR f (o,w)):=by
 cases o<;>first|exact hf|exact .ret _ _ h
theorem zmO(x:Pat)(n:Nat)(s:Sg)(k:List Fm)(w:Wk):Tm.Cb (cb s.calls k) (catS x n s k w):=by
 unfold catS;split<;>exact .last I
theorem znM(x:Pat)(m:Int)(s:Sg)(k:List Fm)(w:Wk):Tm.Cb (cb s.calls k) (zcm x m s k w):=by
 have more:∀w:Wk,Tm.Cb (cb s.calls k) (if x.max<0∨m<x.max then .last (.try_ (fstL x.l) s (.turn x m s.at_::k)) w else .ret (.no,w)):=fun w=>.if_ (.last I) (.no fun e h=>by cases h)
 have endk:∀w:Wk,Tm.Cb (cb s.calls k) (if m≥x.min then .last (.go k s) w else .ret (.no,w)):=fun w=>.if_ (.last I) (.no fun e h=>by cases h)
 unfold zcm;refine .if_ (.if_ ?_ (more w)) (.if_ ?_ (endk w))
 ·exact .ask _ _ _ fun o w' h=>zgN o w' h (more w')
 ·exact .ask _ _ _ fun o w' h=>zgN o w' h (endk w')
theorem zqN(B:Bk)(t:Task)(w:Wk):Tm.Cb t.cb (runS B t w):=by
 cases t with
 |turn x m s k=>exact znM x m s k w
 |alts l s k=>
  cases l with
  |nil=>exact .no fun e h=>by cases h
  |cons y l=>exact .ask _ _ _ fun o w' h=>zgN o w' h (.last rfl)
 |go k s=>
  cases k with
  |nil=>exact .no fun e h=>by cases h
  |cons f k=>
   cases f with
   |cat x n=>exact zmO x n s k w
   |turn x many fr=>exact .if_ (.no fun e h=>by cases h) (.last rfl)
   |group x fr=>exact .last rfl
   |call o=>exact .last rfl
   |stop want=>exact .if_ (.no fun e h=>by cases h) (.ret _ _ fun e h=>by cases h;rfl)
   |fin=>exact .if_ (.ret _ _ fun e h=>by cases h;rfl) (.no fun e h=>by cases h)
 |try_ x s k=>
  simp only[runS];refine .if_ (.no fun e h=>by cases h) ?_
  have L:∀{t:Task} {w:Wk},t.cb=cb s.calls k→Tm.Cb (cb s.calls k) (.last t w):=fun h=>.last h;have Rn:∀{o:BOut} {w:Wk},(∀e,o≠ .yes e)→Tm.Cb (cb s.calls k) (.ret (o,w)):=fun h=>.no h;have N:∀{w:Wk},Tm.Cb (cb s.calls k) (.ret (.no,w)):=.no fun e h=>by cases h
  have go:∀{a:Int} {w:Wk},Tm.Cb (cb s.calls k) (.last (.go k {s with at_:=a}) w):=.last I
  unfold zaF;refine .if_ (.if_ (L I) N) (.if_ (zmO x 0 s k _) (.if_ (L I) (.if_ (.if_ (.ask _ _ _ fun o w' _=>zhm k s o w') (L I)) (.if_ (L I) (.if_ (.if_ (.if_ (.no fun e h=>by cases h) (.ask _ _ _ fun o w' _=>zhm k s o w')) (.ask _ _ _ fun o w' _=>zhm k s o w')) (.if_ (.if_ (zjC x k s _ _) (.ask _ _ _ fun o w' _=>zjC x k s o w')) (.if_ (.if_ N (L I)) (.if_ (.if_ (L I) N) (.if_ (.if_ N (.ask _ _ _ fun o w' h=>zoP k o w' h)) (.if_ (.if_ (L I) (L I)) (.if_ (.if_ N (.if_ (L (zgU s.calls k)) (.ask _ _ _ fun o w' h=>zo4 k o w' h))) (.if_ (.if_ (L I) N) (.if_ (L I) (L I))))))))))))))
theorem zqy{rec:Task→Wk→BRes}(h:∀t w o w',rec t w=some (o,w')→∀e,o=.yes e→e.calls=t.cb):∀{t:Tm} {c:List (Int×Int)} {o:BOut} {w':Wk},Tm.Cb c t→t.eval rec=some (o,w')→∀e,o=.yes e→e.calls=c:=by
 intro t
 induction t with
 |ret r=>
  intro c o w' hk e;cases hk with
  |ret o1 w1 h1=>simp only[Tm.eval,aY,b5] at e;obtain⟨rfl,rfl⟩:=e;exact h1
 |ask t w1 f ih=>
  intro c o w' hk e;cases hk with
  |ask _ _ _ hf=>
   simp only[Tm.eval,bC] at e;obtain⟨⟨o2,w2⟩,e1,e2⟩:=e;exact ih _ (hf o2 w2 (h _ _ _ _ e1)) e2
theorem zhS(B:Bk):∀(n:Nat) (t:Task) (w:Wk) (o:BOut) (w':Wk),brun B n t w=some (o,w')→∀e,o=.yes e→e.calls=t.cb
 |0,t,w,o,w',h=>by cases h
 |n+1,t,w,o,w',h=>zqy (zhS B n) (zqN B t w) h
end Go.Bk
namespace Go.Proofs.YtpopmiodjibljaaGreatDoor
open Go Go.Abs Go.Bk
theorem zgg(X:Mt)(y:Pat)(s:Sg)(b:Int)(f2:FuncId)(cap2:List A)(f:FuncId)(cap:List A)(H:Heap)(R:A→Heap→Prop)
  (h:TrG [] Tryz.prog 181 [X.p,.agg y.C,.agg (sgC s b (.fn f2 [] cap2)),.fn f [] cap] H R):
  TrG [] Tryz.prog 287 [.agg (sgC s b (.fn f2 [] cap2)),.fn f [] cap,.dp [X.p],.dp y.C] H R:=by
 refine Jb (N:=12) Tryz.func287 I I I ?_;refine ae0 (ag 2 I (O (Jc 4 I I (zab I) I (ab (ag 9 I (J3 ?_))))));refine J7 (Ji I I I h fun v H' hr=>?_)
 refine ab (ag 4 I (J ?_));refine zaa (J5 I I) ?_;exact hr
theorem zgn(X:Mt)(y:Pat)(s:Sg)(b:Int)(f2:FuncId)(cap2:List A)(f:FuncId)(cap:List A)(H:Heap)(R:A→Heap→Prop)
  (h:TrG [] Tryz.prog 286 [X.p,.agg y.C,i64 0,.agg (sgC s b (.fn f2 [] cap2)),.fn f [] cap] H R):
  TrG [] Tryz.prog 285 [.agg (sgC s b (.fn f2 [] cap2)),.fn f [] cap,.dp [X.p],.dp y.C] H R:=by
 refine Jb (N:=12) Tryz.func285 I I I ?_;refine ae0 (ag 2 I (O (Jc 4 I I (zab I) I (ab (ag 9 I (J3 ?_))))));refine J7 (Ji I I I h fun v H' hr=>?_)
 refine ab (ag 4 I (J ?_));refine zaa (J5 I I) ?_;exact hr
theorem zoC(X:Mt)(x y:Pat)(hl:x.l=[y])(s:Sg)(b:Int)(f2:FuncId)(cap2:List A)(f:FuncId)(cap:List A)(H:Heap)(R:A→Heap→Prop)(hR:∃v H',R v H')
  (h:TrG [] Tryz.prog 181 [X.p,.agg y.C,.agg (sgC s b (.fn f2 [] cap2)),.fn f [] cap] H R):
  TrG [] Tryz.prog 290 [.agg (sgC s b (.fn f2 [] cap2)),.fn f [] cap,.dp [X.p],.dp x.C] H R:=by
 refine Jb (N:=15) Tryz.func290 I I I ?_;have hd:(x.l.map Pat.cells)[((0:Nat):Int).toNat]?=some y.C:=by rw[hl];simp[Pat.cells_eq]
 refine ae0 (ag 2 I (O (Jc 4 I I (zab I) I (ab (ag 4 I (J2 ?_))))));refine aH hvK (fun _=>.nilp) okL hmix (by kernel_rfl) ?_;refine aa I I I (aa I I I (aa I I I (aa I I (zad I I I I I (am _) (hd) I) (aa I I I (aa I I I (aa I I I ?_))))));refine aR (R:=R) I I I hR (Ji I I I h fun r H' hr=>Ja (ah hr)) fun v H' hv=>?_
 (repeat (refine aa I I I ?_))
 refine aF ?_;refine ae (ag 1 I (J ?_));refine zaa (J5 I I) ?_;exact hv
structure Wd(R:A→Heap→Prop):Prop where
 perm:∀v H H',H.Perm H'→R v H→R v H'
 add:∀v H G,R v H→R v (G++H)
theorem zbd(X:Mt)(a:MS):Hm X a=(X.m,.row 125 19 [mC X a])::(X.rg,.map X.ge)::(X.rw,.map a.we)::outH 3 1 a.g (a.w.codes.map zC):=rfl
def zhn:List A:=[i64 0,i64 0,i64 0,i64 0,i64 0,i64 0,i64 0,i64 0,i64 0,i64 0,i64 0,i64 0,i64 0,i64 0,i64 0,i64 0,i64 0,i64 0,i64 0,i64 0,i64 0,i64 0,.nils,i64 0,.nilf]
def accC(want:Int)(re:Nat):A:=.fn 320 [] [.dp [i64 want],.ptr re 25 0 0]
theorem zfb{e:List A}(h:e.length=25){ti:TI}(ht:lay L 179=some ti):zbw ti e (0+0)=some (.agg e):=by
 cases ht;unfold zbw;have:Nat.ble (0+0+25) e.length=true:=dz (by omega);simp only[TD.isAgg];rw[this];simp only[List.drop_zero,bG];rw[bF (by omega)]
theorem zou(X:Mt)(a:MS)(hb:0≤a.brd∧a.brd≤1000000)(want:Int)(s:Sg)(b:Int)(f2:FuncId)(cap2:List A)(f:FuncId)(cap:List A)(R:A→Heap→Prop)(hW:Wd R)(R1:Nat→Int→List A→Heap→Prop)
  (h1:∀re,TrG [] Tryz.prog f ([.agg (sgC s (a.brd+1) (accC want re)),accC want re]++cap) ((re,.row 179 25 [zhn])::Hm X {a with brd:=a.brd+1})
   fun v H'=>∃n e Hx,v=i64 n∧H'.Perm ((re,.row 179 25 [e])::Hx)∧e.length=25∧zan e=true∧R1 re n e Hx)
  (h2:∀re n e Hx,R1 re n e Hx→R (.tup [.agg e,i64 (if n=3+(a.brd+1) then 0 else n)]) Hx):
  TrG [] Tryz.prog 289 [X.p,.agg (sgC s b (.fn f2 [] cap2)),i64 want,.fn f [] cap] (Hm X a) R:=by
 refine Jb (N:=38) Tryz.func289 I I I ?_;rw[zbd];refine ae0 (ag 2 I (O (Jk I I (zab I) I I (fun _ _=>(ab (O (Jc 6 I I (zab I) I (ab (O (Jf okL I I I (fun _ _=>(ab (ag 5 I (O (Jf okL I I I (fun _ _=>(ab (ag 7 I (O (J1 okL I (.tail _ (.tail _ (.tail _ (.head _)))) I I I I (ab (ag 3 I (O (J8 okL I I I (zab I) I I I (.there (.there (.there .here))) I I I (ab (ag 7 I (O (J1 okL I (.tail _ (.tail _ (.tail _ (.head _)))) I I I I (ab (ag 1 I (O (J8 okL I I I (zab I) I I I (.there (.there .here)) I I I (ab (ag 6 I (O (J8 okL I I I (zab I) I I I (.there (.there .here)) I I I (ab (ag 5 I (O (J1 okL I (.tail _ (.tail _ (.head _))) I I I I (ab (ag 1 I (O (J1 okL I (.tail _ (.tail _ (.head _))) I I I I (ab (J3 ?_))))))))))))))))))))))))))))))))))))))))))))));rename_i rs _ rr _ re _;have hw:IntKind.i64.wrap (a.brd+1)=a.brd+1:=zap ⟨by omega,by omega⟩
 have hw2:IntKind.i64.wrap (3+(a.brd+1))=3+(a.brd+1):=zap ⟨by omega,by omega⟩
 rw[hw];refine J7 (Jp (Hc:=(re,.row 179 25 [zhn])::Hm X {a with brd:=a.brd+1}) (F:=[_,_]) I I I ((aN (l₁:=[_,_])).cons _) (h1 re) fun v H' hr=>?_)
 obtain⟨n,e,Hx,rfl,hp,he,hl,hk⟩:=hr;refine Jl (H':=(re,.row 179 25 [e])::([_,_]++Hx)) ((hp.append_right _).trans ((aN (l₂:=[_,_])).cons _)) ?_;refine ab (ag 8 I (O (J1 okL I (.tail _ (.tail _ (.head _))) I I I I (ab (ag 4 I (J2 ?_))))));rw[hw2]
 (refine J4 I (fun h=>?_) (fun h=>?_))
 ·have h:n=3+(a.brd+1):=by simpa using h
  refine ae (ag 6 I (J3 ?_));refine J7 (J1 okL I (.head _) I I (zfb he I) I ?_)
  refine ab (ag 1 I (J3 ?_));refine J7 (J8 okL I I I (zab I) hl I he (.there .here) I (zbq I he) I ?_)
  refine ab (ag 4 I (J ?_));refine zaa (zac.cellTmp okL I I (.tail _ (.head _)) I I (zfb he I) I) ?_;have:=h2 re n e Hx hk;rw[af h] at this;exact hW.add _ _ [_,_,_] this
 ·have h:¬n=3+(a.brd+1):=by simpa using h
  refine ae (ag 4 I (J3 ?_));refine J7 (J1 okL I (.head _) I I (zfb he I) I ?_)
  refine ab (ag 1 I (J3 ?_));refine J7 (J8 okL I I I (zab I) hl I he (.there .here) I (zbq I he) I ?_)
  refine ab (ag 4 I (J ?_));refine zaa (zac.cellTmp okL I I (.tail _ (.head _)) I I (zfb he I) I) ?_;have:=h2 re n e Hx hk;rw[ac h] at this;exact hW.add _ _ [_,_,_] this
theorem zmh(X:Mt)(s:Sg)(b:Int)(f2:FuncId)(cap2:List A)(f:FuncId)(cap:List A)(fi:FuncId)(capi:List A)(Ha Hb:Heap)(R:A→Heap→Prop)(hW:Wd R)(R1:Int→List A→Heap→Prop)
  (h1:TrG [] Tryz.prog 289 [X.p,.agg (sgC s b (.fn f2 [] cap2)),i64 (-1),.fn fi [] capi] Ha fun v H'=>∃n e,v=.tup [.agg e,i64 n]∧e.length=25∧zan e=true∧R1 n e H')
  (h2:∀n e H',n≠1→R1 n e H'→R (i64 n) (H'++Hb))
  (h3:∀e H',R1 1 e H'→∃s' b' f3 cap3,e=sgC s' b' (.fn f3 [] cap3)∧TrG [] Tryz.prog f ([.agg (sgC s' b (.fn f2 [] cap2))]++cap) (H'++Hb) R):
  TrG [] Tryz.prog 284 [X.p,.agg (sgC s b (.fn f2 [] cap2)),.fn f [] cap,.fn fi [] capi] (Ha++Hb) R:=by
 refine Jb (N:=30) Tryz.func284 I I I ?_;refine ae0 (ag 2 I (O (Jc 5 I I (zab I) I (ab (ag 8 I (J3 ?_))))));refine J7 (Jp I I I (ar _) h1 fun v H' hr=>?_)
 obtain⟨n,e,rfl,he,hl,hk⟩:=hr;refine ab (ag 3 I (O (Jf okL I I I (fun _ _=>(ab (J3 ?_))))));rename_i r9 _;refine J7 (J8 okL I I I (zab I) hl I he .here I (zbq I he) I ?_)
 refine ab (ag 10 I (J2 ?_))
 (refine J4 I (fun h=>?_) (fun h=>?_))
 ·have h:n≠1:=by simpa using h
  refine ae (ag 8 I (J ?_));refine zaa (J5 I I) ?_;exact hW.add _ _ [_] (h2 n e H' h hk)
 ·have h:n=1:=by simpa using h
  subst h;obtain⟨s',b',f3,cap3,rfl,ht⟩:=h3 e H' hk;refine ae (ag 3 I (J2 ?_));refine aH (fun o=>match o.op with|.store .. =>2|_=>0) (fun _=>default) okL hmix (by kernel_rfl) ?_
  refine aa I I I (aa I I I (aa I I I (aa I I I (aa I I I (bn I I I (J8 okL I I I (zab I) I I I .here I I I (Ja (ah ⟨I,I⟩))) (aa I I I (bn I I I (J8 okL I I I (zab I) I I I .here I I I (Ja (ah ⟨I,I⟩))) ?_)))))));refine aF ?_;refine ae (ag 3 I (O (J1 okL I (.head _) I I I I (ab (J3 ?_)))));refine J7 (Jd [_] I I I I ht fun v H' hr=>?_)
  refine ab (ag 4 I (J ?_));refine zaa (J5 I I) ?_;exact hW.add _ _ [_] hr
theorem zlR(X:Mt)(y:Pat)(s:Sg)(b:Int)(f2:FuncId)(cap2:List A)(f:FuncId)(cap:List A)(H:Heap)(R:A→Heap→Prop)
  (h:TrG [] Tryz.prog 284 [X.p,.agg (sgC s b (.fn f2 [] cap2)),.fn f [] cap,.fn 287 [] [.dp [X.p],.dp y.C]] H R):
  TrG [] Tryz.prog 234 [X.p,.agg y.C,.agg (sgC s b (.fn f2 [] cap2)),.fn f [] cap] H R:=by
 refine Jb (N:=14) Tryz.func234 I I I ?_;refine ae0 (ag 2 I (O (Jc 4 I I (zab I) I (ab (O (Jc 5 I I (zab I) I (ab (O (Jc 6 I I (zab I) I (ab (ag 9 I (J3 ?_))))))))))));refine J7 (Ji I I I h fun v H' hr=>?_)
 refine ab (ag 4 I (J ?_));refine zaa (J5 I I) ?_;exact hr
theorem zhx(X:Mt)(x:Pat)(s:Sg)(b:Int)(f2:FuncId)(cap2:List A)(f:FuncId)(cap:List A)(H:Heap)(R:A→Heap→Prop)(hW:Wd R)
  (h2:x.n=2→TrG [] Tryz.prog 284 [X.p,.agg (sgC s b (.fn f2 [] cap2)),.fn f [] cap,.fn 285 [] [.dp [X.p],.dp (zcE x).C]] H R)
  (h1:x.n≠2→TrG [] Tryz.prog 286 [X.p,.agg x.C,i64 0,.agg (sgC s b (.fn f2 [] cap2)),.fn f [] cap] H R):
  TrG [] Tryz.prog 232 [X.p,.agg x.C,.agg (sgC s b (.fn f2 [] cap2)),.fn f [] cap] H R:=by
 refine Jb (N:=23) Tryz.func232 I I I ?_;refine ae0 (ag 2 I (O (Jc 4 I I (zab I) I (ab (O (Jk I I (zab I) I I (fun _ _=>(ab (O (Jc 6 I I (zab I) I (ab (ag 7 I (O (J1 okL I (.head _) I I I I (ab (ag 3 I (J2 ?_)))))))))))))))));rename_i r5 _
 (refine J4 I (fun h=>?_) (fun h=>?_))
 ·have h:x.n=2:=by simpa using h
  refine ae (ag 3 I (O (J8 okL I I I (zab I) I I I .here I I I (ab (ag 8 I (J3 ?_))))));refine AOps.freezeF 16 (x':=.fn 285 [] [.dp [X.p],.dp (zcE x).C]) I (ar _) (Fz.fn (.cons (Fz.same _ _ _ _) (.cons (Fz.ptr _ _ _) .nil))) ?_;refine J7 (Ji I I I (h2 h) fun v H' hr=>?_)
  refine ab (ag 5 I (J ?_));refine zaa (J5 I I) ?_;exact hr
 ·have h:x.n≠2:=by simpa using h
  refine ae (ag 5 I (O (J1 okL I (.head _) I I I I (ab (ag 2 I (J3 ?_))))));refine J7 (Jd [_] I I I I (h1 h) fun v H' hr=>?_)
  refine ab (ag 4 I (J ?_));refine zaa (J5 I I) ?_;exact hW.add _ _ [_] hr
theorem ziS(X:Mt)(n:Int)(s:Sg)(b:Int)(hb:0≤b∧b≤1000000)(f2:FuncId)(cap2:List A)(f:FuncId)(cap:List A)(H:Heap)(R1 R:A→Heap→Prop)(hI:∀v H',R1 v H'→∃n,v=i64 n)(hR:∀n H',R1 (i64 n) H'→n≠0→R (i64 n) H')
  (h0:n=0→R (i64 0) H) (h1:n=1→TrG [] Tryz.prog f2 ([.agg (sgC s b (.fn f2 [] cap2))]++cap2) H R)
  (h2:n≠0→n≠1→TrG [] Tryz.prog f ([.agg (sgC s b (.fn f2 [] cap2))]++cap) H R1∧∀H',R1 (i64 0) H'→R (i64 (3+b)) H'):
  TrG [] Tryz.prog 237 [X.p,i64 n,.agg (sgC s b (.fn f2 [] cap2)),.fn f [] cap] H R:=by
 refine Jb (N:=28) Tryz.func237 I I I ?_;have hw:IntKind.i64.wrap (3+b)=3+b:=zap ⟨by omega,by omega⟩
 refine ae0 (ag 2 I (O (Jc 6 I I (zab I) I (ab (ag 16 I (J2 ?_))))))
 (refine J4 I (fun h=>?_) (fun h=>?_))
 ·have h:n=0:=by simpa using h
  refine ae (ag 8 I (J ?_));refine zaa (J5 I I) ?_;exact h0 h
 ·have h:n≠0:=by simpa using h
  refine ae (ag 6 I (J2 ?_))
  (refine J4 I (fun g=>?_) (fun g=>?_))
  ·have g:n=1:=by simpa using g
   refine ae (ag 5 I (J3 ?_));refine J7 (Ji I I I (h1 g) fun v H' hr=>?_)
   refine ab (ag 6 I (J ?_));refine zaa (J5 I I) ?_;exact hr
  ·have g:n≠1:=by simpa using g
   obtain⟨k1,k2⟩:=h2 h g;refine ae (ag 8 I (J3 ?_));refine J7 (Ji I I I k1 fun v H' hr=>?_)
   obtain⟨m,rfl⟩:=hI v H' hr;refine ab (ag 9 I (J2 ?_))
   (refine J4 I (fun q=>?_) (fun q=>?_))
   ·have q:m≠0:=by simpa using q
    refine ae (ag 8 I (J ?_));refine zaa (J5 I I) ?_;exact hR m H' hr q
   ·have q:m=0:=by simpa using q
    subst q;refine ae (ag 11 I (J ?_));refine zaa (J5 I I) ?_;rw[hw];exact k2 H' hr
theorem zqp:EqT Tryz.prog 295:=zqj (by kernel_rfl)
def eqS2(x y:Int×Int):Bool:=decide (x.1=y.1)&&(decide (x.2=y.2)&&true)
theorem zjG(x y:Int×Int):eqS2 x y=decide (x=y):=by
 cases x;cases y;simp[eqS2,b5,dC]
def idxL(p:Int×Int):Nat→List (Int×Int)→Int
 |_,[]=>-1
 |k,x::l=>if p=x then (k:Int) else idxL p (k+1) l
theorem zjI(p:Int×Int):∀(l:List (Int×Int)) (k:Nat),(idxL p k l≥0)↔p∈l
 |[],k=>by simp[idxL]
 |x::l,k=>by
  simp only[idxL,bx];split
  ·rename_i h;simp[h]
  ·rename_i h;rw[zjI p l (k+1)];simp[h]
theorem zoK(l:List (Int×Int))(p:Int×Int):PTr Tryz.prog 321 [.ds (l.map zaf),.agg (zaf p)] (i64 (idxL p 0 l)):=by
 refine aC (N:=19) Tryz.func321 I I I ?_;refine Jv (t:=0) I (za1.ds _) fun hlen=>?_;rw[ak] at hlen;refine ae0 (ag 2 I (O (Jc 3 I I (zab I) I (ab (ag 12 I (J2 ?_))))));refine Jj (α:=Nat) (fun k=>l.length - k) (fun k=>[(0,.ds (l.map zaf)),(3,.dp (zaf p)),(7,i64 (l.map zaf).length),(8,i64 k)]) (fun _=>[])
  (fun k=>k≤l.length∧idxL p k (l.drop k)=idxL p 0 l) 0 ⟨aM _,I⟩ ?_ (ar _) ?_
 ·simp only[zaz]
  refine⟨I,I,I,I,trivial⟩
 rintro k ⟨hk,hm⟩ ih;refine ae0 (ag 6 I (J2 ?_))
 (refine J4 I (fun h=>?_) (fun h=>?_))
 ·have h:=aj h
  simp only[ak] at h;obtain⟨x,hx⟩:∃x,l[k]?=some x:=⟨l[k],by simp[show k<l.length by omega]⟩
  rw[zaA hx,idxL] at hm;have nx:=nxt (k:=k) (n:=l.length) (by omega) hlen;refine ae (ag 11 I (Jq okL hmix (by kernel_rfl) (ag 3 I (Je (b4 I (zad I I I I I (by omega) (getS hx) I) (ap (ag 1 I (Je ?_))))))));refine Pl.eqStruct zqp I I I I I I I (b:=eqS2 p x) I I ?_;refine ap (ag 2 I (J2 ?_))
  (refine J4 I (fun h2=>?_) (fun h2=>?_))
  ·have h2:p=x:=by have h2:eqS2 p x=true:=h2;rw[zjG] at h2;exact aj h2
   rw[af h2] at hm;refine ae (ag 9 I (J (ax (ag 2 I (J ?_)))));refine zaa (J5 I I) ?_;rw[←hm]
  ·have h2:¬p=x:=by have h2:eqS2 p x=false:=h2;rw[zjG] at h2;exact ao h2
   rw[ac h2] at hm;refine ae (ag 7 I (J (zae ?_)))
   (refine aq 0 (ih (k+1) (⟨by omega,hm⟩) (by omega)) ?_ I;exact⟨I,I,I,ai some nx,trivial⟩)
 ·have h:=ao h
  simp only[ak] at h;rw[aW (by omega),idxL] at hm;refine ae (ag 2 I (J (ae (ag 6 I (J ?_)))));refine zaa (J5 I I) ?_;rw[←hm]
theorem ziY(l:List (Int×Int))(p:Int×Int):PTr Tryz.prog 291 [.ds (l.map zaf),.agg (zaf p)] (.bool (decide (p∈l))):=by
 refine aC (N:=9) Tryz.func291 I I I ?_;refine ae0 (ag 2 I (O (Jc 3 I I (zab I) I (ab (ag 7 I (O (J9 I I I (zoK l p) (ab (ag 5 I (J ?_))))))))));refine zaa (J5 I I) ?_;have:=zjI p l 0;by_cases h:p∈l
 ·rw[aA h,aA (this.2 h)]
 ·rw[aG h,aG (fun hh=>h (this.1 hh))]
theorem zmQ(l:List (Int×Int))(hst:l.length≤100):TrG [] Tryz.prog 292 [.ds (l.map zaf)] [] fun v H'=>∃g,(g=none→l=[])∧v=outV 2 g (l.map zaf).length∧H'=outH 295 2 g (l.map zaf):=by
 refine Jb (N:=8) Tryz.func292 I I I ?_;refine ae0 (ag 9 I (J3 ?_));refine J7 (du okL I I I I fun b hb=>?_)
 refine ab (ag 2 I (J2 ?_))
 (refine J4 I (fun h=>?_) (fun h=>?_))
 ·have h0:l=[]:=List.map_eq_nil_iff.1 (hb h)
  refine ae (ag 7 I (J ?_));refine zaa (J5 I I) ?_;exact⟨none,fun _=>h0,by rw[h0];rfl,by rw[h0];rfl⟩
 ·refine ae (ag 4 I (O (Jh okL I I I I I I I I I I I (fun _ _=>(ab (ag 1 I (J3 ?_)))))))
  rename_i rb _;refine J7 (cU (g:=some rb) (elems:=[]) (news:=l.map zaf) (pre:=[]) okL rfl (fun h=>by cases h) rfl rfl (.ds _) rfl rfl rfl rfl (fun c hc=>by obtain⟨y,_,rfl⟩:=List.mem_map.1 hc;rfl) (fun c hc=>by obtain⟨y,_,rfl⟩:=List.mem_map.1 hc;rfl) (by simp only[ak,br,maxLen];omega) (by simp only[ak,br];omega) I fun g' hg'=>?_)
  rw[b7] at hg' ⊢;refine ab (ag 4 I (J ?_));refine zaa (J5 I I) ?_;exact⟨g',fun e=>List.map_eq_nil_iff.1 (hg' e),I,I⟩
def callK(o:Oper):Nat:=match o.op with
 |.store .. =>2
 |.load 175 _=>1
 |.buildSlice .. =>3
 |.call {callee:=.builtin .append,.. }=>2
 |.call {callee:=.value _,.. }=>2
 |_=>0
def zpY(s:Sg)(b:Int)(acc thn:A):A:=.fn 293 [] [.dp (sgC s b acc),.dp [thn]]
theorem zmE(X:Mt)(a:MS)(hb:0≤a.brd∧a.brd≤1000000)(n:Int)(s:Sg)(hs:s.calls.length≤50)(b:Int)(f2:FuncId)(cap2:List A)(f:FuncId)(cap:List A)(Hb:Heap)(R:A→Heap→Prop)(hW:Wd R)(hR:∃v H',R v H')(R1:A→Heap→Prop)(hR1:∃v H',R1 v H')
  (hI:∀v H',R1 v H'→∃n,v=i64 n) (y:Pat) (i:Nat) (hg:zbC (i64 n) X.ge=some (some (i,.agg y.C)))
  (h0:(n,s.at_)∈s.calls∨s.calls.length≥20→R (i64 0) (Hm X a++Hb))
  (h1:¬((n,s.at_)∈s.calls∨s.calls.length≥20)→TrG [] Tryz.prog 181 [X.p,.agg y.C,.agg (sgC {s with calls:=(n,s.at_)::s.calls} (a.brd+1) (zpY s b (.fn f2 [] cap2) (.fn f [] cap))),zpY s b (.fn f2 [] cap2) (.fn f [] cap)] (Hm X {a with brd:=a.brd+1}++Hb) R1)
  (h2:∀m H',R1 (i64 m) H'→R (i64 (if m=3+(a.brd+1) then 0 else m)) H'):
  TrG [] Tryz.prog 236 [X.p,i64 n,.agg (sgC s b (.fn f2 [] cap2)),.fn f [] cap] (Hm X a++Hb) R:=by
 refine Jb (N:=65) Tryz.func236 I I I ?_;rw[zbd,az,az,az];have hw:IntKind.i64.wrap (a.brd+1)=a.brd+1:=zap ⟨by omega,by omega⟩
 have hw2:IntKind.i64.wrap (3+(a.brd+1))=3+(a.brd+1):=zap ⟨by omega,by omega⟩
 have hcl:(s.calls.reverse.map zaf).length=s.calls.length:=by simp
 refine ae0 (ag 2 I (O (Jk I I (zab I) I I (fun _ _=>(ab (O (Jc 7 I I (zab I) I (ab (ag 7 I (O (J1 okL I (.head _) I I I I (ab (ag 1 I (O (Jf okL I I I (fun _ _=>(ab (O (J8 okL I I I (zab I) I I I .here I I I (ab (ag 6 I (O (J1 okL I (.tail _ (.head _)) I I I I (ab (ag 3 I (J3 ?_))))))))))))))))))))))))));rename_i r6 _ r9 _;refine AOps.freezeF 9 (x':=.dp (zaf (n,s.at_))) I (ar _) (Fz.ptr _ _ _) ?_;have hm:(n,s.at_)∈s.calls.reverse↔(n,s.at_)∈s.calls:=List.mem_reverse;have ht:=ziY s.calls.reverse (n,s.at_)
 (refine J6 I I I (fun g=>?_) (fun g=>?_))
 ·have g:s.calls.length≥20:=by have g:=aj g;rw[hcl] at g;omega
  refine ab (ag 15 I (J ?_));refine zaa (J5 I I) ?_;exact hW.add _ _ [_] (h0 (.inr g))
 ·have g:¬s.calls.length≥20:=by have g:=ao g;rw[hcl] at g;omega
  refine ab (ag 1 I (Jg I I I (J1 okL I (.head _) I I I I (ab (ag 1 I (Jg I I I (J9 I I I (ht) (ab (ag 3 I (J2 ?_))))))))))
  (refine J4 I (fun h=>?_) (fun h=>?_))
  ·have h:(n,s.at_)∈s.calls:=hm.1 (aj h)
   refine ae (ag 7 I (J ?_));refine zaa (J5 I I) ?_;exact hW.add _ _ [_] (h0 (.inl h))
  ·have h:¬(n,s.at_)∈s.calls:=fun e=>ao h (hm.2 e)
   have hh:¬((n,s.at_)∈s.calls∨s.calls.length≥20):=by rintro(e|e);exact h e;exact g e
   refine ae (ag 4 I (O (J1 okL I (.head _) I I I I (ab (O (Jf okL I I I (fun _ _=>(ab (O (J8 okL I I I (zab I) I I I .here I I I (ab (ag 7 I (O (J1 okL I (.tail _ (.tail _ (.head _))) I I I I (ab (ag 3 I (O (J8 okL I I I (zab I) I I I (.there (.there .here)) I I I (ab (ag 7 I (O (J1 okL I (.tail _ (.tail _ (.head _))) I I I I (ab (ag 1 I (O (J8 okL I I I (zab I) I I I (.there .here) I I I (ab (ag 3 I (J2 ?_)))))))))))))))))))))))))))));rename_i r10 _;rw[hw];refine dr 10 (x':=.dp (sgC s b (.fn f2 [] cap2))) I (ar _) (Fz.ptr _ _ _) ?_;refine aH callK (fun _=>.ds [zaf (n,s.at_)]) okL hmix (by kernel_rfl) ?_;refine aa I I I (ay I I (.inl I) (J1 okL I (.head _) I I I I (Ja (ah ⟨I,I⟩))) ?_)
   refine aR (R:=fun v H'=>∃g,(g=none→s.calls.reverse=[])∧v=outV 2 g (s.calls.reverse.map zaf).length∧H'=outH 295 2 g (s.calls.reverse.map zaf)++((r6,.row 179 25 [sgC s (a.brd+1) (.fn f2 [] cap2)])::(Hm X {a with brd:=a.brd+1}++Hb))) I I I ⟨_,_,some 0,(fun h=>nomatch h),rfl,rfl⟩
    (Jp (Hc:=[]) I I I (ar _) (zmQ s.calls.reverse (by rw[dE];omega)) fun v H' hr=>?_) ?_
   ·obtain⟨g,e1,e2,e3⟩:=hr
    exact Ja (ah ⟨g,e1,e2,by rw[e3];rfl⟩)
   rintro v H' ⟨g,hg',rfl,rfl⟩
   (repeat (refine aa I I I ?_))
   refine Flex4.Plan.made I I I I I (fun H=>AOp.buildD 43 okL I I I I I I I I I I I I) ?_;refine bn I I I (AOp.appendD 44 (H0:=(r6,.row 179 25 [sgC s (a.brd+1) (.fn f2 [] cap2)])::(Hm X {a with brd:=a.brd+1}++Hb)) (g:=g) (elems:=s.calls.reverse.map zaf) (news:=[zaf (n,s.at_)]) okL I (fun e=>by rw[hg' e];rfl) aN I (.ds _) I I I I
    (fun c hc=>by rw[List.mem_singleton.1 hc];rfl) (fun c hc=>by rw[List.mem_singleton.1 hc];rfl) (by simp only[ak,dE,bc,maxLen];omega) (by simp only[ak,dE,bc];omega) I) ?_
   have er:s.calls.reverse.map zaf++[zaf (n,s.at_)]=((n,s.at_)::s.calls).reverse.map zaf:=by simp
   rw[er];refine aa I I I (bn I I I (J8 okL I I I (zab I) I I I .here I I I (Ja (ah ⟨I,I⟩))) ?_)
   refine aF ?_;refine ae (ag 4 I (O (J8 okL I I I (zab I) I I I .here I I I (ab (ag 3 I (J2 ?_))))));rw[zbd,az,az,az];refine aH hvK (fun _=>.nilp) okL hmix (by kernel_rfl) ?_;refine aa I I I (aa I I I (aa I I I (aa I I I (ay I I (.inl I) (J1 okL I (.tail _ (.head _)) I I I I (Ja (ah ⟨I,I⟩))) (aa I I I ?_)))));refine ay I I (.inl I) (cK okL I (.tail _ (.tail _ (.head _))) I I I I I I hg I (Ja (ah ⟨I,I⟩))) ?_;refine ay I I (.inl I) (J1 okL I (.head _) I I I I (Ja (ah ⟨I,I⟩))) (aa I I I (ay I I (.inl I) (J1 okL I (.head _) I I I I (Ja (ah ⟨I,I⟩))) ?_));refine aR (R:=fun v H'=>∃H1,R1 v H1∧H'=(r6,.row 179 25 [sgC {s with calls:=(n,s.at_)::s.calls} (a.brd+1) (zpY s b (.fn f2 [] cap2) (.fn f [] cap))])::H1) rfl rfl rfl (by obtain⟨v,H1,h⟩:=hR1;exact⟨v,_,H1,h,I⟩)
    (Jd [_] I I I I (h1 hh) fun r H' hr=>Ja (ah ⟨H',hr,I⟩)) ?_
   rintro v H' ⟨H1,hr,rfl⟩;obtain⟨m,rfl⟩:=hI v H1 hr;have hk:=h2 m H1 hr
   (repeat (refine aa I I I ?_))
   refine aF ?_;refine ae (ag 5 I (O (J1 okL I (.head _) I I I I (ab (ag 4 I (J2 ?_))))));rw[hw2]
   (refine J4 I (fun q=>?_) (fun q=>?_))
   ·have q:m=3+(a.brd+1):=by simpa using q
    rw[af q] at hk;refine ae (ag 7 I (J ?_));refine zaa (J5 I I) ?_;exact hW.add _ _ [_] hk
   ·have q:¬m=3+(a.brd+1):=by simpa using q
    rw[ac q] at hk;refine ae (ag 9 I (J ?_));refine zaa (J5 I I) ?_;exact hW.add _ _ [_] hk
theorem zmr(X:Mt)(y:Pat)(op:Int)(n:Int)(hn:0≤n∧n≤3)(mn mx:Int)(nm:List UInt8)(st:List (Int×Int))(s:Sg)(hs:0≤s.at_∧s.at_≤1000000)(b:Int)(f2:FuncId)(cap2:List A)(f:FuncId)(cap:List A)(Ha Hb:Heap)(R:A→Heap→Prop)(hW:Wd R)(R1:Int→List A→Heap→Prop)
  (lo hi:Int) (hlo:0≤lo∧lo≤1000000000000000000) (hL:PTr Tryz.prog 288 [.agg y.C] (.tup [i64 lo,i64 hi]))
  (h1:(if n>1 then s.at_ - lo else s.at_)≥0→TrG [] Tryz.prog 289 [X.p,.agg (sgC {s with at_:=if n>1 then s.at_ - lo else s.at_} b (.fn f2 [] cap2)),i64 (if n>1 then s.at_ else -1),.fn 290 [] [.dp [X.p],.dp (Pat.mk op n mn mx nm st [y]).C]] Ha
   fun v H'=>∃n e,v=.tup [.agg e,i64 n]∧e.length=25∧zan e=true∧R1 n e H')
  (h0:(if n>1 then s.at_ - lo else s.at_)<0→(n%2=0→R (i64 0) (Ha++Hb))∧(n%2≠0→TrG [] Tryz.prog f ([.agg (sgC s b (.fn f2 [] cap2))]++cap) (Ha++Hb) R))
  (h2:∀e H',R1 2 e H'→R (i64 2) (H'++Hb))
  (h3:∀m e H',m≠2→m≠1→R1 m e H'→(n%2=0→R (i64 0) (H'++Hb))∧(n%2≠0→TrG [] Tryz.prog f ([.agg (sgC s b (.fn f2 [] cap2))]++cap) (H'++Hb) R))
  (h4:∀e H',R1 1 e H'→(n%2≠0→R (i64 0) (H'++Hb))∧(n%2=0→∃s' b' acc',e=sgC s' b' acc'∧TrG [] Tryz.prog f ([.agg (sgC {s with caps:=s'.caps} b (.fn f2 [] cap2))]++cap) (H'++Hb) R)):
  TrG [] Tryz.prog 235 [X.p,.agg (Pat.mk op n mn mx nm st [y]).C,.agg (sgC s b (.fn f2 [] cap2)),.fn f [] cap] (Ha++Hb) R:=by
 refine Jb (N:=63) Tryz.func235 I I I ?_;have hd:([y].map Pat.cells)[((0:Nat):Int).toNat]?=some y.C:=by simp[Pat.cells_eq]
 have hw:IntKind.i64.wrap (s.at_ - lo)=s.at_ - lo:=zap ⟨by omega,by omega⟩
 have hn':n=0∨n=1∨n=2∨n=3:=by omega
 rcases hn' with rfl|rfl|rfl|rfl
 ·refine ae0 (ag 2 I (O (Jc 4 I I (zab I) I (ab (O (Jc 5 I I (zab I) I (ab (O (Jk I I (zab I) I I (fun _ _=>(ab (ag 5 I (O (J1 okL I (.head _) I I I I (ab (O (Jf okL I I I (fun _ _=>(ab (O (J8 okL I I I (zab I) I I I .here I I I (ab (ag 17 I (O (Jf okL I I I (fun _ _=>(ab (O (J8 okL I I I (zab I) I I I .here I I I (ab (ag 7 I (O (J1 okL I (.tail _ (.head _)) I I I I (ab (ag 3 I (J2 ?_))))))))))))))))))))))))))))))))))))
  rename_i r6 _ r9 _ r13 _
  (refine J4 I (fun h=>?_) (fun h=>?_))
  ·have h:s.at_≥0:=aj h
   refine ae (ag 2 I (O (J1 okL I (.tail _ (.head _)) I I I I (ab (ag 2 I (J3 ?_))))));refine J7 (Jn [_,_,_] Hb I I I I (h1 h) fun v H' hr=>?_)
   obtain⟨m,e,rfl,he,hl,hk⟩:=hr;refine ab (ag 3 I (J3 ?_));refine J7 (J8 okL I I I (zab I) hl I he .here I (zbq (e:=zhn) I he) I ?_)
   refine ab (ag 10 I (J2 ?_))
   (refine J4 I (fun q=>?_) (fun q=>?_))
   ·have q:m=2:=by simpa using q
    subst q;refine ae (ag 7 I (J ?_));refine zaa (J5 I I) ?_;exact hW.add _ _ [_,_,_] (h2 e H' hk)
   ·have q:m≠2:=by simpa using q
    by_cases g:m=1
    ·subst g
     have k4:=h4 e H' hk;refine ae (ag 27 I (J3 ?_));obtain⟨s',b',acc',rfl,ht⟩:=k4.2 (by decide);refine ab (O (J1 okL I (.head _) I I I I (ab (ag 1 I (O (J8 okL I I I (zab I) I I I (.there (.there .here)) I I I (ab (ag 5 I (O (J1 okL I (.tail _ (.tail _ (.head _))) I I I I (ab (J3 ?_))))))))))));refine J7 (Jd [_,_,_] I I I I ht fun v H' hr=>?_)
     refine ab (ag 4 I (J ?_));refine zaa (J5 I I) ?_;exact hW.add _ _ [_,_,_] hr
    ·have k3:=h3 m e H' q g hk
     have hb1:(m==1)=false:=by simpa using g
     refine ae (ag 14 I (J2 ?_));rw[hb1];refine ae (ag 8 I (J ?_));refine zaa (J5 I I) ?_;exact hW.add _ _ [_,_,_] (k3.1 (by decide))
  ·have h:s.at_<0:=by have:=ao h;omega
   have k0:=h0 h;refine ae (ag 32 I (J ?_));refine zaa (J5 I I) ?_;exact hW.add _ _ [_,_,_] (k0.1 (by decide))
 ·refine ae0 (ag 2 I (O (Jc 4 I I (zab I) I (ab (O (Jc 5 I I (zab I) I (ab (O (Jk I I (zab I) I I (fun _ _=>(ab (ag 5 I (O (J1 okL I (.head _) I I I I (ab (O (Jf okL I I I (fun _ _=>(ab (O (J8 okL I I I (zab I) I I I .here I I I (ab (ag 17 I (O (Jf okL I I I (fun _ _=>(ab (O (J8 okL I I I (zab I) I I I .here I I I (ab (ag 7 I (O (J1 okL I (.tail _ (.head _)) I I I I (ab (ag 3 I (J2 ?_))))))))))))))))))))))))))))))))))))
  rename_i r6 _ r9 _ r13 _
  (refine J4 I (fun h=>?_) (fun h=>?_))
  ·have h:s.at_≥0:=aj h
   refine ae (ag 2 I (O (J1 okL I (.tail _ (.head _)) I I I I (ab (ag 2 I (J3 ?_))))));refine J7 (Jn [_,_,_] Hb I I I I (h1 h) fun v H' hr=>?_)
   obtain⟨m,e,rfl,he,hl,hk⟩:=hr;refine ab (ag 3 I (J3 ?_));refine J7 (J8 okL I I I (zab I) hl I he .here I (zbq (e:=zhn) I he) I ?_)
   refine ab (ag 10 I (J2 ?_))
   (refine J4 I (fun q=>?_) (fun q=>?_))
   ·have q:m=2:=by simpa using q
    subst q;refine ae (ag 7 I (J ?_));refine zaa (J5 I I) ?_;exact hW.add _ _ [_,_,_] (h2 e H' hk)
   ·have q:m≠2:=by simpa using q
    by_cases g:m=1
    ·subst g
     have k4:=h4 e H' hk;refine ae (ag 22 I (J ?_));refine zaa (J5 I I) ?_;exact hW.add _ _ [_,_,_] (k4.1 (by decide))
    ·have k3:=h3 m e H' q g hk
     have hb1:(m==1)=false:=by simpa using g
     refine ae (ag 14 I (J2 ?_));rw[hb1];refine ae (ag 10 I (J2 ?_));rw[hb1];refine ae (ag 6 I (O (J1 okL I (.tail _ (.tail _ (.head _))) I I I I (ab (J3 ?_)))));refine J7 (Jd [_,_,_] I I I I (k3.2 (by decide)) fun v H' hr=>?_)
     refine ab (ag 4 I (J ?_));refine zaa (J5 I I) ?_;exact hW.add _ _ [_,_,_] hr
  ·have h:s.at_<0:=by have:=ao h;omega
   have k0:=h0 h;refine ae (ag 40 I (O (J1 okL I (.tail _ (.tail _ (.head _))) I I I I (ab (J3 ?_)))));refine J7 (Jd [_,_,_] I I I I (k0.2 (by decide)) fun v H' hr=>?_)
   refine ab (ag 4 I (J ?_));refine zaa (J5 I I) ?_;exact hW.add _ _ [_,_,_] hr
 ·refine ae0 (ag 2 I (O (Jc 4 I I (zab I) I (ab (O (Jc 5 I I (zab I) I (ab (O (Jk I I (zab I) I I (fun _ _=>(ab (ag 5 I (O (J1 okL I (.head _) I I I I (ab (O (Jf okL I I I (fun _ _=>(ab (O (J8 okL I I I (zab I) I I I .here I I I (ab (ag 16 I (Jo okL (zad I I I I I (am _) (hd) I) I (ag 1 I (O (J9 I I I (hL) (ab (ag 10 I (O (J1 okL I (.head _) I I I I (ab (ag 3 I (O (J8 okL I I I (zab I) I I I .here I I I (ab (ag 4 I (O (J1 okL I (.tail _ (.head _)) I I I I (ab (ag 6 I (O (Jf okL I I I (fun _ _=>(ab (O (J8 okL I I I (zab I) I I I .here I I I (ab (ag 7 I (O (J1 okL I (.tail _ (.head _)) I I I I (ab (ag 3 I (J2 ?_))))))))))))))))))))))))))))))))))))))))))))))))))))))
  rename_i r6 _ r9 _ r13 _;rw[hw]
  (refine J4 I (fun h=>?_) (fun h=>?_))
  ·have h:s.at_ - lo≥0:=aj h
   refine ae (ag 2 I (O (J1 okL I (.tail _ (.head _)) I I I I (ab (ag 2 I (J3 ?_))))));refine J7 (Jn [_,_,_] Hb I I I I (h1 h) fun v H' hr=>?_)
   obtain⟨m,e,rfl,he,hl,hk⟩:=hr;refine ab (ag 3 I (J3 ?_));refine J7 (J8 okL I I I (zab I) hl I he .here I (zbq (e:=zhn) I he) I ?_)
   refine ab (ag 10 I (J2 ?_))
   (refine J4 I (fun q=>?_) (fun q=>?_))
   ·have q:m=2:=by simpa using q
    subst q;refine ae (ag 7 I (J ?_));refine zaa (J5 I I) ?_;exact hW.add _ _ [_,_,_] (h2 e H' hk)
   ·have q:m≠2:=by simpa using q
    by_cases g:m=1
    ·subst g
     have k4:=h4 e H' hk;refine ae (ag 27 I (J3 ?_));obtain⟨s',b',acc',rfl,ht⟩:=k4.2 (by decide);refine ab (O (J1 okL I (.head _) I I I I (ab (ag 1 I (O (J8 okL I I I (zab I) I I I (.there (.there .here)) I I I (ab (ag 5 I (O (J1 okL I (.tail _ (.tail _ (.head _))) I I I I (ab (J3 ?_))))))))))));refine J7 (Jd [_,_,_] I I I I ht fun v H' hr=>?_)
     refine ab (ag 4 I (J ?_));refine zaa (J5 I I) ?_;exact hW.add _ _ [_,_,_] hr
    ·have k3:=h3 m e H' q g hk
     have hb1:(m==1)=false:=by simpa using g
     refine ae (ag 14 I (J2 ?_));rw[hb1];refine ae (ag 8 I (J ?_));refine zaa (J5 I I) ?_;exact hW.add _ _ [_,_,_] (k3.1 (by decide))
  ·have h:s.at_ - lo<0:=by have:=ao h;omega
   have k0:=h0 h;refine ae (ag 32 I (J ?_));refine zaa (J5 I I) ?_;exact hW.add _ _ [_,_,_] (k0.1 (by decide))
 ·refine ae0 (ag 2 I (O (Jc 4 I I (zab I) I (ab (O (Jc 5 I I (zab I) I (ab (O (Jk I I (zab I) I I (fun _ _=>(ab (ag 5 I (O (J1 okL I (.head _) I I I I (ab (O (Jf okL I I I (fun _ _=>(ab (O (J8 okL I I I (zab I) I I I .here I I I (ab (ag 16 I (Jo okL (zad I I I I I (am _) (hd) I) I (ag 1 I (O (J9 I I I (hL) (ab (ag 10 I (O (J1 okL I (.head _) I I I I (ab (ag 3 I (O (J8 okL I I I (zab I) I I I .here I I I (ab (ag 4 I (O (J1 okL I (.tail _ (.head _)) I I I I (ab (ag 6 I (O (Jf okL I I I (fun _ _=>(ab (O (J8 okL I I I (zab I) I I I .here I I I (ab (ag 7 I (O (J1 okL I (.tail _ (.head _)) I I I I (ab (ag 3 I (J2 ?_))))))))))))))))))))))))))))))))))))))))))))))))))))))
  rename_i r6 _ r9 _ r13 _;rw[hw]
  (refine J4 I (fun h=>?_) (fun h=>?_))
  ·have h:s.at_ - lo≥0:=aj h
   refine ae (ag 2 I (O (J1 okL I (.tail _ (.head _)) I I I I (ab (ag 2 I (J3 ?_))))));refine J7 (Jn [_,_,_] Hb I I I I (h1 h) fun v H' hr=>?_)
   obtain⟨m,e,rfl,he,hl,hk⟩:=hr;refine ab (ag 3 I (J3 ?_));refine J7 (J8 okL I I I (zab I) hl I he .here I (zbq (e:=zhn) I he) I ?_)
   refine ab (ag 10 I (J2 ?_))
   (refine J4 I (fun q=>?_) (fun q=>?_))
   ·have q:m=2:=by simpa using q
    subst q;refine ae (ag 7 I (J ?_));refine zaa (J5 I I) ?_;exact hW.add _ _ [_,_,_] (h2 e H' hk)
   ·have q:m≠2:=by simpa using q
    by_cases g:m=1
    ·subst g
     have k4:=h4 e H' hk;refine ae (ag 22 I (J ?_));refine zaa (J5 I I) ?_;exact hW.add _ _ [_,_,_] (k4.1 (by decide))
    ·have k3:=h3 m e H' q g hk
     have hb1:(m==1)=false:=by simpa using g
     refine ae (ag 14 I (J2 ?_));rw[hb1];refine ae (ag 10 I (J2 ?_));rw[hb1];refine ae (ag 6 I (O (J1 okL I (.tail _ (.tail _ (.head _))) I I I I (ab (J3 ?_)))));refine J7 (Jd [_,_,_] I I I I (k3.2 (by decide)) fun v H' hr=>?_)
     refine ab (ag 4 I (J ?_));refine zaa (J5 I I) ?_;exact hW.add _ _ [_,_,_] hr
  ·have h:s.at_ - lo<0:=by have:=ao h;omega
   have k0:=h0 h;refine ae (ag 40 I (O (J1 okL I (.tail _ (.tail _ (.head _))) I I I I (ab (J3 ?_)))));refine J7 (Jd [_,_,_] I I I I (k0.2 (by decide)) fun v H' hr=>?_)
   refine ab (ag 4 I (J ?_));refine zaa (J5 I I) ?_;exact hW.add _ _ [_,_,_] hr
def bitM(mask n:Int):Bool:=IntKind.i64.wrap ((BitVec.ofInt IntKind.i64.bits (mask.fdiv (2^min n.toNat IntKind.i64.bits))&&&BitVec.ofInt IntKind.i64.bits 1).toNat:Int)==1
theorem zpH(V:Wide)(X:Mt)(a:MS)(ha:MOk V X a)(x:Pat)(hn:0≤x.n∧x.n≤9)(s:Sg)(b:Int)(f2:FuncId)(cap2:List A):
  TrG [] Tryz.prog 230 [X.p,i64 x.n,.agg (sgC s b (.fn f2 [] cap2))] (Hm X a) fun v H'=>v=.bool (bitM X.mask x.n)∧∃a' G,a'.w=zbB x a.w∧a'.brd=a.brd∧MOk V X a'∧H'.Perm (G++Hm X a'):=by
 refine Jb (N:=51) Tryz.func230 I I I ?_;obtain⟨w,brd,bg,g,we⟩:=a;have hc:=ha.codes;simp only at hc;have fin:∀r',w.codes.length<100→∃a' G,a'.w=zbB x w∧a'.brd=brd∧MOk V X a'∧((X.m,Blk.row 125 19 [mC X ⟨{w with codes:=w.codes++[x.n]},brd,bg,some r',we⟩])::(X.rg,Blk.map X.ge)::(X.rw,Blk.map we)::outH 3 1 (some r') ((w.codes++[x.n]).map zC)).Perm (G++Hm X a'):=fun r' h=>by
  have e:zbB x w={w with codes:=w.codes++[x.n]}:=af h
  exact⟨⟨zbB x w,brd,bg,some r',we⟩,[],I,I,⟨(fun h=>nomatch h),by rw[e];simp only[aT,bc];omega,by have:=ha.brd;rw[e];exact this,ha.we⟩,by rw[e];exact ar _⟩
 cases g with
 |none=>
  have h0:w.codes=[]:=ha.g I;have h:w.codes.length<100:=by rw[h0];simp
  rw[zbd];refine ae0 (ag 2 I (O (Jc 5 I I (zab I) I (ab (ag 9 I (O (J1 okL I (.head _) I I I I (ab (ag 12 I (O (J1 okL I (.head _) I I I I (ab (ag 10 I (O (J1 okL I (.head _) I I I I (ab (ag 1 I (O (Jh okL I I I I I I I I I I I (fun _ _=>(ab (J3 ?_))))))))))))))))))))));refine J7 (cB zC none w.codes [x.n] [_,_,_] okL (fun _=>h0) I I I (by simp) I I I I (fun a _=>rfl) (fun a _=>rfl) (by simp only[bc];omega) I I fun r' _=>?_)
  refine ab (ag 2 I (O (J8 okL I I I (zab I) I I I .here I I I (ab (ag 7 I (O (J1 okL I (.head _) I I I I (ab (ag 1 I (J3 ?_))))))))));refine J7 (cL I I hn.1 I ?_)
  refine ab (ag 6 I (J ?_));refine zaa (J5 I I) ?_;exact⟨I,fin r' h⟩
 |some r=>
  rw[zbd];refine ae0 (ag 2 I (O (Jc 5 I I (zab I) I (ab (ag 9 I (O (J1 okL I (.head _) I I I I (ab (ag 12 I (O (J1 okL I (.head _) I I I I (ab (ag 4 I (J2 ?_))))))))))))))
  (refine J4 I (fun h=>?_) (fun h=>?_))
  ·have h:w.codes.length<100:=by have h:((w.codes.length:Nat):Int)<100:=aj h;omega
   refine ae (ag 5 I (O (J1 okL I (.head _) I I I I (ab (ag 1 I (O (Jh okL I I I I I I I I I I I (fun _ _=>(ab (J3 ?_))))))))));refine J7 (cB zC (some r) w.codes [x.n] [_,_,_] okL (fun h=>nomatch h) I I I (by simp) I I I I (fun a _=>rfl) (fun a _=>rfl) (by simp only[bc];omega) I I fun r' _=>?_)
   refine ab (ag 2 I (O (J8 okL I I I (zab I) I I I .here I I I (ab (ag 7 I (O (J1 okL I (.head _) I I I I (ab (ag 1 I (J3 ?_))))))))));refine J7 (cL I I hn.1 I ?_)
   refine ab (ag 6 I (J ?_));refine zaa (J5 I I) ?_;exact⟨I,fin r' h⟩
  ·have h:¬w.codes.length<100:=by have h:¬((w.codes.length:Nat):Int)<100:=ao h;omega
   have e:zbB x w=w:=ac h;refine ae (ag 7 I (O (J1 okL I (.head _) I I I I (ab (ag 1 I (J3 ?_))))));refine J7 (cL I I hn.1 I ?_)
   refine ab (ag 6 I (J ?_));refine zaa (J5 I I) ?_;exact⟨I,⟨w,brd,bg,some r,we⟩,[],e.symm,I,ha,ar _⟩
def zau(a:MS):MS:={a with w:=tick a.w}
theorem zrS(X:Mt)(a:MS)(hp:a.w.p≤1000000)(n mn mx:Int)(nm:List UInt8)(st:List (Int×Int))(l:List Pat)(s:Sg)(b:Int)(f2:FuncId)(cap2:List A)(f:FuncId)(cap:List A)(Hb:Heap)(R:A→Heap→Prop)(hW:Wd R)
  (ht:a.w.p+1>20000→R (i64 2) (Hm X (zau a)++Hb))
  (RC:Bool→Heap→Prop)
  (hc:¬a.w.p+1>20000→TrG [] Tryz.prog 227 [X.p,.agg (Pat.mk 1 n mn mx nm st l).C,i64 s.at_] (Hm X (zau a)) fun v H'=>∃t:Bool,v=.bool t∧RC t H')
  (h0:∀H',RC false H'→R (i64 0) (H'++Hb)) (h1:∀H',RC true H'→TrG [] Tryz.prog f ([.agg (sgC {s with at_:=IntKind.i64.wrap (s.at_+1)} b (.fn f2 [] cap2))]++cap) (H'++Hb) R)
  :TrG [] Tryz.prog 181 [X.p,.agg (Pat.mk 1 n mn mx nm st l).C,.agg (sgC s b (.fn f2 [] cap2)),.fn f [] cap] (Hm X a++Hb) R:=by
 refine Jb (N:=186) Tryz.func181 I I I ?_;rw[zbd,az,az,az];have hw:IntKind.i64.wrap ((a.w.p:Int)+1)=((a.w.p+1:Nat):Int):=by rw[zap ⟨by omega,by omega⟩];omega
 refine ae0 (ag 2 I (O (Jc 5 I I (zab I) I (ab (O (Jk I I (zab I) I I (fun _ _=>(ab (O (Jc 7 I I (zab I) I (ab (ag 8 I (O (J1 okL I (.tail _ (.head _)) I I I I (ab (ag 3 I (O (J8 okL I I I (zab I) I I I (.there .here) I I I (ab (ag 8 I (O (J1 okL I (.tail _ (.head _)) I I I I (ab (ag 3 I (J2 ?_)))))))))))))))))))))))));rename_i r6 _;rw[hw]
 (refine J4 I (fun hq=>?_) (fun hq=>?_))
 ·have hq:a.w.p+1>20000:=by have hq:=aj hq;omega
  refine ae (ag 7 I (J ?_));refine zaa (J5 I I) ?_;exact hW.add _ _ [_] (ht hq)
 have hq:¬a.w.p+1>20000:=by have hq:=ao hq;omega
 refine ae (ag 27 I (O (J1 okL I (.head _) I I I I (ab (J3 ?_)))));refine J7 (Jn [_] Hb I I I I (hc hq) fun v H' hr=>?_)
 obtain⟨t,rfl,hr⟩:=hr;cases t with
 |false=>
  refine ab (ag 13 I (J ?_));refine zaa (J5 I I) ?_;exact hW.add _ _ [_] (h0 _ hr)
 |true=>
  refine ab (ag 8 I (O (J1 okL I (.head _) I I I I (ab (ag 2 I (O (J8 okL I I I (zab I) I I I .here I I I (ab (ag 6 I (O (J1 okL I (.head _) I I I I (ab (J3 ?_)))))))))))));refine J7 (Jd [_] I I I I (h1 _ hr) fun v H' hr=>?_)
  refine ab (ag 4 I (J ?_));refine zaa (J5 I I) ?_;exact hW.add _ _ [_] hr
theorem zrZ(X:Mt)(a:MS)(hp:a.w.p≤1000000)(n mn mx:Int)(nm:List UInt8)(st:List (Int×Int))(l:List Pat)(s:Sg)(b:Int)(f2:FuncId)(cap2:List A)(f:FuncId)(cap:List A)(Hb:Heap)(R:A→Heap→Prop)(hW:Wd R)
  (ht:a.w.p+1>20000→R (i64 2) (Hm X (zau a)++Hb))
  (RC:Bool→Heap→Prop)
  (hc:¬a.w.p+1>20000→TrG [] Tryz.prog 227 [X.p,.agg (Pat.mk 2 n mn mx nm st l).C,i64 s.at_] (Hm X (zau a)) fun v H'=>∃t:Bool,v=.bool t∧RC t H')
  (h0:∀H',RC false H'→R (i64 0) (H'++Hb)) (h1:∀H',RC true H'→TrG [] Tryz.prog f ([.agg (sgC {s with at_:=IntKind.i64.wrap (s.at_+1)} b (.fn f2 [] cap2))]++cap) (H'++Hb) R)
  :TrG [] Tryz.prog 181 [X.p,.agg (Pat.mk 2 n mn mx nm st l).C,.agg (sgC s b (.fn f2 [] cap2)),.fn f [] cap] (Hm X a++Hb) R:=by
 refine Jb (N:=186) Tryz.func181 I I I ?_;rw[zbd,az,az,az];have hw:IntKind.i64.wrap ((a.w.p:Int)+1)=((a.w.p+1:Nat):Int):=by rw[zap ⟨by omega,by omega⟩];omega
 refine ae0 (ag 2 I (O (Jc 5 I I (zab I) I (ab (O (Jk I I (zab I) I I (fun _ _=>(ab (O (Jc 7 I I (zab I) I (ab (ag 8 I (O (J1 okL I (.tail _ (.head _)) I I I I (ab (ag 3 I (O (J8 okL I I I (zab I) I I I (.there .here) I I I (ab (ag 8 I (O (J1 okL I (.tail _ (.head _)) I I I I (ab (ag 3 I (J2 ?_)))))))))))))))))))))))));rename_i r6 _;rw[hw]
 (refine J4 I (fun hq=>?_) (fun hq=>?_))
 ·have hq:a.w.p+1>20000:=by have hq:=aj hq;omega
  refine ae (ag 7 I (J ?_));refine zaa (J5 I I) ?_;exact hW.add _ _ [_] (ht hq)
 have hq:¬a.w.p+1>20000:=by have hq:=ao hq;omega
 refine ae (ag 34 I (O (J1 okL I (.head _) I I I I (ab (J3 ?_)))));refine J7 (Jn [_] Hb I I I I (hc hq) fun v H' hr=>?_)
 obtain⟨t,rfl,hr⟩:=hr;cases t with
 |false=>
  refine ab (ag 13 I (J ?_));refine zaa (J5 I I) ?_;exact hW.add _ _ [_] (h0 _ hr)
 |true=>
  refine ab (ag 8 I (O (J1 okL I (.head _) I I I I (ab (ag 2 I (O (J8 okL I I I (zab I) I I I .here I I I (ab (ag 6 I (O (J1 okL I (.head _) I I I I (ab (J3 ?_)))))))))))));refine J7 (Jd [_] I I I I (h1 _ hr) fun v H' hr=>?_)
  refine ab (ag 4 I (J ?_));refine zaa (J5 I I) ?_;exact hW.add _ _ [_] hr
theorem zq6(X:Mt)(a:MS)(hp:a.w.p≤1000000)(n mn mx:Int)(nm:List UInt8)(st:List (Int×Int))(l:List Pat)(s:Sg)(b:Int)(f2:FuncId)(cap2:List A)(f:FuncId)(cap:List A)(Hb:Heap)(R:A→Heap→Prop)(hW:Wd R)
  (ht:a.w.p+1>20000→R (i64 2) (Hm X (zau a)++Hb))
  (RC:Bool→Heap→Prop)
  (hc:¬a.w.p+1>20000→TrG [] Tryz.prog 227 [X.p,.agg (Pat.mk 3 n mn mx nm st l).C,i64 s.at_] (Hm X (zau a)) fun v H'=>∃t:Bool,v=.bool t∧RC t H')
  (h0:∀H',RC false H'→R (i64 0) (H'++Hb)) (h1:∀H',RC true H'→TrG [] Tryz.prog f ([.agg (sgC {s with at_:=IntKind.i64.wrap (s.at_+1)} b (.fn f2 [] cap2))]++cap) (H'++Hb) R)
  :TrG [] Tryz.prog 181 [X.p,.agg (Pat.mk 3 n mn mx nm st l).C,.agg (sgC s b (.fn f2 [] cap2)),.fn f [] cap] (Hm X a++Hb) R:=by
 refine Jb (N:=186) Tryz.func181 I I I ?_;rw[zbd,az,az,az];have hw:IntKind.i64.wrap ((a.w.p:Int)+1)=((a.w.p+1:Nat):Int):=by rw[zap ⟨by omega,by omega⟩];omega
 refine ae0 (ag 2 I (O (Jc 5 I I (zab I) I (ab (O (Jk I I (zab I) I I (fun _ _=>(ab (O (Jc 7 I I (zab I) I (ab (ag 8 I (O (J1 okL I (.tail _ (.head _)) I I I I (ab (ag 3 I (O (J8 okL I I I (zab I) I I I (.there .here) I I I (ab (ag 8 I (O (J1 okL I (.tail _ (.head _)) I I I I (ab (ag 3 I (J2 ?_)))))))))))))))))))))))));rename_i r6 _;rw[hw]
 (refine J4 I (fun hq=>?_) (fun hq=>?_))
 ·have hq:a.w.p+1>20000:=by have hq:=aj hq;omega
  refine ae (ag 7 I (J ?_));refine zaa (J5 I I) ?_;exact hW.add _ _ [_] (ht hq)
 have hq:¬a.w.p+1>20000:=by have hq:=ao hq;omega
 refine ae (ag 37 I (O (J1 okL I (.head _) I I I I (ab (J3 ?_)))));refine J7 (Jn [_] Hb I I I I (hc hq) fun v H' hr=>?_)
 obtain⟨t,rfl,hr⟩:=hr;cases t with
 |false=>
  refine ab (ag 13 I (J ?_));refine zaa (J5 I I) ?_;exact hW.add _ _ [_] (h0 _ hr)
 |true=>
  refine ab (ag 8 I (O (J1 okL I (.head _) I I I I (ab (ag 2 I (O (J8 okL I I I (zab I) I I I .here I I I (ab (ag 6 I (O (J1 okL I (.head _) I I I I (ab (J3 ?_)))))))))))));refine J7 (Jd [_] I I I I (h1 _ hr) fun v H' hr=>?_)
  refine ab (ag 4 I (J ?_));refine zaa (J5 I I) ?_;exact hW.add _ _ [_] hr
theorem zqe(X:Mt)(a:MS)(hp:a.w.p≤1000000)(n mn mx:Int)(nm:List UInt8)(st:List (Int×Int))(l:List Pat)(s:Sg)(b:Int)(f2:FuncId)(cap2:List A)(f:FuncId)(cap:List A)(Hb:Heap)(R:A→Heap→Prop)(hW:Wd R)
  (ht:a.w.p+1>20000→R (i64 2) (Hm X (zau a)++Hb))
  (RC:Bool→Heap→Prop)
  (hc:¬a.w.p+1>20000→TrG [] Tryz.prog 228 [X.p,.agg (Pat.mk 11 n mn mx nm st l).C,i64 s.at_] (Hm X (zau a)) fun v H'=>∃t:Bool,v=.bool t∧RC t H')
  (h0:∀H',RC false H'→R (i64 0) (H'++Hb)) (h1:∀H',RC true H'→TrG [] Tryz.prog f ([.agg (sgC s b (.fn f2 [] cap2))]++cap) (H'++Hb) R)
  :TrG [] Tryz.prog 181 [X.p,.agg (Pat.mk 11 n mn mx nm st l).C,.agg (sgC s b (.fn f2 [] cap2)),.fn f [] cap] (Hm X a++Hb) R:=by
 refine Jb (N:=186) Tryz.func181 I I I ?_;rw[zbd,az,az,az];have hw:IntKind.i64.wrap ((a.w.p:Int)+1)=((a.w.p+1:Nat):Int):=by rw[zap ⟨by omega,by omega⟩];omega
 refine ae0 (ag 2 I (O (Jc 5 I I (zab I) I (ab (O (Jk I I (zab I) I I (fun _ _=>(ab (O (Jc 7 I I (zab I) I (ab (ag 8 I (O (J1 okL I (.tail _ (.head _)) I I I I (ab (ag 3 I (O (J8 okL I I I (zab I) I I I (.there .here) I I I (ab (ag 8 I (O (J1 okL I (.tail _ (.head _)) I I I I (ab (ag 3 I (J2 ?_)))))))))))))))))))))))));rename_i r6 _;rw[hw]
 (refine J4 I (fun hq=>?_) (fun hq=>?_))
 ·have hq:a.w.p+1>20000:=by have hq:=aj hq;omega
  refine ae (ag 7 I (J ?_));refine zaa (J5 I I) ?_;exact hW.add _ _ [_] (ht hq)
 have hq:¬a.w.p+1>20000:=by have hq:=ao hq;omega
 refine ae (ag 47 I (O (J1 okL I (.head _) I I I I (ab (J3 ?_)))));refine J7 (Jn [_] Hb I I I I (hc hq) fun v H' hr=>?_)
 obtain⟨t,rfl,hr⟩:=hr;cases t with
 |false=>
  refine ab (ag 12 I (J ?_));refine zaa (J5 I I) ?_;exact hW.add _ _ [_] (h0 _ hr)
 |true=>
  refine ab (ag 10 I (O (J1 okL I (.head _) I I I I (ab (J3 ?_)))));refine J7 (Jd [_] I I I I (h1 _ hr) fun v H' hr=>?_)
  refine ab (ag 4 I (J ?_));refine zaa (J5 I I) ?_;exact hW.add _ _ [_] hr
theorem zqd(X:Mt)(a:MS)(hp:a.w.p≤1000000)(n mn mx:Int)(nm:List UInt8)(st:List (Int×Int))(l:List Pat)(s:Sg)(b:Int)(f2:FuncId)(cap2:List A)(f:FuncId)(cap:List A)(Hb:Heap)(R:A→Heap→Prop)(hW:Wd R)
  (ht:a.w.p+1>20000→R (i64 2) (Hm X (zau a)++Hb))
  (RC:Bool→Heap→Prop)
  (hc:¬a.w.p+1>20000→TrG [] Tryz.prog 228 [X.p,.agg (Pat.mk 12 n mn mx nm st l).C,i64 s.at_] (Hm X (zau a)) fun v H'=>∃t:Bool,v=.bool t∧RC t H')
  (h0:∀H',RC false H'→R (i64 0) (H'++Hb)) (h1:∀H',RC true H'→TrG [] Tryz.prog f ([.agg (sgC s b (.fn f2 [] cap2))]++cap) (H'++Hb) R)
  :TrG [] Tryz.prog 181 [X.p,.agg (Pat.mk 12 n mn mx nm st l).C,.agg (sgC s b (.fn f2 [] cap2)),.fn f [] cap] (Hm X a++Hb) R:=by
 refine Jb (N:=186) Tryz.func181 I I I ?_;rw[zbd,az,az,az];have hw:IntKind.i64.wrap ((a.w.p:Int)+1)=((a.w.p+1:Nat):Int):=by rw[zap ⟨by omega,by omega⟩];omega
 refine ae0 (ag 2 I (O (Jc 5 I I (zab I) I (ab (O (Jk I I (zab I) I I (fun _ _=>(ab (O (Jc 7 I I (zab I) I (ab (ag 8 I (O (J1 okL I (.tail _ (.head _)) I I I I (ab (ag 3 I (O (J8 okL I I I (zab I) I I I (.there .here) I I I (ab (ag 8 I (O (J1 okL I (.tail _ (.head _)) I I I I (ab (ag 3 I (J2 ?_)))))))))))))))))))))))));rename_i r6 _;rw[hw]
 (refine J4 I (fun hq=>?_) (fun hq=>?_))
 ·have hq:a.w.p+1>20000:=by have hq:=aj hq;omega
  refine ae (ag 7 I (J ?_));refine zaa (J5 I I) ?_;exact hW.add _ _ [_] (ht hq)
 have hq:¬a.w.p+1>20000:=by have hq:=ao hq;omega
 refine ae (ag 54 I (O (J1 okL I (.head _) I I I I (ab (J3 ?_)))));refine J7 (Jn [_] Hb I I I I (hc hq) fun v H' hr=>?_)
 obtain⟨t,rfl,hr⟩:=hr;cases t with
 |false=>
  refine ab (ag 12 I (J ?_));refine zaa (J5 I I) ?_;exact hW.add _ _ [_] (h0 _ hr)
 |true=>
  refine ab (ag 10 I (O (J1 okL I (.head _) I I I I (ab (J3 ?_)))));refine J7 (Jd [_] I I I I (h1 _ hr) fun v H' hr=>?_)
  refine ab (ag 4 I (J ?_));refine zaa (J5 I I) ?_;exact hW.add _ _ [_] hr
theorem zqm(X:Mt)(a:MS)(hp:a.w.p≤1000000)(n mn mx:Int)(nm:List UInt8)(st:List (Int×Int))(l:List Pat)(s:Sg)(b:Int)(f2:FuncId)(cap2:List A)(f:FuncId)(cap:List A)(Hb:Heap)(R:A→Heap→Prop)(hW:Wd R)
  (ht:a.w.p+1>20000→R (i64 2) (Hm X (zau a)++Hb))
  (RC:Bool→Heap→Prop)
  (hc:¬a.w.p+1>20000→TrG [] Tryz.prog 228 [X.p,.agg (Pat.mk 13 n mn mx nm st l).C,i64 s.at_] (Hm X (zau a)) fun v H'=>∃t:Bool,v=.bool t∧RC t H')
  (h0:∀H',RC false H'→R (i64 0) (H'++Hb)) (h1:∀H',RC true H'→TrG [] Tryz.prog f ([.agg (sgC s b (.fn f2 [] cap2))]++cap) (H'++Hb) R)
  :TrG [] Tryz.prog 181 [X.p,.agg (Pat.mk 13 n mn mx nm st l).C,.agg (sgC s b (.fn f2 [] cap2)),.fn f [] cap] (Hm X a++Hb) R:=by
 refine Jb (N:=186) Tryz.func181 I I I ?_;rw[zbd,az,az,az];have hw:IntKind.i64.wrap ((a.w.p:Int)+1)=((a.w.p+1:Nat):Int):=by rw[zap ⟨by omega,by omega⟩];omega
 refine ae0 (ag 2 I (O (Jc 5 I I (zab I) I (ab (O (Jk I I (zab I) I I (fun _ _=>(ab (O (Jc 7 I I (zab I) I (ab (ag 8 I (O (J1 okL I (.tail _ (.head _)) I I I I (ab (ag 3 I (O (J8 okL I I I (zab I) I I I (.there .here) I I I (ab (ag 8 I (O (J1 okL I (.tail _ (.head _)) I I I I (ab (ag 3 I (J2 ?_)))))))))))))))))))))))));rename_i r6 _;rw[hw]
 (refine J4 I (fun hq=>?_) (fun hq=>?_))
 ·have hq:a.w.p+1>20000:=by have hq:=aj hq;omega
  refine ae (ag 7 I (J ?_));refine zaa (J5 I I) ?_;exact hW.add _ _ [_] (ht hq)
 have hq:¬a.w.p+1>20000:=by have hq:=ao hq;omega
 refine ae (ag 57 I (O (J1 okL I (.head _) I I I I (ab (J3 ?_)))));refine J7 (Jn [_] Hb I I I I (hc hq) fun v H' hr=>?_)
 obtain⟨t,rfl,hr⟩:=hr;cases t with
 |false=>
  refine ab (ag 12 I (J ?_));refine zaa (J5 I I) ?_;exact hW.add _ _ [_] (h0 _ hr)
 |true=>
  refine ab (ag 10 I (O (J1 okL I (.head _) I I I I (ab (J3 ?_)))));refine J7 (Jd [_] I I I I (h1 _ hr) fun v H' hr=>?_)
  refine ab (ag 4 I (J ?_));refine zaa (J5 I I) ?_;exact hW.add _ _ [_] hr
theorem zns(X:Mt)(a:MS)(hp:a.w.p≤1000000)(n mn mx:Int)(nm:List UInt8)(st:List (Int×Int))(l:List Pat)(s:Sg)(b:Int)(f2:FuncId)(cap2:List A)(f:FuncId)(cap:List A)(Hb:Heap)(R:A→Heap→Prop)(hW:Wd R)
  (ht:a.w.p+1>20000→R (i64 2) (Hm X (zau a)++Hb))
  (RC:Bool→Heap→Prop)
  (hc:¬a.w.p+1>20000→TrG [] Tryz.prog 230 [X.p,i64 n,.agg (sgC s b (.fn f2 [] cap2))] (Hm X (zau a)) fun v H'=>∃t:Bool,v=.bool t∧RC t H')
  (h0:∀H',RC false H'→R (i64 0) (H'++Hb)) (h1:∀H',RC true H'→TrG [] Tryz.prog f ([.agg (sgC s b (.fn f2 [] cap2))]++cap) (H'++Hb) R)
  :TrG [] Tryz.prog 181 [X.p,.agg (Pat.mk 17 n mn mx nm st l).C,.agg (sgC s b (.fn f2 [] cap2)),.fn f [] cap] (Hm X a++Hb) R:=by
 refine Jb (N:=186) Tryz.func181 I I I ?_;rw[zbd,az,az,az];have hw:IntKind.i64.wrap ((a.w.p:Int)+1)=((a.w.p+1:Nat):Int):=by rw[zap ⟨by omega,by omega⟩];omega
 refine ae0 (ag 2 I (O (Jc 5 I I (zab I) I (ab (O (Jk I I (zab I) I I (fun _ _=>(ab (O (Jc 7 I I (zab I) I (ab (ag 8 I (O (J1 okL I (.tail _ (.head _)) I I I I (ab (ag 3 I (O (J8 okL I I I (zab I) I I I (.there .here) I I I (ab (ag 8 I (O (J1 okL I (.tail _ (.head _)) I I I I (ab (ag 3 I (J2 ?_)))))))))))))))))))))))));rename_i r6 _;rw[hw]
 (refine J4 I (fun hq=>?_) (fun hq=>?_))
 ·have hq:a.w.p+1>20000:=by have hq:=aj hq;omega
  refine ae (ag 7 I (J ?_));refine zaa (J5 I I) ?_;exact hW.add _ _ [_] (ht hq)
 have hq:¬a.w.p+1>20000:=by have hq:=ao hq;omega
 refine ae (ag 78 I (O (J1 okL I (.head _) I I I I (ab (J3 ?_)))));refine J7 (Jn [_] Hb I I I I (hc hq) fun v H' hr=>?_)
 obtain⟨t,rfl,hr⟩:=hr;cases t with
 |false=>
  refine ab (ag 12 I (J ?_));refine zaa (J5 I I) ?_;exact hW.add _ _ [_] (h0 _ hr)
 |true=>
  refine ab (ag 10 I (O (J1 okL I (.head _) I I I I (ab (J3 ?_)))));refine J7 (Jd [_] I I I I (h1 _ hr) fun v H' hr=>?_)
  refine ab (ag 4 I (J ?_));refine zaa (J5 I I) ?_;exact hW.add _ _ [_] hr
theorem zmx(X:Mt)(a:MS)(hp:a.w.p≤1000000)(n mn mx:Int)(nm:List UInt8)(st:List (Int×Int))(l:List Pat)(s:Sg)(b:Int)(f2:FuncId)(cap2:List A)(f:FuncId)(cap:List A)(Hb:Heap)(R:A→Heap→Prop)(hW:Wd R)
  (ht:a.w.p+1>20000→R (i64 2) (Hm X (zau a)++Hb))
  (h1:¬a.w.p+1>20000→TrG [] Tryz.prog f ([.agg (sgC s b (.fn f2 [] cap2))]++cap) (Hm X (zau a)++Hb) R)
  :TrG [] Tryz.prog 181 [X.p,.agg (Pat.mk 0 n mn mx nm st l).C,.agg (sgC s b (.fn f2 [] cap2)),.fn f [] cap] (Hm X a++Hb) R:=by
 refine Jb (N:=186) Tryz.func181 I I I ?_;rw[zbd,az,az,az];have hw:IntKind.i64.wrap ((a.w.p:Int)+1)=((a.w.p+1:Nat):Int):=by rw[zap ⟨by omega,by omega⟩];omega
 refine ae0 (ag 2 I (O (Jc 5 I I (zab I) I (ab (O (Jk I I (zab I) I I (fun _ _=>(ab (O (Jc 7 I I (zab I) I (ab (ag 8 I (O (J1 okL I (.tail _ (.head _)) I I I I (ab (ag 3 I (O (J8 okL I I I (zab I) I I I (.there .here) I I I (ab (ag 8 I (O (J1 okL I (.tail _ (.head _)) I I I I (ab (ag 3 I (J2 ?_)))))))))))))))))))))))));rename_i r6 _;rw[hw]
 (refine J4 I (fun hq=>?_) (fun hq=>?_))
 ·have hq:a.w.p+1>20000:=by have hq:=aj hq;omega
  refine ae (ag 7 I (J ?_));refine zaa (J5 I I) ?_;exact hW.add _ _ [_] (ht hq)
 have hq:¬a.w.p+1>20000:=by have hq:=ao hq;omega
 refine ae (ag 142 I (O (J1 okL I (.head _) I I I I (ab (J3 ?_)))));refine J7 (Jd [_] I I I I (h1 hq) fun v H' hr=>?_)
 refine ab (ag 4 I (J ?_));refine zaa (J5 I I) ?_;exact hW.add _ _ [_] hr
theorem zoM(X:Mt)(a:MS)(hp:a.w.p≤1000000)(n mn mx:Int)(nm:List UInt8)(st:List (Int×Int))(l:List Pat)(s:Sg)(b:Int)(f2:FuncId)(cap2:List A)(f:FuncId)(cap:List A)(Hb:Heap)(R:A→Heap→Prop)(hW:Wd R)
  (ht:a.w.p+1>20000→R (i64 2) (Hm X (zau a)++Hb))
  (h1:¬a.w.p+1>20000→TrG [] Tryz.prog f ([.agg (sgC {s with keep:=s.at_} b (.fn f2 [] cap2))]++cap) (Hm X (zau a)++Hb) R)
  :TrG [] Tryz.prog 181 [X.p,.agg (Pat.mk 18 n mn mx nm st l).C,.agg (sgC s b (.fn f2 [] cap2)),.fn f [] cap] (Hm X a++Hb) R:=by
 refine Jb (N:=186) Tryz.func181 I I I ?_;rw[zbd,az,az,az];have hw:IntKind.i64.wrap ((a.w.p:Int)+1)=((a.w.p+1:Nat):Int):=by rw[zap ⟨by omega,by omega⟩];omega
 refine ae0 (ag 2 I (O (Jc 5 I I (zab I) I (ab (O (Jk I I (zab I) I I (fun _ _=>(ab (O (Jc 7 I I (zab I) I (ab (ag 8 I (O (J1 okL I (.tail _ (.head _)) I I I I (ab (ag 3 I (O (J8 okL I I I (zab I) I I I (.there .here) I I I (ab (ag 8 I (O (J1 okL I (.tail _ (.head _)) I I I I (ab (ag 3 I (J2 ?_)))))))))))))))))))))))));rename_i r6 _;rw[hw]
 (refine J4 I (fun hq=>?_) (fun hq=>?_))
 ·have hq:a.w.p+1>20000:=by have hq:=aj hq;omega
  refine ae (ag 7 I (J ?_));refine zaa (J5 I I) ?_;exact hW.add _ _ [_] (ht hq)
 have hq:¬a.w.p+1>20000:=by have hq:=ao hq;omega
 refine ae (ag 68 I (O (J1 okL I (.head _) I I I I (ab (ag 1 I (O (J8 okL I I I (zab I) I I I .here I I I (ab (ag 6 I (O (J1 okL I (.head _) I I I I (ab (J3 ?_)))))))))))));refine J7 (Jd [_] I I I I (h1 hq) fun v H' hr=>?_)
 refine ab (ag 4 I (J ?_));refine zaa (J5 I I) ?_;exact hW.add _ _ [_] hr
theorem zqi(X:Mt)(a:MS)(hp:a.w.p≤1000000)(n mn mx:Int)(nm:List UInt8)(st:List (Int×Int))(l:List Pat)(s:Sg)(b:Int)(f2:FuncId)(cap2:List A)(f:FuncId)(cap:List A)(Hb:Heap)(R:A→Heap→Prop)(hW:Wd R)
  (ht:a.w.p+1>20000→R (i64 2) (Hm X (zau a)++Hb))
  (h1:¬a.w.p+1>20000→TrG [] Tryz.prog 231 [X.p,.ds (l.map Pat.cells),.agg (sgC s b (.fn f2 [] cap2)),.fn f [] cap] (Hm X (zau a)++Hb) R)
  :TrG [] Tryz.prog 181 [X.p,.agg (Pat.mk 4 n mn mx nm st l).C,.agg (sgC s b (.fn f2 [] cap2)),.fn f [] cap] (Hm X a++Hb) R:=by
 refine Jb (N:=186) Tryz.func181 I I I ?_;rw[zbd,az,az,az];have hw:IntKind.i64.wrap ((a.w.p:Int)+1)=((a.w.p+1:Nat):Int):=by rw[zap ⟨by omega,by omega⟩];omega
 refine ae0 (ag 2 I (O (Jc 5 I I (zab I) I (ab (O (Jk I I (zab I) I I (fun _ _=>(ab (O (Jc 7 I I (zab I) I (ab (ag 8 I (O (J1 okL I (.tail _ (.head _)) I I I I (ab (ag 3 I (O (J8 okL I I I (zab I) I I I (.there .here) I I I (ab (ag 8 I (O (J1 okL I (.tail _ (.head _)) I I I I (ab (ag 3 I (J2 ?_)))))))))))))))))))))))));rename_i r6 _;rw[hw]
 (refine J4 I (fun hq=>?_) (fun hq=>?_))
 ·have hq:a.w.p+1>20000:=by have hq:=aj hq;omega
  refine ae (ag 7 I (J ?_));refine zaa (J5 I I) ?_;exact hW.add _ _ [_] (ht hq)
 have hq:¬a.w.p+1>20000:=by have hq:=ao hq;omega
 refine ae (ag 85 I (O (J1 okL I (.head _) I I I I (ab (ag 1 I (J3 ?_))))));refine J7 (Jd [_] I I I I (h1 hq) fun v H' hr=>?_)
 refine ab (ag 6 I (J ?_));refine zaa (J5 I I) ?_;exact hW.add _ _ [_] hr
theorem znd(X:Mt)(a:MS)(hp:a.w.p≤1000000)(n mn mx:Int)(nm:List UInt8)(st:List (Int×Int))(l:List Pat)(s:Sg)(b:Int)(f2:FuncId)(cap2:List A)(f:FuncId)(cap:List A)(Hb:Heap)(R:A→Heap→Prop)(hW:Wd R)
  (ht:a.w.p+1>20000→R (i64 2) (Hm X (zau a)++Hb))
  (h1:¬a.w.p+1>20000→TrG [] Tryz.prog 232 [X.p,.agg (Pat.mk 6 n mn mx nm st l).C,.agg (sgC s b (.fn f2 [] cap2)),.fn f [] cap] (Hm X (zau a)++Hb) R)
  :TrG [] Tryz.prog 181 [X.p,.agg (Pat.mk 6 n mn mx nm st l).C,.agg (sgC s b (.fn f2 [] cap2)),.fn f [] cap] (Hm X a++Hb) R:=by
 refine Jb (N:=186) Tryz.func181 I I I ?_;rw[zbd,az,az,az];have hw:IntKind.i64.wrap ((a.w.p:Int)+1)=((a.w.p+1:Nat):Int):=by rw[zap ⟨by omega,by omega⟩];omega
 refine ae0 (ag 2 I (O (Jc 5 I I (zab I) I (ab (O (Jk I I (zab I) I I (fun _ _=>(ab (O (Jc 7 I I (zab I) I (ab (ag 8 I (O (J1 okL I (.tail _ (.head _)) I I I I (ab (ag 3 I (O (J8 okL I I I (zab I) I I I (.there .here) I I I (ab (ag 8 I (O (J1 okL I (.tail _ (.head _)) I I I I (ab (ag 3 I (J2 ?_)))))))))))))))))))))))));rename_i r6 _;rw[hw]
 (refine J4 I (fun hq=>?_) (fun hq=>?_))
 ·have hq:a.w.p+1>20000:=by have hq:=aj hq;omega
  refine ae (ag 7 I (J ?_));refine zaa (J5 I I) ?_;exact hW.add _ _ [_] (ht hq)
 have hq:¬a.w.p+1>20000:=by have hq:=ao hq;omega
 refine ae (ag 98 I (O (J1 okL I (.head _) I I I I (ab (ag 1 I (J3 ?_))))));refine J7 (Jd [_] I I I I (h1 hq) fun v H' hr=>?_)
 refine ab (ag 6 I (J ?_));refine zaa (J5 I I) ?_;exact hW.add _ _ [_] hr
theorem zoY(X:Mt)(a:MS)(hp:a.w.p≤1000000)(n mn mx:Int)(nm:List UInt8)(st:List (Int×Int))(l:List Pat)(s:Sg)(b:Int)(f2:FuncId)(cap2:List A)(f:FuncId)(cap:List A)(Hb:Heap)(R:A→Heap→Prop)(hW:Wd R)
  (ht:a.w.p+1>20000→R (i64 2) (Hm X (zau a)++Hb))
  (h1:¬a.w.p+1>20000→TrG [] Tryz.prog 235 [X.p,.agg (Pat.mk 9 n mn mx nm st l).C,.agg (sgC s b (.fn f2 [] cap2)),.fn f [] cap] (Hm X (zau a)++Hb) R)
  :TrG [] Tryz.prog 181 [X.p,.agg (Pat.mk 9 n mn mx nm st l).C,.agg (sgC s b (.fn f2 [] cap2)),.fn f [] cap] (Hm X a++Hb) R:=by
 refine Jb (N:=186) Tryz.func181 I I I ?_;rw[zbd,az,az,az];have hw:IntKind.i64.wrap ((a.w.p:Int)+1)=((a.w.p+1:Nat):Int):=by rw[zap ⟨by omega,by omega⟩];omega
 refine ae0 (ag 2 I (O (Jc 5 I I (zab I) I (ab (O (Jk I I (zab I) I I (fun _ _=>(ab (O (Jc 7 I I (zab I) I (ab (ag 8 I (O (J1 okL I (.tail _ (.head _)) I I I I (ab (ag 3 I (O (J8 okL I I I (zab I) I I I (.there .here) I I I (ab (ag 8 I (O (J1 okL I (.tail _ (.head _)) I I I I (ab (ag 3 I (J2 ?_)))))))))))))))))))))))));rename_i r6 _;rw[hw]
 (refine J4 I (fun hq=>?_) (fun hq=>?_))
 ·have hq:a.w.p+1>20000:=by have hq:=aj hq;omega
  refine ae (ag 7 I (J ?_));refine zaa (J5 I I) ?_;exact hW.add _ _ [_] (ht hq)
 have hq:¬a.w.p+1>20000:=by have hq:=ao hq;omega
 refine ae (ag 119 I (O (J1 okL I (.head _) I I I I (ab (ag 1 I (J3 ?_))))));refine J7 (Jd [_] I I I I (h1 hq) fun v H' hr=>?_)
 refine ab (ag 6 I (J ?_));refine zaa (J5 I I) ?_;exact hW.add _ _ [_] hr
theorem zod(X:Mt)(a:MS)(hp:a.w.p≤1000000)(n mn mx:Int)(nm:List UInt8)(st:List (Int×Int))(l:List Pat)(s:Sg)(b:Int)(f2:FuncId)(cap2:List A)(f:FuncId)(cap:List A)(Hb:Heap)(R:A→Heap→Prop)(hW:Wd R)
  (ht:a.w.p+1>20000→R (i64 2) (Hm X (zau a)++Hb))
  (h1:¬a.w.p+1>20000→TrG [] Tryz.prog 236 [X.p,i64 n,.agg (sgC s b (.fn f2 [] cap2)),.fn f [] cap] (Hm X (zau a)++Hb) R)
  :TrG [] Tryz.prog 181 [X.p,.agg (Pat.mk 14 n mn mx nm st l).C,.agg (sgC s b (.fn f2 [] cap2)),.fn f [] cap] (Hm X a++Hb) R:=by
 refine Jb (N:=186) Tryz.func181 I I I ?_;rw[zbd,az,az,az];have hw:IntKind.i64.wrap ((a.w.p:Int)+1)=((a.w.p+1:Nat):Int):=by rw[zap ⟨by omega,by omega⟩];omega
 refine ae0 (ag 2 I (O (Jc 5 I I (zab I) I (ab (O (Jk I I (zab I) I I (fun _ _=>(ab (O (Jc 7 I I (zab I) I (ab (ag 8 I (O (J1 okL I (.tail _ (.head _)) I I I I (ab (ag 3 I (O (J8 okL I I I (zab I) I I I (.there .here) I I I (ab (ag 8 I (O (J1 okL I (.tail _ (.head _)) I I I I (ab (ag 3 I (J2 ?_)))))))))))))))))))))))));rename_i r6 _;rw[hw]
 (refine J4 I (fun hq=>?_) (fun hq=>?_))
 ·have hq:a.w.p+1>20000:=by have hq:=aj hq;omega
  refine ae (ag 7 I (J ?_));refine zaa (J5 I I) ?_;exact hW.add _ _ [_] (ht hq)
 have hq:¬a.w.p+1>20000:=by have hq:=ao hq;omega
 refine ae (ag 127 I (O (J1 okL I (.head _) I I I I (ab (ag 1 I (J3 ?_))))));refine J7 (Jd [_] I I I I (h1 hq) fun v H' hr=>?_)
 refine ab (ag 6 I (J ?_));refine zaa (J5 I I) ?_;exact hW.add _ _ [_] hr
theorem zoO(X:Mt)(a:MS)(hp:a.w.p≤1000000)(n mn mx:Int)(nm:List UInt8)(st:List (Int×Int))(l:List Pat)(s:Sg)(b:Int)(f2:FuncId)(cap2:List A)(f:FuncId)(cap:List A)(Hb:Heap)(R:A→Heap→Prop)(hW:Wd R)
  (ht:a.w.p+1>20000→R (i64 2) (Hm X (zau a)++Hb))
  (h1:¬a.w.p+1>20000→TrG [] Tryz.prog 237 [X.p,i64 n,.agg (sgC s b (.fn f2 [] cap2)),.fn f [] cap] (Hm X (zau a)++Hb) R)
  :TrG [] Tryz.prog 181 [X.p,.agg (Pat.mk 16 n mn mx nm st l).C,.agg (sgC s b (.fn f2 [] cap2)),.fn f [] cap] (Hm X a++Hb) R:=by
 refine Jb (N:=186) Tryz.func181 I I I ?_;rw[zbd,az,az,az];have hw:IntKind.i64.wrap ((a.w.p:Int)+1)=((a.w.p+1:Nat):Int):=by rw[zap ⟨by omega,by omega⟩];omega
 refine ae0 (ag 2 I (O (Jc 5 I I (zab I) I (ab (O (Jk I I (zab I) I I (fun _ _=>(ab (O (Jc 7 I I (zab I) I (ab (ag 8 I (O (J1 okL I (.tail _ (.head _)) I I I I (ab (ag 3 I (O (J8 okL I I I (zab I) I I I (.there .here) I I I (ab (ag 8 I (O (J1 okL I (.tail _ (.head _)) I I I I (ab (ag 3 I (J2 ?_)))))))))))))))))))))))));rename_i r6 _;rw[hw]
 (refine J4 I (fun hq=>?_) (fun hq=>?_))
 ·have hq:a.w.p+1>20000:=by have hq:=aj hq;omega
  refine ae (ag 7 I (J ?_));refine zaa (J5 I I) ?_;exact hW.add _ _ [_] (ht hq)
 have hq:¬a.w.p+1>20000:=by have hq:=ao hq;omega
 refine ae (ag 141 I (O (J1 okL I (.head _) I I I I (ab (ag 1 I (J3 ?_))))));refine J7 (Jd [_] I I I I (h1 hq) fun v H' hr=>?_)
 refine ab (ag 6 I (J ?_));refine zaa (J5 I I) ?_;exact hW.add _ _ [_] hr
theorem zme(X:Mt)(a:MS)(hp:a.w.p≤1000000)(n mn mx:Int)(nm:List UInt8)(st:List (Int×Int))(y:Pat)(s:Sg)(b:Int)(f2:FuncId)(cap2:List A)(f:FuncId)(cap:List A)(Hb:Heap)(R:A→Heap→Prop)(hW:Wd R)
  (ht:a.w.p+1>20000→R (i64 2) (Hm X (zau a)++Hb))
  (hR:∃v H',R v H')
  (h1:¬a.w.p+1>20000→TrG [] Tryz.prog 181 [X.p,.agg y.C,.agg (sgC s b (.fn f2 [] cap2)),.fn 233 [] [.dp [i64 s.at_],.dp (Pat.mk 7 n mn mx nm st [y]).C,.dp [.fn f [] cap]]] (Hm X (zau a)++Hb) R)
  :TrG [] Tryz.prog 181 [X.p,.agg (Pat.mk 7 n mn mx nm st [y]).C,.agg (sgC s b (.fn f2 [] cap2)),.fn f [] cap] (Hm X a++Hb) R:=by
 refine Jb (N:=186) Tryz.func181 I I I ?_;rw[zbd,az,az,az];have hw:IntKind.i64.wrap ((a.w.p:Int)+1)=((a.w.p+1:Nat):Int):=by rw[zap ⟨by omega,by omega⟩];omega
 refine ae0 (ag 2 I (O (Jc 5 I I (zab I) I (ab (O (Jk I I (zab I) I I (fun _ _=>(ab (O (Jc 7 I I (zab I) I (ab (ag 8 I (O (J1 okL I (.tail _ (.head _)) I I I I (ab (ag 3 I (O (J8 okL I I I (zab I) I I I (.there .here) I I I (ab (ag 8 I (O (J1 okL I (.tail _ (.head _)) I I I I (ab (ag 3 I (J2 ?_)))))))))))))))))))))))));rename_i r6 _;rw[hw]
 (refine J4 I (fun hq=>?_) (fun hq=>?_))
 ·have hq:a.w.p+1>20000:=by have hq:=aj hq;omega
  refine ae (ag 7 I (J ?_));refine zaa (J5 I I) ?_;exact hW.add _ _ [_] (ht hq)
 have hq:¬a.w.p+1>20000:=by have hq:=ao hq;omega
 have hd:([y].map Pat.cells)[((0:Nat):Int).toNat]?=some y.C:=by simp[Pat.cells_eq]
 refine ae (ag 104 I (O (J1 okL I (.head _) I I I I (ab (O (Jf okL I I I (fun _ _=>(ab (O (J8 okL I I I (zab I) I I I .here I I I (ab (ag 3 I (J2 ?_)))))))))))));refine dr 13 I (ar _) (Fz.ptr _ _ _) ?_;refine aH hvK (fun _=>.nilp) okL hmix (by kernel_rfl) ?_;refine aa I I I (aa I I I (aa I I I (aa I I (zad I I I I I (am _) (hd) I) (aa I I I (ay I I (.inl I) (J1 okL I (.head _) I I I I (Ja (ah ⟨I,I⟩))) (aa I I I ?_))))));refine aR (R:=fun v H'=>∃H1,R v H1∧H'=(r6,.row 179 25 [(sgC s b (.fn f2 [] cap2))])::H1) rfl rfl rfl (by obtain⟨v,H1,h⟩:=hR;exact⟨v,_,H1,h,I⟩) (Jd [_] I I I I (h1 hq) fun r H' hr=>Ja (ah ⟨H',hr,I⟩)) ?_;rintro v H' ⟨H1,hr,rfl⟩
 (repeat (refine aa I I I ?_))
 refine aF ?_;refine ae (ag 3 I (J ?_));refine zaa (J5 I I) ?_;exact hW.add _ _ [_] hr
theorem zlr(X:Mt)(a:MS)(hp:a.w.p≤1000000)(n mn mx:Int)(nm:List UInt8)(st:List (Int×Int))(y:Pat)(s:Sg)(b:Int)(f2:FuncId)(cap2:List A)(f:FuncId)(cap:List A)(Hb:Heap)(R:A→Heap→Prop)(hW:Wd R)
  (ht:a.w.p+1>20000→R (i64 2) (Hm X (zau a)++Hb))
  (hR:∃v H',R v H')
  (h1:¬a.w.p+1>20000→TrG [] Tryz.prog 234 [X.p,.agg y.C,.agg (sgC s b (.fn f2 [] cap2)),.fn f [] cap] (Hm X (zau a)++Hb) R)
  :TrG [] Tryz.prog 181 [X.p,.agg (Pat.mk 8 n mn mx nm st [y]).C,.agg (sgC s b (.fn f2 [] cap2)),.fn f [] cap] (Hm X a++Hb) R:=by
 refine Jb (N:=186) Tryz.func181 I I I ?_;rw[zbd,az,az,az];have hw:IntKind.i64.wrap ((a.w.p:Int)+1)=((a.w.p+1:Nat):Int):=by rw[zap ⟨by omega,by omega⟩];omega
 refine ae0 (ag 2 I (O (Jc 5 I I (zab I) I (ab (O (Jk I I (zab I) I I (fun _ _=>(ab (O (Jc 7 I I (zab I) I (ab (ag 8 I (O (J1 okL I (.tail _ (.head _)) I I I I (ab (ag 3 I (O (J8 okL I I I (zab I) I I I (.there .here) I I I (ab (ag 8 I (O (J1 okL I (.tail _ (.head _)) I I I I (ab (ag 3 I (J2 ?_)))))))))))))))))))))))));rename_i r6 _;rw[hw]
 (refine J4 I (fun hq=>?_) (fun hq=>?_))
 ·have hq:a.w.p+1>20000:=by have hq:=aj hq;omega
  refine ae (ag 7 I (J ?_));refine zaa (J5 I I) ?_;exact hW.add _ _ [_] (ht hq)
 have hq:¬a.w.p+1>20000:=by have hq:=ao hq;omega
 have hd:([y].map Pat.cells)[((0:Nat):Int).toNat]?=some y.C:=by simp[Pat.cells_eq]
 refine ae (ag 109 I (J2 ?_));refine aH hvK (fun _=>.nilp) okL hmix (by kernel_rfl) ?_;refine aa I I I (aa I I I (aa I I I (aa I I (zad I I I I I (am _) (hd) I) (aa I I I (ay I I (.inl I) (J1 okL I (.head _) I I I I (Ja (ah ⟨I,I⟩))) (aa I I I ?_))))));refine aR (R:=fun v H'=>∃H1,R v H1∧H'=(r6,.row 179 25 [(sgC s b (.fn f2 [] cap2))])::H1) rfl rfl rfl (by obtain⟨v,H1,h⟩:=hR;exact⟨v,_,H1,h,I⟩) (Jd [_] I I I I (h1 hq) fun r H' hr=>Ja (ah ⟨H',hr,I⟩)) ?_;rintro v H' ⟨H1,hr,rfl⟩
 (repeat (refine aa I I I ?_))
 refine aF ?_;refine ae (ag 3 I (J ?_));refine zaa (J5 I I) ?_;exact hW.add _ _ [_] hr
theorem zmV{a kp:Int}{l cs:List (Int×Int)}{b:Int}{acc:A}{n:Int}(hn:1≤n∧n≤9){ti:TI}(ht:lay L 3=some ti):zbw ti (sgL a kp l cs b acc) (0+2+n.toNat*2+0)=some (i64 (zaI l n.toNat).1):=by
 cases ht;rcases nine hn with rfl|rfl|rfl|rfl|rfl|rfl|rfl|rfl|rfl<;>rfl
theorem ziF{a kp:Int}{l cs:List (Int×Int)}{b:Int}{acc:A}{n:Int}(hn:1≤n∧n≤9){ti:TI}(ht:lay L 98=some ti):zbw ti (sgL a kp l cs b acc) (0+2+n.toNat*2)=some (.agg (zaf (zaI l n.toNat))):=by
 cases ht;rcases nine hn with rfl|rfl|rfl|rfl|rfl|rfl|rfl|rfl|rfl<;>rfl
theorem zn8(X:Mt)(a:MS)(hp:a.w.p≤1000000)(n mn mx:Int)(nm:List UInt8)(st:List (Int×Int))(l:List Pat)(s:Sg)(b:Int)(f2:FuncId)(cap2:List A)(f:FuncId)(cap:List A)(Hb:Heap)(R:A→Heap→Prop)(hW:Wd R)
  (ht:a.w.p+1>20000→R (i64 2) (Hm X (zau a)++Hb))
  (RA:Nat→Heap→Prop)
  (hs:¬a.w.p+1>20000→RA 0 (Hm X (zau a)++Hb))
  (hn:∀i y H,l[i]?=some y→RA i H→TrG [] Tryz.prog 181 [X.p,.agg y.C,.agg (sgC s b (.fn f2 [] cap2)),.fn f [] cap] H fun v H'=>∃m,v=i64 m∧(m≠0→R (i64 m) H')∧(m=0→RA (i+1) H'))
  (he:∀H,RA l.length H→R (i64 0) H)
  (hlen:l.length≤60)
  :TrG [] Tryz.prog 181 [X.p,.agg (Pat.mk 5 n mn mx nm st l).C,.agg (sgC s b (.fn f2 [] cap2)),.fn f [] cap] (Hm X a++Hb) R:=by
 refine Jb (N:=186) Tryz.func181 I I I ?_;rw[zbd,az,az,az];have hw:IntKind.i64.wrap ((a.w.p:Int)+1)=((a.w.p+1:Nat):Int):=by rw[zap ⟨by omega,by omega⟩];omega
 refine ae0 (ag 2 I (O (Jc 5 I I (zab I) I (ab (O (Jk I I (zab I) I I (fun _ _=>(ab (O (Jc 7 I I (zab I) I (ab (ag 8 I (O (J1 okL I (.tail _ (.head _)) I I I I (ab (ag 3 I (O (J8 okL I I I (zab I) I I I (.there .here) I I I (ab (ag 8 I (O (J1 okL I (.tail _ (.head _)) I I I I (ab (ag 3 I (J2 ?_)))))))))))))))))))))))));rename_i r6 _;rw[hw]
 (refine J4 I (fun hq=>?_) (fun hq=>?_))
 ·have hq:a.w.p+1>20000:=by have hq:=aj hq;omega
  refine ae (ag 7 I (J ?_));refine zaa (J5 I I) ?_;exact hW.add _ _ [_] (ht hq)
 have hq:¬a.w.p+1>20000:=by have hq:=ao hq;omega
 refine ae (ag 97 I (J2 ?_));refine Jj (α:=Nat×Heap) (fun k=>l.length - k.1) (fun k=>[(0,X.p),(6,.ptr r6 25 0 0),(7,.dp [.fn f [] cap]),(91,.ds (l.map Pat.cells)),(92,i64 (l.map Pat.cells).length),(93,i64 k.1)]) (fun k=>(r6,.row 179 25 [(sgC s b (.fn f2 [] cap2))])::k.2)
  (fun k=>k.1≤l.length∧RA k.1 k.2) (0,Hm X (zau a)++Hb) ⟨aM _,hs hq⟩ ?_ (ar _) ?_
 ·simp only[zaz]
  refine⟨I,I,I,I,I,I,trivial⟩
 rintro⟨k,Hk⟩ ⟨hk,hm⟩ ih;simp only at hk hm;refine ae0 (ag 6 I (J2 ?_))
 (refine J4 I (fun h=>?_) (fun h=>?_))
 ·have h:=aj h
  simp only[ak] at h;obtain⟨y,hy⟩:∃y,l[k]?=some y:=⟨l[k],by simp[show k<l.length by omega]⟩
  have nx:=nxt (k:=k) (n:=l.length) (by omega) (by unfold maxLen;omega);refine ae (ag 6 I (Jo okL (zad I I I I I (by omega) (getC hy) I) I (ag 1 I (O (Jf okL I I I (fun _ _=>(ab (O (J8 okL I I I (zab I) I I I .here I I I (ab (ag 5 I (O (J1 okL I (.head _) I I I I (ab (O (J1 okL I (.tail _ (.head _)) I I I I (ab (ag 1 I (J3 ?_)))))))))))))))))));refine J7 (Jd [_,_] I I I I (hn k y Hk hy hm) fun v H' hr=>?_)
  obtain⟨m,rfl,hr1,hr0⟩:=hr;refine ab (ag 9 I (J2 ?_))
  (refine J4 I (fun g=>?_) (fun g=>?_))
  ·have g:m≠0:=by simpa using g
   refine ae (ag 9 I (J (ax (ag 4 I (J ?_)))));refine zaa (J5 I I) ?_;exact hW.add _ _ [_,_] (hr1 g)
  ·have g:m=0:=by simpa using g
   refine ae (ag 7 I (J (zae ?_)))
   (refine aq 1 (ih ((k+1,H')) (⟨by simp only;omega,hr0 g⟩) (by omega)) ?_ I;exact⟨I,I,I,I,I,ai some nx,trivial⟩)
 ·have h:=ao h
  simp only[ak] at h;have hkk:k=l.length:=by omega
  subst hkk;refine ae (ag 2 I (J (ae (ag 8 I (J ?_)))));refine zaa (J5 I I) ?_;exact hW.add _ _ [_] (he _ hm)
theorem zn4(X:Mt)(a:MS)(hp:a.w.p≤1000000)(n mn mx:Int)(nm:List UInt8)(st:List (Int×Int))(y z:Pat)(s:Sg)(b:Int)(f2:FuncId)(cap2:List A)(f:FuncId)(cap:List A)(Hb:Heap)(R:A→Heap→Prop)(hW:Wd R)
  (ht:a.w.p+1>20000→R (i64 2) (Hm X (zau a)++Hb))
  (hR:∃v H',R v H')
  (hn:1≤n∧n≤9)
  (h1:¬a.w.p+1>20000→(zaI s.caps n.toNat).1≥0→TrG [] Tryz.prog 181 [X.p,.agg y.C,.agg (sgC s b (.fn f2 [] cap2)),.fn f [] cap] (Hm X (zau a)++Hb) R)
  (h2:¬a.w.p+1>20000→¬(zaI s.caps n.toNat).1≥0→TrG [] Tryz.prog 181 [X.p,.agg z.C,.agg (sgC s b (.fn f2 [] cap2)),.fn f [] cap] (Hm X (zau a)++Hb) R)
  :TrG [] Tryz.prog 181 [X.p,.agg (Pat.mk 15 n mn mx nm st [y,z]).C,.agg (sgC s b (.fn f2 [] cap2)),.fn f [] cap] (Hm X a++Hb) R:=by
 refine Jb (N:=186) Tryz.func181 I I I ?_;rw[zbd,az,az,az];have hw:IntKind.i64.wrap ((a.w.p:Int)+1)=((a.w.p+1:Nat):Int):=by rw[zap ⟨by omega,by omega⟩];omega
 refine ae0 (ag 2 I (O (Jc 5 I I (zab I) I (ab (O (Jk I I (zab I) I I (fun _ _=>(ab (O (Jc 7 I I (zab I) I (ab (ag 8 I (O (J1 okL I (.tail _ (.head _)) I I I I (ab (ag 3 I (O (J8 okL I I I (zab I) I I I (.there .here) I I I (ab (ag 8 I (O (J1 okL I (.tail _ (.head _)) I I I I (ab (ag 3 I (J2 ?_)))))))))))))))))))))))));rename_i r6 _;rw[hw]
 (refine J4 I (fun hq=>?_) (fun hq=>?_))
 ·have hq:a.w.p+1>20000:=by have hq:=aj hq;omega
  refine ae (ag 7 I (J ?_));refine zaa (J5 I I) ?_;exact hW.add _ _ [_] (ht hq)
 have hq:¬a.w.p+1>20000:=by have hq:=ao hq;omega
 have hd:([y,z].map Pat.cells)[((0:Nat):Int).toNat]?=some y.C:=by simp[Pat.cells_eq]
 have hd1:([y,z].map Pat.cells)[((1:Nat):Int).toNat]?=some z.C:=by simp[Pat.cells_eq]
 refine ae (ag 135 I (Jo okL (zaC I I I I I (bm (by decide:(0:Int)≤1) hn.1) (Int.lt_of_le_of_lt hn.2 (by decide))) I (Jo okL (zaC I I I I I (am _) (by decide)) I (J3 ?_))));refine J7 (J1 okL I (.head _) I I (zmV hn I) I ?_)
 refine ab (ag 3 I (J2 ?_))
 (refine J4 I (fun g=>?_) (fun g=>?_))
 ·have g:(zaI s.caps n.toNat).1≥0:=aj g
  refine ae (ag 1 I (J2 ?_));refine aH hvK (fun _=>.nilp) okL hmix (by kernel_rfl) ?_;refine aa I I I (aa I I I (aa I I I (aa I I (zad I I I I I (am _) (hd) I) (aa I I I (ay I I (.inl I) (J1 okL I (.head _) I I I I (Ja (ah ⟨I,I⟩))) (aa I I I ?_))))));refine aR (R:=fun v H'=>∃H1,R v H1∧H'=(r6,.row 179 25 [(sgC s b (.fn f2 [] cap2))])::H1) rfl rfl rfl (by obtain⟨v,H1,h⟩:=hR;exact⟨v,_,H1,h,I⟩) (Jd [_] I I I I (h1 hq g) fun r H' hr=>Ja (ah ⟨H',hr,I⟩)) ?_;rintro v H' ⟨H1,hr,rfl⟩
  (repeat (refine aa I I I ?_))
  refine aF ?_;refine ae (ag 4 I (J ?_));refine zaa (J5 I I) ?_;exact hW.add _ _ [_] hr
 ·have g:¬(zaI s.caps n.toNat).1≥0:=ao g
  refine ae (ag 3 I (J2 ?_));refine aH hvK (fun _=>.nilp) okL hmix (by kernel_rfl) ?_;refine aa I I I (aa I I I (aa I I I (aa I I (zad I I I I I (by omega) (hd1) I) (aa I I I (ay I I (.inl I) (J1 okL I (.head _) I I I I (Ja (ah ⟨I,I⟩))) (aa I I I ?_))))));refine aR (R:=fun v H'=>∃H1,R v H1∧H'=(r6,.row 179 25 [(sgC s b (.fn f2 [] cap2))])::H1) rfl rfl rfl (by obtain⟨v,H1,h⟩:=hR;exact⟨v,_,H1,h,I⟩) (Jd [_] I I I I (h2 hq g) fun r H' hr=>Ja (ah ⟨H',hr,I⟩)) ?_;rintro v H' ⟨H1,hr,rfl⟩
  (repeat (refine aa I I I ?_))
  refine aF ?_;refine ae (ag 3 I (J ?_));refine zaa (J5 I I) ?_;exact hW.add _ _ [_] hr
theorem zof(X:Mt)(a:MS)(hp:a.w.p≤1000000)(n mn mx:Int)(nm:List UInt8)(st:List (Int×Int))(l:List Pat)(s:Sg)(b:Int)(f2:FuncId)(cap2:List A)(f:FuncId)(cap:List A)(Hb:Heap)(R:A→Heap→Prop)(hW:Wd R)
  (ht:a.w.p+1>20000→R (i64 2) (Hm X (zau a)++Hb))
  (RC:Int→Heap→Prop)
  (hn:1≤n∧n≤9)
  (hC:¬a.w.p+1>20000→∃t H',RC t H')
  (hc:¬a.w.p+1>20000→TrG [] Tryz.prog 229 [X.p,.agg (zaf (zaI s.caps n.toNat)),i64 s.at_] (Hm X (zau a)) fun v H'=>∃t,v=i64 t∧RC t H')
  (h0:∀t H',t<0→RC t H'→R (i64 0) (H'++Hb)) (h1:∀t H',¬t<0→RC t H'→TrG [] Tryz.prog f ([.agg (sgC {s with at_:=t} b (.fn f2 [] cap2))]++cap) (H'++Hb) R)
  :TrG [] Tryz.prog 181 [X.p,.agg (Pat.mk 10 n mn mx nm st l).C,.agg (sgC s b (.fn f2 [] cap2)),.fn f [] cap] (Hm X a++Hb) R:=by
 refine Jb (N:=186) Tryz.func181 I I I ?_;rw[zbd,az,az,az];have hw:IntKind.i64.wrap ((a.w.p:Int)+1)=((a.w.p+1:Nat):Int):=by rw[zap ⟨by omega,by omega⟩];omega
 refine ae0 (ag 2 I (O (Jc 5 I I (zab I) I (ab (O (Jk I I (zab I) I I (fun _ _=>(ab (O (Jc 7 I I (zab I) I (ab (ag 8 I (O (J1 okL I (.tail _ (.head _)) I I I I (ab (ag 3 I (O (J8 okL I I I (zab I) I I I (.there .here) I I I (ab (ag 8 I (O (J1 okL I (.tail _ (.head _)) I I I I (ab (ag 3 I (J2 ?_)))))))))))))))))))))))));rename_i r6 _;rw[hw]
 (refine J4 I (fun hq=>?_) (fun hq=>?_))
 ·have hq:a.w.p+1>20000:=by have hq:=aj hq;omega
  refine ae (ag 7 I (J ?_));refine zaa (J5 I I) ?_;exact hW.add _ _ [_] (ht hq)
 have hq:¬a.w.p+1>20000:=by have hq:=ao hq;omega
 refine ae (ag 60 I (J2 ?_));refine aH hvK (fun _=>.nilp) okL hmix (by kernel_rfl) ?_;refine aa I I I (aa I I I (aa I I I (aa I I I (aa I I (zaC I I I I I (bm (by decide:(0:Int)≤1) hn.1) (Int.lt_of_le_of_lt hn.2 (by decide))) ?_))));refine ay I I (.inl I) (J1 okL I (.head _) I I (ziF hn I) I (Ja (ah ⟨I,I⟩))) ?_;refine aa I I I (ay I I (.inl I) (J1 okL I (.head _) I I I I (Ja (ah ⟨I,I⟩))) ?_)
 refine aR (R:=fun v H'=>∃t H1,v=i64 t∧RC t H1∧H'=(r6,.row 179 25 [(sgC s b (.fn f2 [] cap2))])::(H1++Hb)) rfl rfl rfl (by obtain⟨t,H1,h⟩:=hC hq;exact⟨_,_,t,H1,I,h,I⟩) (Jn [_] Hb I I I I (hc hq) fun r H' hr=>?_) ?_
 ·obtain⟨t,e,h⟩:=hr
  exact Ja (ah ⟨t,H',e,h,I⟩)
 rintro v H' ⟨t,H1,rfl,hr,rfl⟩
 (repeat (refine aa I I I ?_))
 refine aF ?_;refine ae (ag 7 I (J2 ?_))
 (refine J4 I (fun g=>?_) (fun g=>?_))
 ·have g:t<0:=aj g
  refine ae (ag 9 I (J ?_));refine zaa (J5 I I) ?_;exact hW.add _ _ [_] (h0 t H1 g hr)
 ·have g:¬t<0:=ao g
  refine ae (ag 5 I (O (J8 okL I I I (zab I) I I I .here I I I (ab (ag 6 I (O (J1 okL I (.head _) I I I I (ab (J3 ?_)))))))));refine J7 (Jd [_] I I I I (h1 t H1 g hr) fun v H' hr=>?_)
  refine ab (ag 4 I (J ?_));refine zaa (J5 I I) ?_;exact hW.add _ _ [_] hr
theorem TrG.wide{G:List (Nat×List A)}{P:Program}{f:FuncId}{args:List A}{H H0 Gb:Heap}{R:A→Heap→Prop}(hp:H.Perm (Gb++H0))(h:TrG G P f args H0 R):TrG G P f args H fun v H'=>∃H1,R v H1∧H'.Perm (Gb++H1):=by
 have hp2:H.Perm (H0++Gb):=hp.trans aN;have k:=h.frame Gb;refine⟨k.can,fun fr w vs s g av=>?_⟩;have e:=zaS (fr:=fr) hp2;rw[e] at g av;refine(k.run fr w vs (s.perm hp2) g av).mono ?_;rintro e' w' ⟨r,H',v,rfl,⟨H1,hR,rfl⟩,s',hr,x⟩;exact⟨r,H1++Gb,v,I,⟨H1,hR,aN⟩,s',hr,x.perm hp2⟩
theorem TrG.pre{G:List (Nat×List A)}{P:Program}{f:FuncId}{args:List A}{H H0:Heap}{R:A→Heap→Prop}(hp:H.Perm H0)(h:TrG G P f args H0 R):TrG G P f args H R:=by
 refine⟨h.can,fun fr w vs s g av=>?_⟩;have e:=zaS (fr:=fr) hp;rw[e] at g av;refine(h.run fr w vs (s.perm hp) g av).mono ?_;rintro e' w' ⟨r,H',v,rfl,hR,s',hr,x⟩;exact⟨r,H',v,I,hR,s',hr,x.perm hp⟩
theorem Wd.wide{R:A→Heap→Prop}(h:Wd R){v:A}{H' Gb H1:Heap}(hr:R v H1)(hp:H'.Perm (Gb++H1)):R v H':=h.perm _ _ _ hp.symm (h.add _ _ _ hr)
theorem zdy(V:Wide)(X:Mt)(Z:Bs)(bs:List Int)(a:MS)(o:BOut)(w':Wk):Wd (zaU V X Z bs a o w') where
 perm v H H' hp:=fun⟨a',G,h1,h2,h3,h4,h5⟩=>⟨a',G,h1,h2,h3,h4,hp.symm.trans h5⟩
 add v H Gb:=fun⟨a',G,h1,h2,h3,h4,h5⟩=>⟨a',Gb++G,h1,h2,h3,h4,by rw[aI];exact h5.append_left Gb⟩
theorem zaw(rec:Task→Wk→BRes)(t:Task)(w:Wk):(Tm.last t w).eval rec=rec t w:=by
 simp only[Tm.last,Tm.eval];cases rec t w<;>rfl
theorem zbg{rec:Task→Wk→BRes}{t:Task}{w:Wk}{f:BOut×Wk→Tm}{r:BOut×Wk}(h:(Tm.ask t w f).eval rec=some r):∃o1 w1,rec t w=some (o1,w1)∧(f (o1,w1)).eval rec=some r:=by
 simp only[Tm.eval,bC] at h;obtain⟨⟨o1,w1⟩,h1,h2⟩:=h;exact⟨o1,w1,h1,h2⟩
theorem zat{rec:Task→Wk→BRes}{q r:BOut×Wk}(h:(Tm.ret q).eval rec=some r):q=r:=by
 simp only[Tm.eval,aY] at h;exact h
structure Prog(V:Wide)(X:Mt)(B:Bk)(g:Int)(N:Nat):Prop where
 hB:BOk g N B
 tau:B.tau=tauP
 hN:N≤1000000
 isChar:∀(a:MS) (x:Pat) (p:Int),MOk V X a→Vd g x→(x.op=1∨x.op=2∨x.op=3)→0≤p→p≤N→TrG [] Tryz.prog 227 [X.p,.agg x.C,i64 p] (Hm X a) fun v H'=>v=.bool (B.takes x p)∧∃a' G,a'.w=a.w∧a'.brd=a.brd∧MOk V X a'∧H'.Perm (G++Hm X a')
 holds:∀(a:MS) (x:Pat) (p:Int),MOk V X a→Vd g x→(x.op=11∨x.op=12∨x.op=13)→0≤p→p≤N→TrG [] Tryz.prog 228 [X.p,.agg x.C,i64 p] (Hm X a) fun v H'=>v=.bool (B.holds x p)∧∃a' G,a'.w=a.w∧a'.brd=a.brd∧MOk V X a'∧H'.Perm (G++Hm X a')
 again:∀(a:MS) (c:Int×Int) (p:Int),MOk V X a→((c.1=-1∧c.2=-1)∨(0≤c.1∧c.1≤c.2∧c.2≤(N:Int)))→0≤p→p≤N→TrG [] Tryz.prog 229 [X.p,.agg (zaf c),i64 p] (Hm X a) fun v H'=>v=i64 (if B.copied c p<0 then -1 else p+B.copied c p)∧∃a' G,a'.w=a.w∧a'.brd=a.brd∧MOk V X a'∧H'.Perm (G++Hm X a')
 lens:∀y,Vd g y→∃hi,B.least y≤1000000000000000000∧PTr Tryz.prog 288 [.agg y.C] (.tup [i64 (B.least y),i64 hi])
 body:∀n,0≤n→n≤g→∃i,zbC (i64 n) X.ge=some (some (i,.agg (B.body n).C))
 bit:∀n,B.bit n=bitM X.mask n
structure BaseOk(V:Wide)(X:Mt)(B:Bk)(N:Nat)(f0:Fm)(b:Int)(Z:Bs):Prop where
 fn:∃f cap,Z.v=.fn f [] cap
 go:∀(s:Sg) (a:MS),SOk N s→MOk V X a→a.w.p≤20000→∀o w',goS B s a.w [f0]=.ret (o,w')→zln [] Tryz.prog Z.v [.agg (sgC s b Z.v)] (Hm X a++Z.Hb a.w.acc none) (zaU V X Z [b] a o w')
def zbs(f0:Fm)(k:List Fm):Prop:=k.getLast?=some f0
theorem zbs.cons{f0 f:Fm}{k:List Fm}(h:zbs f0 k):zbs f0 (f::k):=by
 unfold zbs at*;rw[List.getLast?_cons,h];rfl
theorem zbs.tail{f0 f:Fm}{k:List Fm}(h:zbs f0 (f::k))(hb:KB k):zbs f0 k:=by
 unfold zbs at*;cases k with
 |nil=>exact hb.elim
 |cons a k=>simpa using h
theorem zbs.barr{f0:Fm}:∀{k:List Fm},KB k→zbs f0 k→zbs f0 (barr k)
 |[],hb,h=>hb.elim
 |.call s::k,hb,h=>h
 |.stop w::k,hb,h=>h
 |.fin::k,hb,h=>h
 |.cat _ _::k,hb,h=>zbs.barr (k:=k) (hb.tail I) (h.tail (hb.tail I))
 |.turn _ _ _::k,hb,h=>zbs.barr (k:=k) (hb.tail I) (h.tail (hb.tail I))
 |.group _ _::k,hb,h=>zbs.barr (k:=k) (hb.tail I) (h.tail (hb.tail I))
theorem zec(X:Mt)(v:A):∀(k:List Fm) (bs:List Int),(encK X v bs (barr k)).1=(encK X v bs k).2∧(encK X v bs (barr k)).2=(encK X v bs k).2
 |[],bs=>⟨rfl,rfl⟩
 |.call s::k,bs=>⟨rfl,rfl⟩
 |.stop w::k,bs=>⟨rfl,rfl⟩
 |.fin::k,bs=>⟨rfl,rfl⟩
 |.cat _ _::k,bs=>zec X v k bs
 |.turn _ _ _::k,bs=>zec X v k bs
 |.group _ _::k,bs=>zec X v k bs
section
variable{V:Wide}{X:Mt}{B:Bk}{g:Int}{N:Nat}
def AllM(V:Wide)(X:Mt)(B:Bk)(g:Int)(N n:Nat):Prop:=
 ∀f0 b0 Z,BaseOk V X B N f0 b0 Z→∀t bs a o w',zaJ B a.w→TOk g N t a.w→zbs f0 t.k→bs.getLast?=some b0→MOk V X a→BrOk bs t.k a→brun B n t a.w=some (o,w')→ConM V X Z t bs a o w'
theorem znn(hP:Prog V X B g N){w:Wk}(h:zaJ B w):w.p≤20000:=by
 unfold zaJ at h;rw[hP.tau] at h;have:=ao h;omega
theorem BrOk.mono{bs:List Int}{k k':List Fm}{a a':MS}(h:BrOk bs k a)(hl:lvl k'=lvl k)(hb:a.brd≤a'.brd):BrOk bs k' a':=
 ⟨by rw[hl];exact h.len,fun b hb'=>⟨(h.le b hb').1,bm (h.le b hb').2 hb⟩,h.nd⟩
theorem zov{v:A}{f:FuncId}{cap args:List A}{H:Heap}{R:A→Heap→Prop}(hv:v=.fn f [] cap)(h:zln [] Tryz.prog v args H R):TrG [] Tryz.prog f (args++cap) H R:=by
 obtain⟨f',first,cap',e,k⟩:=h;rw[hv] at e;cases e;exact k
theorem zds{v:A}{f:FuncId}{cap args:List A}{H:Heap}{R:A→Heap→Prop}(hv:v=.fn f [] cap)(h:TrG [] Tryz.prog f (args++cap) H R):zln [] Tryz.prog v args H R:=⟨f,[],cap,hv,h⟩
theorem zaU.back{Z:Bs}{bs:List Int}{a a1:MS}{o:BOut}{w':Wk}{v:A}{H:Heap}(hb:a.brd≤a1.brd)(h:zaU V X Z bs a1 o w' v H):zaU V X Z bs a o w' v H:=by
 obtain⟨a',G,h1,h2,h3,h4,h5⟩:=h;exact⟨a',G,h1,h2,bm hb h3,h4,h5⟩
theorem zmv{bs:List Int}{k:List Fm}{a:MS}{c:Nat}{o:BOut}(hbr:BrOk bs k a)(hc:∀j,o=.cut j→1≤j∧j≤bs.length)(h:o≠ .no):outI bs o≠0:=by
 cases o with
 |no=>exact absurd rfl h
 |yes s=>simp[outI]
 |tired=>simp[outI]
 |cut j=>
  have hj:=hc j I;have:bs.getD (bs.length - j) 0∈bs:=by
   rw[List.getD_eq_getElem?_getD,List.getElem?_eq_getElem (by omega),bT];exact bz _
  have:=(hbr.le _ this).1;simp only[outI];omega
end
section
variable{V:Wide}{X:Mt}{B:Bk}{g:Int}{N:Nat}
theorem za2{a:Int}{c:Nat}{t:Task}{w:Wk}{f:BOut×Wk→Tm}(h:Tm.Ok g N B a c (.ask t w f)):TOk g N t w∧zaJ B w:=by cases h with|ask _ _ _ h1 h2 _=>exact⟨h1,h2⟩
theorem zeB{a:Int}{c:Nat}{t:Task}{w:Wk}{f:BOut×Wk→Tm}(h:Tm.Ok g N B a c (.ask t w f)):∀o w',ROk N B t.s.at_ (lvl t.k) w o w'→Tm.Ok g N B a c (f (o,w')):=by cases h with|ask _ _ _ _ _ h3=>exact h3
theorem fn_of(Z:Bs)(hz:∃f cap,Z.v=.fn f [] cap)(bs:List Int)(k:List Fm):∃f cap f2 cap2,(encK X Z.v bs k).1=.fn f [] cap∧(encK X Z.v bs k).2=.fn f2 [] cap2:=by
 obtain⟨⟨f,cap,h1⟩,f2,cap2,h2⟩:=zho X hz bs k;exact⟨f,cap,f2,cap2,h1,h2⟩
theorem zbh{n:Nat}(hP:Prog V X B g N){t:Task}{w:Wk}{o:BOut}{w':Wk}(hf:zaJ B w)(ht:TOk g N t w)(h:brun B n t w=some (o,w')):ROk N B t.s.at_ (lvl t.k) w o w':=zhT hP.hB n t w o w' hf ht h
theorem zej{n:Nat}{Z:Bs}{bs:List Int}{a a1:MS}{t:Task}{o:BOut}{w':Wk}(ha:MOk V X a)(h:brun B n t a1.w=some (o,w'))(hc:a1.w.codes.length≤100)(hp:a.w.p≤a1.w.p):∃v H',zaU V X Z bs a o w' v H':=by
 have hg:=zbv B n t a1.w o w' h;unfold Wk.le at hg;exact⟨_,_,⟨w',a.brd,a.bg,some 0,a.we⟩,[],I,⟨(fun h=>nomatch h),zd4 B n t a1.w o w' h hc,⟨ha.brd.1,by have:=ha.brd.2;show a.brd≤(w'.p:Int);omega⟩,ha.we⟩,am _,I,ar _⟩
theorem zos{n:Nat}(hA:AllM V X B g N n){f0:Fm}{b0:Int}{Z:Bs}(hz:BaseOk V X B N f0 b0 Z){k:List Fm}{bs:List Int}{a a1:MS}{s':Sg}{o:BOut}{w':Wk}{f f2:FuncId}{cap cap2:List A}
  (e1:(encK X Z.v bs k).1=.fn f [] cap) (e2:(encK X Z.v bs k).2=.fn f2 [] cap2) (hl:zbs f0 k) (hb0:bs.getLast?=some b0) (hbr:BrOk bs k a) (hbrd:a.brd≤a1.brd) (ha1:MOk V X a1) (ht:TOk g N (.go k s') a1.w) (hf:zaJ B a1.w)
  (hr:brun B n (.go k s') a1.w=some (o,w')) {H Gb:Heap} (hp:H.Perm (Gb++(Hm X a1++Z.Hb a1.w.acc none))):TrG [] Tryz.prog f ([.agg (sgC s' (bs.headD 0) (.fn f2 [] cap2))]++cap) H (zaU V X Z bs a o w'):=by
 have h:=hA f0 b0 Z hz (.go k s') bs a1 o w' hf ht hl hb0 ha1 (hbr.mono I hbrd) hr;have h:zln [] Tryz.prog (encK X Z.v bs k).1 [.agg (encS X Z.v s' bs k)] (Hm X a1++Z.Hb a1.w.acc none) (zaU V X Z bs a1 o w'):=h;unfold encS at h;rw[e2] at h;exact(TrG.wide hp (zov e1 h)).mono fun v H' ⟨H1,k1,k2⟩=>((zdy V X Z bs a o w').wide (k1.back hbrd) k2)
theorem zdm{n:Nat}(hA:AllM V X B g N n){f0:Fm}{b0:Int}{Z:Bs}(hz:BaseOk V X B N f0 b0 Z){k:List Fm}{bs:List Int}{a a1:MS}{y:Pat}{s':Sg}{o:BOut}{w':Wk}(hl:zbs f0 k)(hb0:bs.getLast?=some b0)(hbr:BrOk bs k a1)(hbrd:a.brd≤a1.brd)(ha1:MOk V X a1)(ht:TOk g N (.try_ y s' k) a1.w)(hf:zaJ B a1.w)
  (hr:brun B n (.try_ y s' k) a1.w=some (o,w')) {H Gb:Heap} (hp:H.Perm (Gb++(Hm X a1++Z.Hb a1.w.acc none))):TrG [] Tryz.prog 181 [X.p,.agg y.C,.agg (encS X Z.v s' bs k),(encK X Z.v bs k).1] H (zaU V X Z bs a o w'):=by
 have h:=hA f0 b0 Z hz (.try_ y s' k) bs a1 o w' hf ht hl hb0 ha1 hbr hr;exact(TrG.wide hp h).mono fun v H' ⟨H1,k1,k2⟩=>((zdy V X Z bs a o w').wide (zaU.back hbrd k1) k2)
theorem zdw{n:Nat}(hA:AllM V X B g N n){f0:Fm}{b0:Int}{Z:Bs}(hz:BaseOk V X B N f0 b0 Z){k:List Fm}{bs:List Int}{a a1:MS}{x:Pat}{many:Int}{s':Sg}{o:BOut}{w':Wk}(hl:zbs f0 k)(hb0:bs.getLast?=some b0)(hbr:BrOk bs k a1)(hbrd:a.brd≤a1.brd)(ha1:MOk V X a1)(ht:TOk g N (.turn x many s' k) a1.w)(hf:zaJ B a1.w)
  (hr:brun B n (.turn x many s' k) a1.w=some (o,w')) {H Gb:Heap} (hp:H.Perm (Gb++(Hm X a1++Z.Hb a1.w.acc none))):TrG [] Tryz.prog 286 [X.p,.agg (zb1 x).C,i64 many,.agg (encS X Z.v s' bs k),(encK X Z.v bs k).1] H (zaU V X Z bs a o w'):=by
 have h:=hA f0 b0 Z hz (.turn x many s' k) bs a1 o w' hf ht hl hb0 ha1 hbr hr;exact(TrG.wide hp h).mono fun v H' ⟨H1,k1,k2⟩=>((zdy V X Z bs a o w').wide (zaU.back hbrd k1) k2)
def zkX(b want:Int)(re:Nat):Option Sg→List A
 |none=>zhn
 |some s=>sgC s b (accC want re)
def ze5(b want:Int)(re:Nat):Bs:=⟨accC want re,fun _ o=>[(re,.row 179 25 [zkX b want re o])]⟩
theorem zcw(b want:Int)(re:Nat):BaseOk V X B N (.stop want) b (ze5 b want re) where
 fn:=⟨_,_,I⟩
 go s a hs ha hp o w' h:=by
  refine⟨_,[],_,I,?_⟩;refine TrG.pre (H0:=(re,.row 179 25 [zhn])::Hm X a) aN ?_;have h:(if want≥0∧want≠s.at_ then Tm.ret (.no,a.w) else Tm.ret (.yes s,a.w))=.ret (o,w'):=h
  refine zmg want re zhn s b _ _ (Hm X a) _ I (fun hc=>?_) (fun hc=>?_)
  ·rw[af hc] at h
   cases h;exact⟨a,[],I,ha,am _,I,aN (l₁:=[_])⟩
  ·rw[ac hc] at h
   cases h;exact⟨a,[],I,ha,am _,I,aN (l₁:=[_])⟩
def outA:BOut→Int
 |.no=>0
 |.yes _=>1
 |.cut _=>0
 |.tired=>2
def ziG(V:Wide)(X:Mt)(want:Int)(a1:MS)(o1:BOut)(w1:Wk)(m:Int)(e:List A)(H':Heap):Prop:=
 ∃b re a2 G,e=zkX b want re (outS o1)∧m=outA o1∧a2.w=w1∧MOk V X a2∧a1.brd≤a2.brd∧H'.Perm (G++Hm X a2)
theorem zfk(b want:Int)(re:Nat)(o:Option Sg):(zkX b want re o).length=25∧zan (zkX b want re o)=true:=by cases o<;>exact⟨I,I⟩
theorem zdk(want:Int)(s0:Sg)(b:Int)(f2:FuncId)(cap2:List A){a1:MS}(ha1:MOk V X a1)(hp:a1.w.p≤20001)(hbp:a1.brd+1≤a1.w.p){o1:BOut}{w1:Wk}(hcut:∀j,o1=.cut j→j=1)(fi:FuncId)(capi:List A)
  (h:∀b' re a',b'=a1.brd+1→a'={a1 with brd:=a1.brd+1}→MOk V X a'→BrOk [b'] [.stop want] a'→
   TrG [] Tryz.prog fi ([.agg (sgC s0 b' (accC want re)),accC want re]++capi) (Hm X a'++(ze5 b' want re).Hb a'.w.acc none) (zaU V X (ze5 b' want re) [b'] a' o1 w1)):
  TrG [] Tryz.prog 289 [X.p,.agg (sgC s0 b (.fn f2 [] cap2)),i64 want,.fn fi [] capi] (Hm X a1) fun v H'=>∃m e,v=.tup [.agg e,i64 m]∧e.length=25∧zan e=true∧ziG V X want a1 o1 w1 m e H':=by
 have hb0:=ha1.brd;refine zou X a1 ⟨hb0.1,by omega⟩ want s0 b f2 cap2 fi capi _ ⟨?_,?_⟩
  (fun re n e Hx=>n=outI [a1.brd+1] o1∧e=zkX (a1.brd+1) want re (outS o1)∧∃a2 G,a2.w=w1∧MOk V X a2∧a1.brd+1≤a2.brd∧Hx.Perm (G++Hm X a2)) (fun re=>?_) ?_
 ·rintro v H H' hpm ⟨m,e,h1,h2,h3,b,re,a2,G,h4,h5,h6,h7,h8,h9⟩
  exact⟨m,e,h1,h2,h3,b,re,a2,G,h4,h5,h6,h7,h8,hpm.symm.trans h9⟩
 ·rintro v H Gb ⟨m,e,h1,h2,h3,b,re,a2,G,h4,h5,h6,h7,h8,h9⟩
  exact⟨m,e,h1,h2,h3,b,re,a2,Gb++G,h4,h5,h6,h7,h8,by rw[aI];exact h9.append_left _⟩
 ·have hm:MOk V X {a1 with brd:=a1.brd+1}:=⟨ha1.g,ha1.codes,⟨by show 0≤a1.brd+1;omega,hbp⟩,ha1.we⟩
  have k:=h (a1.brd+1) re {a1 with brd:=a1.brd+1} I I hm ⟨I,fun b hb=>by rw[List.mem_singleton.1 hb];exact⟨by omega,am _⟩,by simp⟩
  refine(TrG.pre (aN (l₁:=[_])) k).mono ?_;rintro v H' ⟨a2,G,h1,h2,h3,h4,h5⟩;refine⟨_,zkX (a1.brd+1) want re (outS o1),G++Hm X a2,h4,?_,(zfk ..).1,(zfk ..).2,I,I,a2,G,h1,h2,h3,ar _⟩;refine h5.trans ?_;rw[←aI];exact aN (l₂:=[_])
 ·rintro re n e Hx ⟨rfl,rfl,a2,G,h1,h2,h3,h4⟩
  refine⟨_,_,I,(zfk ..).1,(zfk ..).2,a1.brd+1,re,a2,G,I,?_,h1,h2,by omega,h4⟩
  cases o1 with
  |no=>exact ac (show¬(0:Int)=3+(a1.brd+1) by omega)
  |yes s=>exact ac (show¬(1:Int)=3+(a1.brd+1) by omega)
  |tired=>exact ac (show¬(2:Int)=3+(a1.brd+1) by omega)
  |cut j=>
   have:=hcut j I;subst this;exact af I
end
end Go.Proofs.YtpopmiodjibljaaGreatDoor
namespace Go.Bk
open Go Go.Abs
def TSim(a b:Pat)(t t':Task):Prop:=t=t'∨∃s k,t=.try_ a s k∧t'=.try_ b s k
inductive TmS(a b:Pat):Tm→Tm→Prop
 |ret (o:BOut) (w w':Wk):TmS a b (.ret (o,w)) (.ret (o,w'))
 |ask (t t':Task) (w w':Wk) (f f':BOut×Wk→Tm) (h:TSim a b t t') (hf:∀o w w',TmS a b (f (o,w)) (f' (o,w'))):TmS a b (.ask t w f) (.ask t' w' f')
def finN:List Fm→Nat
 |[]=>0
 |.fin::k=>finN k+1
 |.cat _ _::k=>finN k
 |.turn _ _ _::k=>finN k
 |.group _ _::k=>finN k
 |.call _::k=>finN k
 |.stop _::k=>finN k
def Task.wt:Task→Nat
 |.go k _=>finN k
 |.turn _ _ _ k=>finN k
 |_=>0
def Wk.d(w:Wk):Int:=(w.acc.length:Int) - w.r
inductive Tm.Acc:Int→Tm→Prop
 |ret {b:Int} (o:BOut) (w:Wk) (h:w.d≤b):Tm.Acc b (.ret (o,w))
 |ask {b:Int} (t:Task) (w:Wk) (f:BOut×Wk→Tm) (ht:finN t.k≤1) (hw:w.d+t.wt≤b) (hf:∀o w',w'.d≤w.d+t.wt→Tm.Acc b (f (o,w'))):Tm.Acc b (.ask t w f)
theorem Tm.Acc.last{t:Task}{w:Wk}{b:Int}(ht:finN t.k≤1)(h:w.d+t.wt≤b):Tm.Acc b (.last t w):=.ask t w _ ht h fun o w' e=>.ret o w' (by omega)
theorem Tm.Acc.ite{b:Int}{c:Prop}[Decidable c]{x y:Tm}(hx:Tm.Acc b x)(hy:Tm.Acc b y):Tm.Acc b (if c then x else y):=by
 split
 ·exact hx
 ·exact hy
theorem zfi:∀k:List Fm,finN (barr k)=finN k
 |[]=>rfl
 |.call s::k=>rfl
 |.stop w::k=>rfl
 |.fin::k=>rfl
 |.cat _ _::k=>zfi k
 |.turn _ _ _::k=>zfi k
 |.group _ _::k=>zfi k
theorem zl5{k:List Fm}(h:finN k≤1)(s:Sg)(o:BOut){w:Wk}{b:Int}(hb:w.d+finN k≤b):Tm.Acc b (thenS k s (o,w)):=by
 cases o<;>first|exact .last (t:=.go k _) h hb|exact .ret _ _ (by omega)
theorem ziH{k:List Fm}(h:finN k≤1)(x:Pat)(s:Sg)(o:BOut){w:Wk}{b:Int}(hb:w.d+finN k≤b):Tm.Acc b (zbj x k s (o,w)):=by
 cases o<;>simp only[zbj]<;>(try refine .ite ?_ ?_)<;>first|exact .last (t:=.go k _) h hb|exact .ret _ _ (by omega)
theorem zlL(k:List Fm)(o:BOut){w:Wk}{b:Int}(hb:w.d≤b):Tm.Acc b (zdP k (o,w)):=by
 cases o<;>simp only[zdP]<;>(try refine .ite ?_ ?_)<;>exact .ret _ _ hb
theorem znh(k:List Fm)(o:BOut){w:Wk}{b:Int}(hb:w.d≤b):Tm.Acc b (zhd k (o,w)):=by
 cases o<;>exact .ret _ _ hb
theorem zfB{f:Wk→Tm}(o:BOut){w:Wk}{b:Int}(hb:w.d≤b)(hf:Tm.Acc b (f w)):Tm.Acc b (zdR f (o,w)):=by
 cases o<;>first|exact hf|exact .ret _ _ hb
theorem zku{k:List Fm}(h:finN k≤1)(x:Pat)(n:Nat)(s:Sg){w:Wk}{b:Int}(hb:w.d+finN k≤b):Tm.Acc b (catS x n s k w):=by
 unfold catS;split
 ·exact .last (t:=.try_ _ s (.cat x (n+1)::k)) h (by show w.d+0≤b;omega)
 ·exact .last (t:=.go k s) h hb
theorem zh3{k:List Fm}(h:finN k≤1)(x:Pat)(m:Int)(s:Sg){w:Wk}{b:Int}(hb:w.d+finN k≤b):Tm.Acc b (zcm x m s k w):=by
 have more:∀w:Wk,w.d≤b→Tm.Acc b (if x.max<0∨m<x.max then .last (.try_ (fstL x.l) s (.turn x m s.at_::k)) w else .ret (.no,w)):=fun w hw=>.ite (.last (t:=.try_ _ s (.turn x m s.at_::k)) h (by show w.d+0≤b;omega)) (.ret _ _ hw)
 have endk:∀w:Wk,w.d+finN k≤b→Tm.Acc b (if m≥x.min then .last (.go k s) w else .ret (.no,w)):=fun w hw=>.ite (.last (t:=.go k s) h hw) (.ret _ _ (by omega))
 unfold zcm;refine .ite (.ite ?_ (more w (by omega))) (.ite ?_ (endk w hb))
 ·exact .ask (.go k s) _ _ h hb fun o w' e=>zfB o (bm e hb) (more w' (bm e hb))
 ·exact .ask (.try_ _ s (.turn x m s.at_::k)) _ _ h (by show w.d+0≤b;omega) fun o w' e=>zfB o (by have e:w'.d≤w.d+0:=e;omega) (endk w' (by have e:w'.d≤w.d+0:=e;omega))
theorem zm5(x:Pat)(w:Wk):(zbB x w).d=w.d:=by unfold zbB;split<;>rfl
theorem zfe(B:Bk){t:Task}(h:finN t.k≤1)(w:Wk):Tm.Acc (w.d+t.wt) (runS B t w):=by
 cases t with
 |turn x m s k=>exact zh3 h x m s (am _)
 |alts l s k=>
  cases l with
  |nil=>exact .ret _ _ (by show w.d≤w.d+0;omega)
  |cons y l=>exact .ask (.try_ y s k) _ _ h (am _) fun o w' e=>zfB o e (.last (t:=.alts l s k) h (by have e:w'.d≤w.d+0:=e;show w'.d+0≤w.d+0;omega))
 |go k s=>
  cases k with
  |nil=>exact .ret _ _ (by show w.d≤w.d+0;omega)
  |cons f k=>
   cases f with
   |cat x n=>exact zku (k:=k) h x n s (w:=w) (am _)
   |turn x many fr=>exact .ite (.ret _ _ (by show w.d≤w.d+((finN k:Nat):Int);omega)) (.last (t:=.turn x (many+1) s k) h (am _))
   |group x fr=>exact .last (t:=.go k _) h (am _)
   |call o=>exact .last (t:=.go k _) h (am _)
   |stop want=>exact .ite (.ret _ _ (by show w.d≤w.d+((finN k:Nat):Int);omega)) (.ret _ _ (by show w.d≤w.d+((finN k:Nat):Int);omega))
   |fin=>
    have e:∀w':Wk,w'.r=w.r→w'.acc=w.acc++[s.at_]→w'.d≤w.d+((finN k+1:Nat):Int):=fun w' e1 e2=>by unfold Wk.d;rw[e1,e2,aT,bc];omega
    exact .ite (.ret _ _ (e _ I I)) (.ret _ _ (e _ I I))
 |try_ x s k=>
  have h:finN k≤1:=h;simp only[runS];have e0:(tick w).d+1≤w.d:=by show((w.acc.length:Int) - ((w.r+1:Nat):Int))+1≤(w.acc.length:Int) - w.r;omega
  have e1:∀w1:Wk,w1.r=w.r+1→w1.acc=w.acc→w1.d+1≤w.d:=fun w1 h1 h2=>by unfold Wk.d;rw[h1,h2];omega
  have eq:w.d+(Task.try_ x s k).wt=w.d:=by show w.d+0=w.d;omega
  rw[eq];have hk:(tick w).d+finN k≤w.d:=by omega
  have hr:(tick w).d≤w.d:=by omega
  refine .ite (.ret _ _ hr) ?_;have Rn:∀{o:BOut},Tm.Acc w.d (.ret (o,tick w)):=.ret _ _ hr;have go:∀{k':List Fm} {s:Sg},finN k'=finN k→Tm.Acc w.d (.last (.go k' s) (tick w)):=fun {k' s} e=>.last (t:=.go k' s) (by show finN k'≤1;omega) (by show(tick w).d+finN k'≤w.d;rw[e];exact hk)
  have tr:∀{y:Pat} {s:Sg} {k':List Fm},finN k'≤1→Tm.Acc w.d (.last (.try_ y s k') (tick w)):=fun {y s k'} e=>.last (t:=.try_ y s k') e (by show(tick w).d+0≤w.d;omega)
  have st:∀(t:Task) (w1:Wk),finN t.k≤1→t.wt=0→w1.d+1≤w.d→Tm.Acc w.d (.ask t w1 (thenS k s)):=fun t w1 ht h0 e1=>.ask t w1 _ ht (by omega) fun o w' e=>zl5 h s o (by omega);unfold zaF;refine .ite (.ite (go I) Rn) (.ite (zku h x 0 s hk) (.ite (.last (t:=.alts x.l s k) h (by show(tick w).d+0≤w.d;omega)) (.ite (.ite (st (.turn (zcE x) 0 s [.stop (-1)]) _ (by simp[Task.k,finN]) I e0) (.last (t:=.turn x 0 s k) h hk)) (.ite (tr (k':=.group x s.at_::k) h) (.ite (.ite ?_ (st (.try_ _ s [.stop (-1)]) _ (by simp[Task.k,finN]) I e0)) (.ite (.ite ?_ ?_) (.ite (.ite Rn (go I)) (.ite (.ite (go I) Rn) (.ite (.ite Rn ?_) (.ite (.ite (tr h) (tr h)) (.ite (.ite Rn (.ite (go (zfi k)) ?_)) (.ite (.ite ?_ ?_) (.ite (go I) (go I))))))))))))))
  ·exact .ite (.ret _ _ (by refine bm (Int.le_add_one (am _)) (e1 _ ?_ ?_)<;>rfl)) (st (.turn _ 0 s [.stop (-1)]) _ (by simp[Task.k,finN]) I (e1 _ I I))
  ·exact ziH h x s .no hk
  ·exact .ask (.try_ _ _ [.stop _]) _ _ (by simp[finN,Task.k]) (by show(tick w).d+0≤w.d;omega) fun o w' e=>ziH h x s o (by have e:w'.d≤(tick w).d+0:=e;omega)
  ·exact .ask (.try_ _ _ (.call s::k)) _ _ h (by show(tick w).d+0≤w.d;omega) fun o w' e=>zlL k o (by have e:w'.d≤(tick w).d+0:=e;omega)
  ·exact .ask (.go k s) _ _ h hk fun o w' e=>znh k o (by have e:w'.d≤(tick w).d+((finN k:Nat):Int):=e;omega)
  ·exact .last (t:=.go k s) h (by rw[zm5];exact hk)
  ·exact .ret _ _ (by rw[zm5];exact hr)
theorem zoQ{rec:Task→Wk→BRes}(h:∀t w o w',finN t.k≤1→rec t w=some (o,w')→w'.d≤w.d+t.wt):∀{t:Tm} {b:Int} {o:BOut} {w':Wk},Tm.Acc b t→t.eval rec=some (o,w')→w'.d≤b:=by
 intro t
 induction t with
 |ret r=>
  intro b o w' hk e;cases hk with
  |ret o1 w1 h1=>simp only[Tm.eval,aY,b5] at e;rw[←e.2];exact h1
 |ask t w1 f ih=>
  intro b o w' hk e;cases hk with
  |ask _ _ _ ht _ hf=>
   simp only[Tm.eval,bC] at e;obtain⟨⟨o2,w2⟩,e1,e2⟩:=e;exact ih _ (hf o2 w2 (h _ _ _ _ ht e1)) e2
theorem zmm(B:Bk):∀(n:Nat) (t:Task) (w:Wk) (o:BOut) (w':Wk),finN t.k≤1→brun B n t w=some (o,w')→w'.d≤w.d+t.wt
 |0,t,w,o,w',_,h=>by cases h
 |n+1,t,w,o,w',ht,h=>zoQ (zmm B n) (zfe B ht w) h
theorem zc4:∀{k:List Fm},KB k→finN k≤1
 |[],h=>h.elim
 |[.fin],_=>au _
 |[.stop _],_=>aM _
 |.cat _ _::k,h=>zc4 (k:=k) (h.tail I)
 |.turn _ _ _::k,h=>zc4 (k:=k) (h.tail I)
 |.group _ _::k,h=>zc4 (k:=k) (h.tail I)
 |.call _::k,h=>zc4 (k:=k) (h.tail I)
 |.fin::a::k,h=>by cases h.1
 |.stop _::a::k,h=>by cases h.1
end Go.Bk
namespace Go.Proofs.YtpopmiodjibljaaGreatDoor
open Go Go.Abs Go.Bk
def opA:List (Int×Int)→A
 |[]=>.nilp
 |c::l=>.dp [i64 c.1,i64 c.2,opA l,i64 0]
def stL(a kp:Int)(l:List (Int×Int))(c:A):List A:=[i64 a,i64 kp,i64 (zaI l 0).1,i64 (zaI l 0).2,i64 (zaI l 1).1,i64 (zaI l 1).2,i64 (zaI l 2).1,i64 (zaI l 2).2,i64 (zaI l 3).1,i64 (zaI l 3).2,i64 (zaI l 4).1,i64 (zaI l 4).2,i64 (zaI l 5).1,i64 (zaI l 5).2,i64 (zaI l 6).1,i64 (zaI l 6).2,i64 (zaI l 7).1,i64 (zaI l 7).2,i64 (zaI l 8).1,i64 (zaI l 8).2,i64 (zaI l 9).1,i64 (zaI l 9).2,c]
def stC(s:Sg):List A:=stL s.at_ s.keep s.caps (opA s.calls)
def zSt:List A:=[i64 0,i64 0,i64 0,i64 0,i64 0,i64 0,i64 0,i64 0,i64 0,i64 0,i64 0,i64 0,i64 0,i64 0,i64 0,i64 0,i64 0,i64 0,i64 0,i64 0,i64 0,i64 0,.nilp]
def zSg:Sg:=⟨0,0,List.replicate 10 (0,0),[]⟩
def zP:List A:=[i64 0,i64 0,i64 0,i64 0,.str [],.nils,.nils]
def fmC(kd:Int)(x:List A)(n fr:Int)(sv:List A)(nx:A):List A:=[i64 kd]++x++[i64 n,i64 fr]++sv++[nx]
def kp(ids:List Nat):A:=.ptr (ids.headD 0) 34 0 0
def thru:Fm→Bool
 |.cat x n=>decide (x.l.length≤n)
 |_=>false
def fmA(ids:List Nat):Fm→List A
 |.cat x n=>fmC 1 x.C n 0 zSt (kp ids)
 |.turn x many fr=>fmC 2 x.C many fr zSt (kp ids)
 |.group x fr=>fmC 3 zP x.n fr zSt (kp ids)
 |.call o=>fmC 4 zP 0 0 (stC o) (kp ids)
 |.stop w=>fmC 5 zP 0 w zSt .nilp
 |.fin=>fmC 0 zP 0 0 zSt .nilp
def Hk:List Nat→List Fm→Heap
 |_,[]=>[]
 |ids,f::k=>if thru f=true then Hk ids k else (ids.headD 0,.row 171 34 [fmA ids.tail f])::Hk ids.tail k
def szK:List Fm→Nat
 |[]=>0
 |f::k=>if thru f=true then szK k else szK k+1
theorem zhh:∀(k:List Fm) (ids:List Nat),ids.length=szK k→keys (Hk ids k)=ids
 |[],ids,h=>by rw[szK,List.length_eq_zero_iff] at h;rw[h];rfl
 |f::k,ids,h=>by
  unfold szK at h;unfold Hk;by_cases ht:thru f=true
  ·rw[af ht] at h ⊢
   exact zhh k ids h
  ·rw[ac ht] at h ⊢
   cases ids with
   |nil=>cases h
   |cons b ids=>show b::keys (Hk ids k)=b::ids;rw[zhh k ids (by simpa using h)]
def bid:List Nat→List Fm→Nat→Nat
 |_,[],_=>0
 |ids,.call _::k,j=>if j=lvl k+1 then ids.headD 0 else bid ids.tail k j
 |ids,.stop _::_,_=>ids.headD 0
 |ids,.fin::_,_=>ids.headD 0
 |ids,.cat x n::k,j=>if x.l.length≤n then bid ids k j else bid ids.tail k j
 |ids,.turn _ _ _::k,j=>bid ids.tail k j
 |ids,.group _ _::k,j=>bid ids.tail k j
theorem znQ{x:Pat}{n:Nat}(h:thru (.cat x n)=true):x.l.length≤n:=aj h
theorem zoR{x:Pat}{n:Nat}(h:¬thru (.cat x n)=true):¬x.l.length≤n:=fun e=>h (aA e)
theorem zfE{ids:List Nat}{x:Pat}{n:Nat}{k:List Fm}{j:Nat}(h:thru (.cat x n)=true):bid ids (.cat x n::k) j=bid ids k j:=by rw[bid,af (znQ h)]
theorem zew{ids:List Nat}{x:Pat}{n:Nat}{k:List Fm}{j:Nat}(h:¬thru (.cat x n)=true):bid ids (.cat x n::k) j=bid ids.tail k j:=by rw[bid,ac (zoR h)]
theorem zdN:∀(k:List Fm) (ids:List Nat) (j:Nat),KB k→ids.length=szK k→bid ids k j∈ids
 |[],ids,j,h,_=>h.elim
 |f::k,ids,j,h,hl=>by
  unfold szK at hl;cases f with
  |call o=>
   rw[ac (by simp[thru])] at hl;cases ids with
   |nil=>cases hl
   |cons b ids=>
    simp only[bid];split
    ·exact aE
    ·exact aB _ (zdN k ids j (h.tail I) (by simpa using hl))
  |stop w=>
   rw[ac (by simp[thru])] at hl;cases ids with
   |nil=>cases hl
   |cons b ids=>exact aE
  |fin=>
   rw[ac (by simp[thru])] at hl;cases ids with
   |nil=>cases hl
   |cons b ids=>exact aE
  |turn x m fr=>
   rw[ac (by simp[thru])] at hl;cases ids with
   |nil=>cases hl
   |cons b ids=>exact aB _ (zdN k ids j (h.tail rfl) (by simpa using hl))
  |group x fr=>
   rw[ac (by simp[thru])] at hl;cases ids with
   |nil=>cases hl
   |cons b ids=>exact aB _ (zdN k ids j (h.tail rfl) (by simpa using hl))
  |cat x n=>
   by_cases ht:thru (.cat x n)=true
   ·rw[af ht] at hl
    rw[zfE ht];exact zdN k ids j (h.tail I) hl
   ·rw[ac ht] at hl
    cases ids with
    |nil=>cases hl
    |cons b ids=>
     rw[zew ht];exact aB _ (zdN k ids j (h.tail I) (by simpa using hl))
def nrm:List Fm→List Fm
 |[]=>[]
 |f::k=>if thru f=true then nrm k else f::k
theorem zj6:∀(k:List Fm) (ids:List Nat),Hk ids (nrm k)=Hk ids k
 |[],_=>rfl
 |f::k,ids=>by
  unfold nrm;by_cases ht:thru f=true
  ·rw[af ht,zj6 k ids,show Hk ids (f::k)=Hk ids k by rw[Hk,af ht]]
  ·rw[ac ht]
theorem zg7{f:Fm}(h:thru f=true):∃x n,f=.cat x n∧x.l.length≤n:=by
 cases f with
 |cat x n=>exact⟨x,n,rfl,aj h⟩
 |_=>cases h
theorem zib:∀{k:List Fm},KB k→KB (nrm k)
 |[],h=>h
 |f::k,h=>by
  unfold nrm;by_cases ht:thru f=true
  ·rw[af ht]
   obtain⟨x,n,rfl,_⟩:=zg7 ht;exact zib (h.tail I)
  ·rw[ac ht];exact h
theorem ziA:∀k:List Fm,szK (nrm k)=szK k
 |[]=>rfl
 |f::k=>by
  unfold nrm;by_cases ht:thru f=true
  ·rw[af ht,ziA k,show szK (f::k)=szK k by rw[szK,af ht]]
  ·rw[ac ht]
theorem zfx:∀k:List Fm,(nrm k).length≤k.length
 |[]=>au _
 |f::k=>by
  unfold nrm;split
  ·have:=zfx k;simp only[aX];omega
  ·exact au _
def bIds:List Nat→List Fm→List Nat
 |ids,[]=>ids
 |ids,.call o::k=>ids
 |ids,.stop w::k=>ids
 |ids,.fin::k=>ids
 |ids,.cat x n::k=>if thru (.cat x n)=true then bIds ids k else bIds ids.tail k
 |ids,.turn _ _ _::k=>bIds ids.tail k
 |ids,.group _ _::k=>bIds ids.tail k
theorem zf6:∀(k:List Fm) (ids:List Nat),∃F,Hk ids k=F++Hk (bIds ids k) (barr k)
 |[],ids=>⟨[],rfl⟩
 |.call o::k,ids=>⟨[],rfl⟩
 |.stop w::k,ids=>⟨[],rfl⟩
 |.fin::k,ids=>⟨[],rfl⟩
 |.cat x n::k,ids=>by
  by_cases ht:thru (.cat x n)=true
  ·obtain⟨F,h⟩:=zf6 k ids
   exact⟨F,by rw[Hk,af ht,h,bIds,af ht];rfl⟩
  ·obtain⟨F,h⟩:=zf6 k ids.tail
   exact⟨_::F,by rw[Hk,ac ht,h,bIds,ac ht];rfl⟩
 |.turn x m fr::k,ids=>by
  obtain⟨F,h⟩:=zf6 k ids.tail;exact⟨_::F,by rw[Hk,ac (by simp[thru]),h,bIds];rfl⟩
 |.group x fr::k,ids=>by
  obtain⟨F,h⟩:=zf6 k ids.tail;exact⟨_::F,by rw[Hk,ac (by simp[thru]),h,bIds];rfl⟩
theorem zd1:∀(k:List Fm) (ids:List Nat) (j:Nat),bid (bIds ids k) (barr k) j=bid ids k j
 |[],ids,j=>rfl
 |.call o::k,ids,j=>rfl
 |.stop w::k,ids,j=>rfl
 |.fin::k,ids,j=>rfl
 |.cat x n::k,ids,j=>by
  by_cases ht:thru (.cat x n)=true
  ·rw[bIds,af ht,show barr (.cat x n::k)=barr k from rfl,zd1 k ids j]
   rw[zfE ht]
  ·rw[bIds,ac ht,show barr (.cat x n::k)=barr k from rfl,zd1 k ids.tail j]
   rw[zew ht]
 |.turn x m fr::k,ids,j=>by
  rw[bIds,show barr (.turn x m fr::k)=barr k from rfl,zd1 k ids.tail j]
  rfl
 |.group x fr::k,ids,j=>by
  rw[bIds,show barr (.group x fr::k)=barr k from rfl,zd1 k ids.tail j]
  rfl
theorem zf2:∀(k:List Fm) (ids:List Nat),ids.length=szK k→(bIds ids k).length=szK (barr k)
 |[],ids,h=>h
 |.call o::k,ids,h=>h
 |.stop w::k,ids,h=>h
 |.fin::k,ids,h=>h
 |.cat x n::k,ids,h=>by
  unfold szK at h;by_cases ht:thru (.cat x n)=true
  ·rw[af ht] at h
   rw[bIds,af ht];exact zf2 k ids h
  ·rw[ac ht] at h
   rw[bIds,ac ht];exact zf2 k ids.tail (by rw[dh];omega)
 |.turn x m fr::k,ids,h=>by
  unfold szK at h;rw[ac (by simp[thru])] at h;exact zf2 k ids.tail (by rw[dh];omega)
 |.group x fr::k,ids,h=>by
  unfold szK at h;rw[ac (by simp[thru])] at h;exact zf2 k ids.tail (by rw[dh];omega)
structure Rt where
 m:Nat
 al:Nat
 en:Option Nat
 x:Pat
 fl:List UInt8
 s:List Nat
 row:Int
 most:Int
 whole:Bool
structure RS where
 w:Wk
 td:Bool
 cg:Option Nat
 bar:A
 fd:Sg
 fr:Int
 ae:List (Option (List Int))
def alE:Option (List Int)→List A
 |none=>[.nils]
 |some l=>[.ds (l.map zC)]
def Rt.p(X:Rt):A:=.ptr X.m 44 0 0
def Rt.enA(X:Rt):A:=match X.en with|none=>.nils|some e=>.os e 1 0 (X.s.length+1)
def Rt.ways(X:Rt)(w:Wk):Int:=match X.en with|none=>0|some _=>w.acc.length
def zc2(n:Nat)(acc:List Int):List (List A):=(List.range (n+1)).map fun(i:Nat)=>[A.bool (decide ((i:Int)∈acc))]
def rC(X:Rt)(a:RS):List A:=X.x.C++[.str X.fl,.ds (X.s.map nC),.os X.al 1 0 X.s.length,i64 a.w.r,.bool a.td,.int .u64 X.row,outV 1 a.cg a.w.codes.length,a.bar]++stC a.fd++[X.enA,i64 (X.ways a.w),i64 X.most,.bool X.whole,i64 a.fr,.bool false]
def Rt.enH(X:Rt)(w:Wk):Heap:=match X.en with|none=>[]|some e=>[(e,.row 4 1 (zc2 X.s.length w.acc))]
def Hr(X:Rt)(a:RS):Heap:=(X.m,.row 111 44 [rC X a])::(X.al,.row 47 1 (a.ae.map alE))::(X.enH a.w++outH 3 1 a.cg (a.w.codes.map zC))
def outR:BOut→Int
 |.no=>0
 |.yes _=>1
 |.tired=>0
 |.cut _=>2
structure Alk where
 ok:List (Option (List Int))→Prop
structure RM(V:Alk)(X:Rt)(a:RS):Prop where
 g:a.cg=none→a.w.codes=[]
 codes:a.w.codes.length≤100
 ae:V.ok a.ae
def zaE(V:Alk)(X:Rt)(ids:List Nat)(k:List Fm)(o:BOut)(w':Wk):A→Heap→Prop:=fun v H'=>
 ∃a' G,a'.w=w'∧RM V X a'∧v=i64 (outR o)∧(a'.td=true↔o=.tired)∧(∀e,o=.yes e→a'.fd=e)∧(∀j,o=.cut j→a'.bar=.ptr (bid ids k j) 34 0 0)∧H'.Perm (G++(Hr X a'++Hk ids k))
def ConR(V:Alk)(X:Rt)(t:Task)(ids:List Nat)(a:RS)(o:BOut)(w':Wk):Prop:=
 match t with
 |.try_ x s k=>TrG [] Tryz.prog 124 [X.p,.agg x.C,.agg (stC s),kp ids] (Hr X a++Hk ids k) (zaE V X ids k o w')
 |.go k s=>TrG [] Tryz.prog 173 [X.p,kp ids,.agg (stC s)] (Hr X a++Hk ids k) (zaE V X ids k o w')
 |.turn x many s k=>TrG [] Tryz.prog 175 [X.p,.agg x.C,i64 many,.agg (stC s),kp ids] (Hr X a++Hk ids k) (zaE V X ids k o w')
 |.alts _ _ _=>True
theorem zaZ(X:Rt)(a:RS):Hr X a=(X.m,.row 111 44 [rC X a])::(X.al,.row 47 1 (a.ae.map alE))::(X.enH a.w++outH 3 1 a.cg (a.w.codes.map zC)):=rfl
def zai(a:RS):RS:={a with w:=tick a.w,td:=decide (a.w.r+1>80000)}
theorem za9(X:Rt)(a:RS)(hr:a.w.r≤1000000)(ht:a.td=false):TrG [] Tryz.prog 171 [X.p] (Hr X a) fun v H'=>v=.bool (!(zai a).td)∧H'=Hr X (zai a):=by
 refine Jb (N:=23) Tryz.func171 I I I ?_;have hw:IntKind.i64.wrap ((a.w.r:Int)+1)=((a.w.r+1:Nat):Int):=by rw[zap ⟨by omega,by omega⟩];omega
 obtain⟨w,td,cg,bar,fd,fr,ae⟩:=a;have ht:td=false:=ht;subst ht;rw[zaZ];refine ae0 (ag 10 I (O (J1 okL I (.head _) I I I I (ab (ag 3 I (O (J8 okL I I I (zab I) I I I .here I I I (ab (ag 8 I (O (J1 okL I (.head _) I I I I (ab (ag 3 I (J2 ?_))))))))))))));rw[hw]
 (refine J4 I (fun h=>?_) (fun h=>?_))
 ·have h:=aj h
  have e:zai ⟨w,false,cg,bar,fd,fr,ae⟩=⟨tick w,true,cg,bar,fd,fr,ae⟩:=by unfold zai;rw[aA (by omega)]
  rw[e];refine ae0 (ag 4 I (O (J8 okL I I I (zab I) I I I .here I I I (ab (ag 1 I (J (ax (ag 6 I (O (J1 okL I (.head _) I I I I (ab (ag 5 I (J ?_)))))))))))));refine zaa (J5 I I) ?_;exact⟨I,I⟩
 ·have h:=ao h
  have e:zai ⟨w,false,cg,bar,fd,fr,ae⟩=⟨tick w,false,cg,bar,fd,fr,ae⟩:=by unfold zai;rw[aG (by omega)]
  rw[e];refine ae0 (ag 1 I (J (ax (ag 6 I (O (J1 okL I (.head _) I I I I (ab (ag 5 I (J ?_)))))))));refine zaa (J5 I I) ?_;exact⟨I,I⟩
theorem zmG(X:Rt)(y:Pat)(s:Sg)(want:Int)(H:Heap)(R:A→Heap→Prop)(R1:Nat→A→Heap→Prop)(hI:∀b v H',R1 b v H'→∃n,v=i64 n)
  (h:∀b,TrG [] Tryz.prog 124 [X.p,.agg y.C,.agg (stC s),.ptr b 34 0 0] ((b,.row 171 34 [fmC 5 zP 0 want zSt .nilp])::H) (R1 b)) (h1:∀b n H',R1 b (i64 n) H'→R (.bool (n==1)) H'):
  TrG [] Tryz.prog 222 [X.p,.agg y.C,.agg (stC s),i64 want] H R:=by
 refine Jb (N:=19) Tryz.func222 I I I ?_;refine ae0 (ag 2 I (O (Jc 5 I I (zab I) I (ab (O (Jc 6 I I (zab I) I (ab (ag 7 I (O (Jk I I (zab I) I I (fun _ _=>(ab (ag 9 I (J3 ?_))))))))))))));rename_i b _;refine J7 (Ji I I I (h b) fun v H' hr=>?_)
 obtain⟨n,rfl⟩:=hI b v H' hr;refine ab (ag 5 I (J ?_));refine zaa (J5 I I) ?_;exact h1 b n H' hr
theorem zfN:∀k:List Fm,nrm (nrm k)=nrm k
 |[]=>rfl
 |f::k=>by
  by_cases ht:thru f=true
  ·rw[show nrm (f::k)=nrm k by rw[nrm,af ht]];exact zfN k
  ·rw[show nrm (f::k)=f::k by rw[nrm,ac ht],nrm,ac ht]
theorem zee:∀(k:List Fm) (ids:List Nat),bIds ids (nrm k)=bIds ids k
 |[],_=>rfl
 |f::k,ids=>by
  by_cases ht:thru f=true
  ·obtain⟨x,n,rfl,_⟩:=zg7 ht
   rw[show nrm (.cat x n::k)=nrm k by rw[nrm,af ht],zee k ids,bIds,af ht]
  ·rw[show nrm (f::k)=f::k by rw[nrm,ac ht]]
def blkF(b:Nat)(ids:List Nat)(f:Fm):Nat×Blk:=(b,.row 171 34 [fmA ids f])
theorem zcn{f:Fm}(h:¬thru f=true)(ids:List Nat)(k:List Fm):Hk ids (f::k)=blkF (ids.headD 0) ids.tail f::Hk ids.tail k:=by rw[Hk,ac h];rfl
theorem zms{f:Fm}(h:thru f=true)(ids:List Nat)(k:List Fm):Hk ids (f::k)=Hk ids k:=by rw[Hk,af h]
theorem zkO(ids:List Nat)(k:List Fm)(hb:KB k)(hl:ids.length=szK k):TrG [] Tryz.prog 226 [kp ids] (Hk ids k) fun v H'=>v=kp (bIds ids k)∧H'.Perm (Hk ids k):=by
 refine Jb (N:=27) Tryz.func226 I I I ?_;refine ae0 (ag 7 I (J2 ?_));refine Jj (α:=List Nat×List Fm×Heap) (fun a=>a.2.1.length) (fun a=>[(0,kp a.1)]) (fun a=>Hk a.1 a.2.1++a.2.2) (fun a=>KB a.2.1∧nrm a.2.1=a.2.1∧bIds a.1 a.2.1=bIds ids k∧a.1.length=szK a.2.1∧(Hk a.1 a.2.1++a.2.2).Perm (Hk ids k)) (ids,nrm k,[])
  ⟨zib hb,zfN k,zee k ids,by simp only;rw[ziA];exact hl,by simp only[aQ];rw[zj6]⟩ ?_ (by simp only[aQ];rw[zj6]) ?_
 ·simp only[zaz]
  refine⟨I,trivial⟩
 rintro⟨js,q,F⟩ ⟨h1,h2,h3,h4,h5⟩ ih;simp only at h1 h2 h3 h4 h5;cases q with
 |nil=>exact h1.elim
 |cons f q=>
  have ht:¬thru f=true:=fun e=>by
   rw[nrm,af e] at h2;have:=zfx q;rw[h2,aX] at this;omega
  rw[zcn ht] at h5;simp only;rw[zcn ht,az];have hlen:js.tail.length=szK q:=by
   rw[szK,ac ht] at h4;rw[dh];omega
  have hperm:∀{x:Nat×Blk},(x::(Hk js.tail q++F)).Perm (Hk js.tail (nrm q)++x::F):=fun {x}=>by rw[zj6];exact List.perm_middle.symm
  cases f with
  |call o=>
   refine ae0 (ag 6 I (O (J1 okL I (.head _) I I I I (ab (ag 5 I (Jg I I I (J1 okL I (.head _) I I I I (ab (ag 14 I (J (ae (ag 7 I (J ?_)))))))))))));refine zaa (J5 I I) ?_;exact⟨by rw[←h3];rfl,h5⟩
  |stop w=>
   refine ae0 (ag 6 I (O (J1 okL I (.head _) I I I I (ab (ag 5 I (Jg I I I (J1 okL I (.head _) I I I I (ab (ag 6 I (Jg I I I (J1 okL I (.head _) I I I I (ab (ag 7 I (J (ae (ag 7 I (J ?_)))))))))))))))));refine zaa (J5 I I) ?_;exact⟨by rw[←h3];rfl,h5⟩
  |fin=>
   refine ae0 (ag 6 I (O (J1 okL I (.head _) I I I I (ab (ag 20 I (J (ae (ag 7 I (J ?_)))))))));refine zaa (J5 I I) ?_;exact⟨by rw[←h3];rfl,h5⟩
  |cat x n=>
   have hb3:bIds js.tail q=bIds ids k:=by rw[←h3,bIds,ac ht]
   refine ae0 (ag 6 I (O (J1 okL I (.head _) I I I I (ab (ag 5 I (Jg I I I (J1 okL I (.head _) I I I I (ab (ag 6 I (Jg I I I (J1 okL I (.head _) I I I I (ab (ag 12 I (O (J1 okL I (.head _) I I I I (ab (ag 3 I (J (zae ?_)))))))))))))))))));have hnl:=zfx q;have hlc:(Fm.cat x n::q).length=q.length+1:=rfl;refine AIn.perm hperm ?_
   (refine aq 0 (ih ((js.tail,nrm q,blkF (js.headD 0) js.tail (.cat x n)::F)) (⟨zib (h1.tail I),zfN q,by simp only;rw[zee];exact hb3,by simp only;rw[ziA];exact hlen,hperm.symm.trans h5⟩) (by(simp only;omega))) ?_ I;exact⟨I,trivial⟩)
  |turn x m fr=>
   have hb3:bIds js.tail q=bIds ids k:=by rw[←h3,bIds]
   refine ae0 (ag 6 I (O (J1 okL I (.head _) I I I I (ab (ag 5 I (Jg I I I (J1 okL I (.head _) I I I I (ab (ag 6 I (Jg I I I (J1 okL I (.head _) I I I I (ab (ag 12 I (O (J1 okL I (.head _) I I I I (ab (ag 3 I (J (zae ?_)))))))))))))))))));have hnl:=zfx q;have hlc:(Fm.turn x m fr::q).length=q.length+1:=rfl;refine AIn.perm hperm ?_
   (refine aq 0 (ih ((js.tail,nrm q,blkF (js.headD 0) js.tail (.turn x m fr)::F)) (⟨zib (h1.tail I),zfN q,by simp only;rw[zee];exact hb3,by simp only;rw[ziA];exact hlen,hperm.symm.trans h5⟩) (by(simp only;omega))) ?_ I;exact⟨I,trivial⟩)
  |group x fr=>
   have hb3:bIds js.tail q=bIds ids k:=by rw[←h3,bIds]
   refine ae0 (ag 6 I (O (J1 okL I (.head _) I I I I (ab (ag 5 I (Jg I I I (J1 okL I (.head _) I I I I (ab (ag 6 I (Jg I I I (J1 okL I (.head _) I I I I (ab (ag 12 I (O (J1 okL I (.head _) I I I I (ab (ag 3 I (J (zae ?_)))))))))))))))))));have hnl:=zfx q;have hlc:(Fm.group x fr::q).length=q.length+1:=rfl;refine AIn.perm hperm ?_
   (refine aq 0 (ih ((js.tail,nrm q,blkF (js.headD 0) js.tail (.group x fr)::F)) (⟨zib (h1.tail I),zfN q,by simp only;rw[zee];exact hb3,by simp only;rw[ziA];exact hlen,hperm.symm.trans h5⟩) (by(simp only;omega))) ?_ I;exact⟨I,trivial⟩)
def Mid(X:Rt)(R1:Int→RS→Heap→Prop):A→Heap→Prop:=fun v H'=>∃n a1 H1,v=i64 n∧R1 n a1 H1∧H'.Perm (Hr X a1++H1)
def refK(o:Oper):Nat:=match o.op with
 |.box .. =>4
 |.load .. =>1
 |.call {callee:=.value _,.. }=>2
 |_=>0
set_option maxHeartbeats 4000000 in
theorem turn_lazy(X:Rt)(x y:Pat)(hl:x.l=[y])(hn:x.n=1)(many:Int)(s:Sg)(kb:Nat)(H:Heap)(R:A→Heap→Prop)(R1 R2:Int→RS→Heap→Prop)(S:Heap→Prop)
  (hR2:∃v H',Mid X R2 v H')
  (h1:many≥x.min→TrG [] Tryz.prog 173 [X.p,.ptr kb 34 0 0,.agg (stC s)] H (Mid X R1))
  (h1a:∀n a1 H1 H',R1 n a1 H1→H'.Perm (Hr X a1++H1)→(n≠0∨a1.td=true)→R (i64 n) H')
  (h1b:∀a1 H1,R1 0 a1 H1→a1.td=false→S (Hr X a1++H1)) (h1c:¬many≥x.min→S H)
  (h2:∀H2,S H2→(x.max<0∨many<x.max)→∀b,TrG [] Tryz.prog 124 [X.p,.agg y.C,.agg (stC s),.ptr b 34 0 0] ((b,.row 171 34 [fmC 2 x.C many s.at_ zSt (.ptr kb 34 0 0)])::H2) (Mid X R2))
  (h2a:∀n a1 H1 H',R2 n a1 H1→H'.Perm (Hr X a1++H1)→R (i64 n) H') (h0:∀H2,S H2→¬(x.max<0∨many<x.max)→R (i64 0) H2):
  TrG [] Tryz.prog 175 [X.p,.agg x.C,i64 many,.agg (stC s),.ptr kb 34 0 0] H R:=by
 refine Jb (N:=82) Tryz.func175 I I I ?_;have hd:(x.l.map Pat.cells)[((0:Nat):Int).toNat]?=some y.C:=by rw[hl];simp[Pat.cells_eq]
 have hn1:(x.n==1)=true:=by simpa using hn
 have hn2:(x.n !=1)=false:=by simpa using hn
 refine ae0 (ag 2 I (O (Jc 6 I I (zab I) I (ab (O (Jc 8 I I (zab I) I (ab (ag 9 I (J3 ?_)))))))))
 (refine J6 I I I (fun q1=>?_) (fun q1=>?_))
 ·have q1:x.max<0:=aj q1
  refine ab (ag 15 I (J3 ?_));rw[hn1];refine ab (ag 7 I (J2 ?_))
  (refine J4 I (fun q3=>?_) (fun q3=>?_))
  ·have q3:many≥x.min:=aj q3
   refine ae (ag 5 I (J3 ?_));refine J7 (Ji I I I (h1 q3) fun v H' hv=>?_)
   obtain⟨n,⟨aw,atd,acg,abar,afd,afr,aae⟩,H1,rfl,hr,hp⟩:=hv;refine ab (ag 8 I (J3 ?_))
   (refine J6 I I I (fun g1=>?_) (fun g1=>?_))
   ·have g1:n≠0:=by simpa using g1
    refine ab (ag 16 I (J ?_));refine zaa (J5 I I) ?_;exact h1a n _ H1 _ hr hp (.inl g1)
   have g1:n=0:=by simpa using g1
   subst g1;refine Jl hp ?_;rw[zaZ,az];cases atd with
   |true=>
    refine ab (ag 3 I (Jg I I I (J1 okL I (.head _) I I I I (ab (ag 12 I (J ?_))))));refine zaa (J5 I I) ?_;exact h1a 0 _ H1 _ hr (.refl _) (.inr I)
   |false=>
    have hS:=h1b _ _ hr I;refine ab (ag 3 I (Jg I I I (J1 okL I (.head _) I I I I (ab (ag 14 I (J2 ?_))))));refine aH refK (fun _=>.nilp) okL hmix (by kernel_rfl) ?_;refine aa I I I (aa I I I (aa I I I (aa I I (zad I I I I I (am _) (hd) I) (aa I I I (aa I I I (aa I I I (aa I I I (aa I I I (aa I I I (aa I I I (aa I I I ?_)))))))))));refine bK (R:=fun v F=>∃b,v=.ptr b 34 0 0∧F=[(b,.row 171 34 [fmC 2 x.C many s.at_ zSt (.ptr kb 34 0 0)])]) I I I ⟨_,_,0,I,I⟩ (Jk I I (.inr ⟨_,I⟩) I I fun b _=>Ja (ah ⟨_,⟨b,I,I⟩,I⟩)) ?_;rintro v F ⟨b,rfl,rfl⟩;refine aR (R:=Mid X R2) I I I hR2 (Ji I I I (h2 _ hS (.inl q1) b) fun v H' hr=>Ja (ah hr)) fun v H' hv=>?_
    (repeat (refine aa I I I ?_))
    refine aF ?_;obtain⟨n,⟨aw,atd,acg,abar,afd,afr,aae⟩,H1,rfl,hr,hp⟩:=hv;refine ae (ag 5 I (J3 ?_))
    (refine J6 I I I (fun g1=>?_) (fun g1=>?_))
    ·have g1:n≠0:=by simpa using g1
     refine ab (ag 16 I (J ?_));refine zaa (J5 I I) ?_;exact h2a n _ H1 _ hr hp
    have g1:n=0:=by simpa using g1
    subst g1;refine Jl hp ?_;rw[zaZ,az];cases atd with
    |true=>
     refine ab (ag 3 I (Jg I I I (J1 okL I (.head _) I I I I (ab (ag 12 I (J ?_))))));refine zaa (J5 I I) ?_;exact h2a 0 _ H1 _ hr (.refl _)
    |false=>
     refine ab (ag 3 I (Jg I I I (J1 okL I (.head _) I I I I (ab (ag 13 I (J3 ?_))))));rw[hn2];refine ab (ag 16 I (J ?_));refine zaa (J5 I I) ?_;exact h2a 0 _ H1 _ hr (.refl _)
  ·have q3:¬many≥x.min:=ao q3
   refine ae (ag 10 I (J2 ?_));refine aH refK (fun _=>.nilp) okL hmix (by kernel_rfl) ?_;refine aa I I I (aa I I I (aa I I I (aa I I (zad I I I I I (am _) (hd) I) (aa I I I (aa I I I (aa I I I (aa I I I (aa I I I (aa I I I (aa I I I (aa I I I ?_)))))))))));refine bK (R:=fun v F=>∃b,v=.ptr b 34 0 0∧F=[(b,.row 171 34 [fmC 2 x.C many s.at_ zSt (.ptr kb 34 0 0)])]) I I I ⟨_,_,0,I,I⟩ (Jk I I (.inr ⟨_,I⟩) I I fun b _=>Ja (ah ⟨_,⟨b,I,I⟩,I⟩)) ?_;rintro v F ⟨b,rfl,rfl⟩;refine aR (R:=Mid X R2) I I I hR2 (Ji I I I (h2 _ (h1c q3) (.inl q1) b) fun v H' hr=>Ja (ah hr)) fun v H' hv=>?_
   (repeat (refine aa I I I ?_))
   refine aF ?_;obtain⟨n,⟨aw,atd,acg,abar,afd,afr,aae⟩,H1,rfl,hr,hp⟩:=hv;refine ae (ag 5 I (J3 ?_))
   (refine J6 I I I (fun g1=>?_) (fun g1=>?_))
   ·have g1:n≠0:=by simpa using g1
    refine ab (ag 16 I (J ?_));refine zaa (J5 I I) ?_;exact h2a n _ H1 _ hr hp
   have g1:n=0:=by simpa using g1
   subst g1;refine Jl hp ?_;rw[zaZ,az];cases atd with
   |true=>
    refine ab (ag 3 I (Jg I I I (J1 okL I (.head _) I I I I (ab (ag 12 I (J ?_))))));refine zaa (J5 I I) ?_;exact h2a 0 _ H1 _ hr (.refl _)
   |false=>
    refine ab (ag 3 I (Jg I I I (J1 okL I (.head _) I I I I (ab (ag 13 I (J3 ?_))))));rw[hn2];refine ab (ag 16 I (J ?_));refine zaa (J5 I I) ?_;exact h2a 0 _ H1 _ hr (.refl _)
 ·have q1:¬x.max<0:=ao q1
  refine ab (ag 15 I (J3 ?_));by_cases q2:many<x.max
  ·rw[aA q2,hn1]
   refine ab (ag 7 I (J2 ?_))
   (refine J4 I (fun q3=>?_) (fun q3=>?_))
   ·have q3:many≥x.min:=aj q3
    refine ae (ag 5 I (J3 ?_));refine J7 (Ji I I I (h1 q3) fun v H' hv=>?_)
    obtain⟨n,⟨aw,atd,acg,abar,afd,afr,aae⟩,H1,rfl,hr,hp⟩:=hv;refine ab (ag 8 I (J3 ?_))
    (refine J6 I I I (fun g1=>?_) (fun g1=>?_))
    ·have g1:n≠0:=by simpa using g1
     refine ab (ag 16 I (J ?_));refine zaa (J5 I I) ?_;exact h1a n _ H1 _ hr hp (.inl g1)
    have g1:n=0:=by simpa using g1
    subst g1;refine Jl hp ?_;rw[zaZ,az];cases atd with
    |true=>
     refine ab (ag 3 I (Jg I I I (J1 okL I (.head _) I I I I (ab (ag 12 I (J ?_))))));refine zaa (J5 I I) ?_;exact h1a 0 _ H1 _ hr (.refl _) (.inr I)
    |false=>
     have hS:=h1b _ _ hr I;refine ab (ag 3 I (Jg I I I (J1 okL I (.head _) I I I I (ab (ag 14 I (J2 ?_))))));refine aH refK (fun _=>.nilp) okL hmix (by kernel_rfl) ?_;refine aa I I I (aa I I I (aa I I I (aa I I (zad I I I I I (am _) (hd) I) (aa I I I (aa I I I (aa I I I (aa I I I (aa I I I (aa I I I (aa I I I (aa I I I ?_)))))))))));refine bK (R:=fun v F=>∃b,v=.ptr b 34 0 0∧F=[(b,.row 171 34 [fmC 2 x.C many s.at_ zSt (.ptr kb 34 0 0)])]) I I I ⟨_,_,0,I,I⟩ (Jk I I (.inr ⟨_,I⟩) I I fun b _=>Ja (ah ⟨_,⟨b,I,I⟩,I⟩)) ?_;rintro v F ⟨b,rfl,rfl⟩;refine aR (R:=Mid X R2) I I I hR2 (Ji I I I (h2 _ hS (.inr q2) b) fun v H' hr=>Ja (ah hr)) fun v H' hv=>?_
     (repeat (refine aa I I I ?_))
     refine aF ?_;obtain⟨n,⟨aw,atd,acg,abar,afd,afr,aae⟩,H1,rfl,hr,hp⟩:=hv;refine ae (ag 5 I (J3 ?_))
     (refine J6 I I I (fun g1=>?_) (fun g1=>?_))
     ·have g1:n≠0:=by simpa using g1
      refine ab (ag 16 I (J ?_));refine zaa (J5 I I) ?_;exact h2a n _ H1 _ hr hp
     have g1:n=0:=by simpa using g1
     subst g1;refine Jl hp ?_;rw[zaZ,az];cases atd with
     |true=>
      refine ab (ag 3 I (Jg I I I (J1 okL I (.head _) I I I I (ab (ag 12 I (J ?_))))));refine zaa (J5 I I) ?_;exact h2a 0 _ H1 _ hr (.refl _)
     |false=>
      refine ab (ag 3 I (Jg I I I (J1 okL I (.head _) I I I I (ab (ag 13 I (J3 ?_))))));rw[hn2];refine ab (ag 16 I (J ?_));refine zaa (J5 I I) ?_;exact h2a 0 _ H1 _ hr (.refl _)
   ·have q3:¬many≥x.min:=ao q3
    refine ae (ag 10 I (J2 ?_));refine aH refK (fun _=>.nilp) okL hmix (by kernel_rfl) ?_;refine aa I I I (aa I I I (aa I I I (aa I I (zad I I I I I (am _) (hd) I) (aa I I I (aa I I I (aa I I I (aa I I I (aa I I I (aa I I I (aa I I I (aa I I I ?_)))))))))));refine bK (R:=fun v F=>∃b,v=.ptr b 34 0 0∧F=[(b,.row 171 34 [fmC 2 x.C many s.at_ zSt (.ptr kb 34 0 0)])]) I I I ⟨_,_,0,I,I⟩ (Jk I I (.inr ⟨_,I⟩) I I fun b _=>Ja (ah ⟨_,⟨b,I,I⟩,I⟩)) ?_;rintro v F ⟨b,rfl,rfl⟩;refine aR (R:=Mid X R2) I I I hR2 (Ji I I I (h2 _ (h1c q3) (.inr q2) b) fun v H' hr=>Ja (ah hr)) fun v H' hv=>?_
    (repeat (refine aa I I I ?_))
    refine aF ?_;obtain⟨n,⟨aw,atd,acg,abar,afd,afr,aae⟩,H1,rfl,hr,hp⟩:=hv;refine ae (ag 5 I (J3 ?_))
    (refine J6 I I I (fun g1=>?_) (fun g1=>?_))
    ·have g1:n≠0:=by simpa using g1
     refine ab (ag 16 I (J ?_));refine zaa (J5 I I) ?_;exact h2a n _ H1 _ hr hp
    have g1:n=0:=by simpa using g1
    subst g1;refine Jl hp ?_;rw[zaZ,az];cases atd with
    |true=>
     refine ab (ag 3 I (Jg I I I (J1 okL I (.head _) I I I I (ab (ag 12 I (J ?_))))));refine zaa (J5 I I) ?_;exact h2a 0 _ H1 _ hr (.refl _)
    |false=>
     refine ab (ag 3 I (Jg I I I (J1 okL I (.head _) I I I I (ab (ag 13 I (J3 ?_))))));rw[hn2];refine ab (ag 16 I (J ?_));refine zaa (J5 I I) ?_;exact h2a 0 _ H1 _ hr (.refl _)
  ·rw[aG q2,hn1]
   refine ab (ag 7 I (J2 ?_))
   (refine J4 I (fun q3=>?_) (fun q3=>?_))
   ·have q3:many≥x.min:=aj q3
    refine ae (ag 5 I (J3 ?_));refine J7 (Ji I I I (h1 q3) fun v H' hv=>?_)
    obtain⟨n,⟨aw,atd,acg,abar,afd,afr,aae⟩,H1,rfl,hr,hp⟩:=hv;refine ab (ag 8 I (J3 ?_))
    (refine J6 I I I (fun g1=>?_) (fun g1=>?_))
    ·have g1:n≠0:=by simpa using g1
     refine ab (ag 16 I (J ?_));refine zaa (J5 I I) ?_;exact h1a n _ H1 _ hr hp (.inl g1)
    have g1:n=0:=by simpa using g1
    subst g1;refine Jl hp ?_;rw[zaZ,az];cases atd with
    |true=>
     refine ab (ag 3 I (Jg I I I (J1 okL I (.head _) I I I I (ab (ag 12 I (J ?_))))));refine zaa (J5 I I) ?_;exact h1a 0 _ H1 _ hr (.refl _) (.inr I)
    |false=>
     have hS:=h1b _ _ hr I;refine ab (ag 3 I (Jg I I I (J1 okL I (.head _) I I I I (ab (ag 22 I (J3 ?_))))));rw[hn2];refine ab (ag 16 I (J ?_));refine zaa (J5 I I) ?_;exact h0 _ hS (fun e=>e.elim q1 q2)
   ·have q3:¬many≥x.min:=ao q3
    refine ae (ag 18 I (J3 ?_));rw[hn2];refine ab (ag 16 I (J ?_));refine zaa (J5 I I) ?_;exact h0 _ (h1c q3) (fun e=>e.elim q1 q2)
set_option maxHeartbeats 4000000 in
theorem turn_greedy(X:Rt)(x y:Pat)(hl:x.l=[y])(hn:x.n≠1)(many:Int)(s:Sg)(kb:Nat)(H:Heap)(R:A→Heap→Prop)(R1:Int→RS→Heap→Prop)(S:Heap→Prop)
  (hR1:(x.max<0∨many<x.max)→∃v H',Mid X R1 v H')
  (h1:(x.max<0∨many<x.max)→∀b,TrG [] Tryz.prog 124 [X.p,.agg y.C,.agg (stC s),.ptr b 34 0 0] ((b,.row 171 34 [fmC 2 x.C many s.at_ zSt (.ptr kb 34 0 0)])::H) (Mid X R1))
  (h1a:∀n a1 H1 H',R1 n a1 H1→H'.Perm (Hr X a1++H1)→(n≠0∨a1.td=true)→R (i64 n) H')
  (h1b:∀a1 H1,R1 0 a1 H1→a1.td=false→S (Hr X a1++H1)) (h1c:¬(x.max<0∨many<x.max)→S H)
  (h2:∀H2,S H2→many≥x.min→TrG [] Tryz.prog 173 [X.p,.ptr kb 34 0 0,.agg (stC s)] H2 R)
  (h0:∀H2,S H2→¬many≥x.min→R (i64 0) H2):
  TrG [] Tryz.prog 175 [X.p,.agg x.C,i64 many,.agg (stC s),.ptr kb 34 0 0] H R:=by
 refine Jb (N:=82) Tryz.func175 I I I ?_;have hd:(x.l.map Pat.cells)[((0:Nat):Int).toNat]?=some y.C:=by rw[hl];simp[Pat.cells_eq]
 have hn1:(x.n==1)=false:=by simpa using hn
 have hn2:(x.n !=1)=true:=by simpa using hn
 refine ae0 (ag 2 I (O (Jc 6 I I (zab I) I (ab (O (Jc 8 I I (zab I) I (ab (ag 9 I (J3 ?_)))))))))
 (refine J6 I I I (fun q1=>?_) (fun q1=>?_))
 ·have q1:x.max<0:=aj q1
  refine ab (ag 15 I (J3 ?_));rw[hn1];refine ab (ag 18 I (J2 ?_));refine aH refK (fun _=>.nilp) okL hmix (by kernel_rfl) ?_;refine aa I I I (aa I I I (aa I I I (aa I I (zad I I I I I (am _) (hd) I) (aa I I I (aa I I I (aa I I I (aa I I I (aa I I I (aa I I I (aa I I I (aa I I I ?_)))))))))));refine bK (R:=fun v F=>∃b,v=.ptr b 34 0 0∧F=[(b,.row 171 34 [fmC 2 x.C many s.at_ zSt (.ptr kb 34 0 0)])]) I I I ⟨_,_,0,I,I⟩ (Jk I I (.inr ⟨_,I⟩) I I fun b _=>Ja (ah ⟨_,⟨b,I,I⟩,I⟩)) ?_;rintro v F ⟨b,rfl,rfl⟩;refine aR (R:=Mid X R1) I I I (hR1 (.inl q1)) (Ji I I I (h1 (.inl q1) b) fun v H' hr=>Ja (ah hr)) fun v H' hv=>?_
  (repeat (refine aa I I I ?_))
  refine aF ?_;obtain⟨n,⟨aw,atd,acg,abar,afd,afr,aae⟩,H1,rfl,hr,hp⟩:=hv;refine ae (ag 5 I (J3 ?_))
  (refine J6 I I I (fun g1=>?_) (fun g1=>?_))
  ·have g1:n≠0:=by simpa using g1
   refine ab (ag 16 I (J ?_));refine zaa (J5 I I) ?_;exact h1a n _ H1 _ hr hp (.inl g1)
  have g1:n=0:=by simpa using g1
  subst g1;refine Jl hp ?_;rw[zaZ,az];cases atd with
  |true=>
   refine ab (ag 3 I (Jg I I I (J1 okL I (.head _) I I I I (ab (ag 12 I (J ?_))))));refine zaa (J5 I I) ?_;exact h1a 0 _ H1 _ hr (.refl _) (.inr I)
  |false=>
   have hS:=h1b _ _ hr I;refine ab (ag 3 I (Jg I I I (J1 okL I (.head _) I I I I (ab (ag 13 I (J3 ?_))))));rw[hn2];refine ab (ag 7 I (J2 ?_))
   (refine J4 I (fun q3=>?_) (fun q3=>?_))
   ·have q3:many≥x.min:=aj q3
    refine ae (ag 5 I (J3 ?_));refine J7 (Ji I I I (h2 _ hS q3) fun v H' hr=>?_)
    refine ab (ag 5 I (J ?_));refine zaa (J5 I I) ?_;exact hr
   ·have q3:¬many≥x.min:=ao q3
    refine ae (ag 8 I (J ?_));refine zaa (J5 I I) ?_;exact h0 _ hS q3
 ·have q1:¬x.max<0:=ao q1
  refine ab (ag 15 I (J3 ?_));by_cases q2:many<x.max
  ·rw[aA q2,hn1]
   refine ab (ag 18 I (J2 ?_));refine aH refK (fun _=>.nilp) okL hmix (by kernel_rfl) ?_;refine aa I I I (aa I I I (aa I I I (aa I I (zad I I I I I (am _) (hd) I) (aa I I I (aa I I I (aa I I I (aa I I I (aa I I I (aa I I I (aa I I I (aa I I I ?_)))))))))));refine bK (R:=fun v F=>∃b,v=.ptr b 34 0 0∧F=[(b,.row 171 34 [fmC 2 x.C many s.at_ zSt (.ptr kb 34 0 0)])]) I I I ⟨_,_,0,I,I⟩ (Jk I I (.inr ⟨_,I⟩) I I fun b _=>Ja (ah ⟨_,⟨b,I,I⟩,I⟩)) ?_;rintro v F ⟨b,rfl,rfl⟩;refine aR (R:=Mid X R1) I I I (hR1 (.inr q2)) (Ji I I I (h1 (.inr q2) b) fun v H' hr=>Ja (ah hr)) fun v H' hv=>?_
   (repeat (refine aa I I I ?_))
   refine aF ?_;obtain⟨n,⟨aw,atd,acg,abar,afd,afr,aae⟩,H1,rfl,hr,hp⟩:=hv;refine ae (ag 5 I (J3 ?_))
   (refine J6 I I I (fun g1=>?_) (fun g1=>?_))
   ·have g1:n≠0:=by simpa using g1
    refine ab (ag 16 I (J ?_));refine zaa (J5 I I) ?_;exact h1a n _ H1 _ hr hp (.inl g1)
   have g1:n=0:=by simpa using g1
   subst g1;refine Jl hp ?_;rw[zaZ,az];cases atd with
   |true=>
    refine ab (ag 3 I (Jg I I I (J1 okL I (.head _) I I I I (ab (ag 12 I (J ?_))))));refine zaa (J5 I I) ?_;exact h1a 0 _ H1 _ hr (.refl _) (.inr I)
   |false=>
    have hS:=h1b _ _ hr I;refine ab (ag 3 I (Jg I I I (J1 okL I (.head _) I I I I (ab (ag 13 I (J3 ?_))))));rw[hn2];refine ab (ag 7 I (J2 ?_))
    (refine J4 I (fun q3=>?_) (fun q3=>?_))
    ·have q3:many≥x.min:=aj q3
     refine ae (ag 5 I (J3 ?_));refine J7 (Ji I I I (h2 _ hS q3) fun v H' hr=>?_)
     refine ab (ag 5 I (J ?_));refine zaa (J5 I I) ?_;exact hr
    ·have q3:¬many≥x.min:=ao q3
     refine ae (ag 8 I (J ?_));refine zaa (J5 I I) ?_;exact h0 _ hS q3
  ·rw[aG q2,hn1]
   have hS:=h1c (fun e=>e.elim q1 q2);refine ab (ag 26 I (J3 ?_));rw[hn2];refine ab (ag 7 I (J2 ?_))
   (refine J4 I (fun q3=>?_) (fun q3=>?_))
   ·have q3:many≥x.min:=aj q3
    refine ae (ag 5 I (J3 ?_));refine J7 (Ji I I I (h2 _ hS q3) fun v H' hr=>?_)
    refine ab (ag 5 I (J ?_));refine zaa (J5 I I) ?_;exact hr
   ·have q3:¬many≥x.min:=ao q3
    refine ae (ag 8 I (J ?_));refine zaa (J5 I I) ?_;exact h0 _ hS q3
def MidA(X:Rt)(R1:Int→RS→Heap→Prop):A→Heap→Prop:=fun v H'=>∃n a1 H1,v=i64 n∧R1 n a1 H1∧H'.Perm (Hr X a1++H1)
def MidB(X:Rt)(R1:Bool→RS→Heap→Prop):A→Heap→Prop:=fun v H'=>∃t a1 H1,v=.bool t∧R1 t a1 H1∧H'.Perm (Hr X a1++H1)
theorem zj8(l:List (Int×Int)):(opA l).leaf=true:=by cases l<;>rfl
theorem zhL(l:List (Int×Int)):(opA l).cells=[opA l]:=by cases l<;>rfl
theorem zpl(l:List (Int×Int)):zan [opA l]=true:=by cases l<;>rfl
theorem zaB(s:Sg):zan (stC s)=true:=by
 obtain⟨a,k,c,l⟩:=s;cases l<;>rfl
theorem zmk(X:Rt)(x:Pat)(s:Sg)(kb:Nat)(H:Heap)(R:A→Heap→Prop)(hW:Wd R)(R1:Int→RS→Heap→Prop)
  (h:∀b,(x.op=6→TrG [] Tryz.prog 175 [X.p,.agg x.C,i64 0,.agg (stC s),.ptr b 34 0 0] ((b,.row 171 34 [fmC 5 zP 0 (-1) zSt .nilp])::H) (MidA X R1))∧(x.op≠6→TrG [] Tryz.prog 124 [X.p,.agg x.C,.agg (stC s),.ptr b 34 0 0] ((b,.row 171 34 [fmC 5 zP 0 (-1) zSt .nilp])::H) (MidA X R1)))
  (h0:∀n a1 H1 H',R1 n a1 H1→n≠1→H'.Perm (Hr X a1++H1)→R (i64 0) H')
  (h1:∀a1 H1,R1 1 a1 H1→TrG [] Tryz.prog 173 [X.p,.ptr kb 34 0 0,.agg (stC {a1.fd with calls:=s.calls})] (Hr X a1++H1) R):
  TrG [] Tryz.prog 174 [X.p,.agg x.C,.agg (stC s),.ptr kb 34 0 0] H R:=by
 refine Jb (N:=37) Tryz.func174 I I I ?_;refine ae0 (ag 2 I (O (Jc 5 I I (zab I) I (ab (J3 ?_)))));refine J7 (Jk I I (.inr ⟨_,I⟩) (zaB s) I fun r6 _=>?_)
 refine ab (ag 6 I (O (J1 okL I (.head _) I I I I (ab (ag 11 I (J2 ?_))))))
 (refine J4 I (fun q=>?_) (fun q=>?_))
 ·have q:x.op=6:=by simpa using q
  refine ae (ag 4 I (O (J1 okL I (.head _) I I I I (ab (ag 1 I (O (Jk I I (zab I) I I (fun _ _=>(ab (J3 ?_))))))))));rename_i b _;refine J7 (Jp (Hc:=(b,.row 171 34 [fmC 5 zP 0 (-1) zSt .nilp])::H) (F:=[(r6,.row 108 23 [stC s])]) I I I ((aN (l₁:=[_])).cons _) ((h b).1 q) fun v H' hv=>?_)
  obtain⟨n,⟨aw,atd,acg,abar,afd,afr,aae⟩,H1,rfl,hr,hp⟩:=hv;refine ab (ag 3 I (J2 ?_))
  (refine J4 I (fun g=>?_) (fun g=>?_))
  ·have g:n≠1:=by simpa using g
   refine ae (ag 7 I (J ?_));refine zaa (J5 I I) ?_;exact hW.perm _ _ _ aN (hW.add _ _ [_] (h0 n _ H1 H' hr g hp))
  ·have g:n=1:=by simpa using g
   subst g;refine ae (ag 7 I (J3 ?_));refine Jl ((aN (l₂:=[_])).trans (hp.cons _)) ?_;rw[zaZ,az,az];refine ab (O (J1 okL I (.tail _ (.head _)) I I I I (ab (J3 ?_))));refine J7 (J8 okL I I I (zab I) (zaB afd) I I .here I I I ?_)
   refine ab (ag 6 I (J3 ?_));refine J7 (J8 okL I I (zhL _) (.inl (zj8 _)) (zpl _) I I .here I I I ?_)
   refine ab (ag 6 I (O (J1 okL I (.head _) I I I I (ab (J3 ?_)))));refine J7 (Jd [_] I I I I (h1 _ H1 hr) fun v H' hr=>?_)
   refine ab (ag 4 I (J ?_));refine zaa (J5 I I) ?_;exact hW.add _ _ [_] hr
 ·have q:x.op≠6:=by simpa using q
  refine ae (ag 4 I (O (J1 okL I (.head _) I I I I (ab (J3 ?_)))));refine J7 (Jd [_] I I I I (zmG X x s (-1) H (MidB X fun t a1 H1=>∃n,t=(n==1)∧R1 n a1 H1) (fun b=>MidA X R1) (fun b v H' ⟨n,_,_,e,_⟩=>⟨n,e⟩) (fun b=>(h b).2 q) (fun b n H' ⟨m,a1,H1,e,k1,k2⟩=>⟨n==1,a1,H1,I,⟨n,I,by cases e;exact k1⟩,k2⟩)) fun v H' hv=>?_)
  obtain⟨t,⟨aw,atd,acg,abar,afd,afr,aae⟩,H1,rfl,⟨n,e,hr⟩,hp⟩:=hv;cases t with
  |false=>
   have g:n≠1:=by simpa using e.symm
   refine ab (ag 11 I (J ?_));refine zaa (J5 I I) ?_;exact hW.add _ _ [_] (h0 n _ H1 H' hr g hp)
  |true=>
   have g:n=1:=by simpa using e.symm
   subst g;refine ab (ag 11 I (J3 ?_));refine Jl (hp.cons _) ?_;rw[zaZ,az,az];refine ab (O (J1 okL I (.tail _ (.head _)) I I I I (ab (J3 ?_))));refine J7 (J8 okL I I I (zab I) (zaB afd) I I .here I I I ?_)
   refine ab (ag 6 I (J3 ?_));refine J7 (J8 okL I I (zhL _) (.inl (zj8 _)) (zpl _) I I .here I I I ?_)
   refine ab (ag 6 I (O (J1 okL I (.head _) I I I I (ab (J3 ?_)))));refine J7 (Jd [_] I I I I (h1 _ H1 hr) fun v H' hr=>?_)
   refine ab (ag 4 I (J ?_));refine zaa (J5 I I) ?_;exact hW.add _ _ [_] hr
def zop(o:Oper):Nat:=match o.op with
 |.box .. =>4
 |.call {callee:=.value _,.. }=>2
 |_=>0
theorem zsp(X:Rt)(op mn mx:Int)(nm:List UInt8)(st:List (Int×Int))(l:List Pat)(s:Sg)(kb:Nat)(H:Heap)(R:A→Heap→Prop)(h:R (i64 0) H):TrG [] Tryz.prog 180 [X.p,.agg (Pat.mk op 0 mn mx nm st l).C,.agg (stC s),.ptr kb 34 0 0] H R:=by
 refine Jb (N:=40) Tryz.func180 I I I ?_;refine ae0 (ag 2 I (O (Jc 5 I I (zab I) I (ab (O (Jc 6 I I (zab I) I (ab (ag 26 I (J ?_)))))))));refine zaa (J5 I I) ?_;exact h
theorem zsn(X:Rt)(op mn mx:Int)(nm:List UInt8)(st:List (Int×Int))(l:List Pat)(s:Sg)(kb:Nat)(H:Heap)(R:A→Heap→Prop)(bb:Nat)(hne:∃v H',R v H')(hb:TrG [] Tryz.prog 226 [.ptr kb 34 0 0] H fun v H'=>v=.ptr bb 34 0 0∧H'.Perm H)
  (h:∀H',H'.Perm H→TrG [] Tryz.prog 173 [X.p,.ptr bb 34 0 0,.agg (stC s)] H' R):TrG [] Tryz.prog 180 [X.p,.agg (Pat.mk op 1 mn mx nm st l).C,.agg (stC s),.ptr kb 34 0 0] H R:=by
 refine Jb (N:=40) Tryz.func180 I I I ?_;refine ae0 (ag 2 I (O (Jc 5 I I (zab I) I (ab (O (Jc 6 I I (zab I) I (ab (ag 26 I (J2 ?_)))))))));refine aH zop (fun _=>.nilp) okL hmix (by kernel_rfl) ?_
 (repeat (refine aa I I I ?_))
 refine aR (R:=fun v H'=>v=.ptr bb 34 0 0∧H'.Perm H) I I I ⟨_,H,I,.refl _⟩ (Ji I I I hb fun v H' hr=>Ja (ah hr)) fun v H' hv=>?_;obtain⟨rfl,hp⟩:=hv
 (repeat (refine aa I I I ?_))
 refine aR (R:=R) I I I hne (Ji I I I (h H' hp) fun v H' hr=>Ja (ah hr)) fun v H' hv=>?_
 (repeat (refine aa I I I ?_))
 refine aF ?_;refine ae (ag 3 I (J ?_));refine zaa (J5 I I) ?_;exact hv
theorem zrm(X:Rt)(op mn mx:Int)(nm:List UInt8)(st:List (Int×Int))(l:List Pat)(s:Sg)(kb:Nat)(H:Heap)(R:A→Heap→Prop)(bb:Nat)(R1:Int→RS→Heap→Prop)
  (h1:TrG [] Tryz.prog 173 [X.p,.ptr kb 34 0 0,.agg (stC s)] H (MidA X R1))
  (h1a:∀n a1 H1 H',R1 n a1 H1→H'.Perm (Hr X a1++H1)→(n≠0∨a1.td=true)→R (i64 n) H')
  (hb:∀a1 H1,R1 0 a1 H1→a1.td=false→TrG [] Tryz.prog 226 [.ptr kb 34 0 0] H1 fun v H'=>v=.ptr bb 34 0 0∧H'.Perm H1)
  (h2:∀a1 H1 H',R1 0 a1 H1→a1.td=false→H'.Perm (Hr X {a1 with bar:=.ptr bb 34 0 0}++H1)→R (i64 2) H'):TrG [] Tryz.prog 180 [X.p,.agg (Pat.mk op 2 mn mx nm st l).C,.agg (stC s),.ptr kb 34 0 0] H R:=by
 refine Jb (N:=40) Tryz.func180 I I I ?_;refine ae0 (ag 2 I (O (Jc 5 I I (zab I) I (ab (O (Jc 6 I I (zab I) I (ab (ag 33 I (J3 ?_)))))))));refine J7 (Ji I I I h1 fun v H' hv=>?_)
 obtain⟨n,⟨aw,atd,acg,abar,afd,afr,aae⟩,H1,rfl,hr,hp⟩:=hv;by_cases g1:n=0
 ·subst g1
  refine Jl hp ?_;rw[zaZ,az];cases atd with
  |true=>
   refine ab (ag 12 I (Jg I I I (J1 okL I (.head _) I I I I (ab (ag 14 I (J ?_))))));refine zaa (J5 I I) ?_;exact h1a 0 _ H1 _ hr (.refl _) (.inr I)
  |false=>
   refine ab (ag 12 I (Jg I I I (J1 okL I (.head _) I I I I (ab (ag 9 I (J3 ?_))))));refine J7 (Jd (Hr X ⟨aw,false,acg,abar,afd,afr,aae⟩) I I I I (hb _ H1 hr I) fun v H' hv=>?_)
   obtain⟨rfl,hp2⟩:=hv;rw[zaZ,az];refine ab (ag 2 I (O (J8 okL I I I (zab I) I I I .here I I I (ab (ag 9 I (J ?_))))));refine zaa (J5 I I) ?_;exact h2 _ H1 _ hr I ((hp2.append_left (Hr X ⟨aw,false,acg,.ptr bb 34 0 0,afd,afr,aae⟩)))
 ·have g2:(n==0)=false:=by simpa using g1
  refine ab (ag 9 I (J3 ?_));rw[g2];refine ab (ag 18 I (J ?_));refine zaa (J5 I I) ?_;exact h1a n _ H1 _ hr hp (.inl g1)
end Go.Proofs.YtpopmiodjibljaaGreatDoor

