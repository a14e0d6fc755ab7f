/- A part of the proof. -/
import Derived.Test.YtpopmiodjibljaaGreatDoorBwyE
set_option linter.unusedVariables false
set_option linter.unusedSimpArgs false
set_option maxRecDepth 100000

namespace Go.Proofs.YtpopmiodjibljaaGreatDoor
open Go Go.Abs Go.Bk
def zlx(X:Rt)(ae:List (Option (List Int))):Prop:=ae.length=X.s.length∧∀(i:Nat) (l:List Int),ae[i]?=some (some l)→l=alkM (gx X.s i)
def alkV(X:Rt):Alk:=⟨zlx X⟩
theorem zqX(c:Int):alkM c≠[]:=fun e=>by
 have:=(zcO (c:=c) (d:=c) 8201).2 (.inl I);unfold alkM at e;rw[e] at this;cases this
def zsE(o:Oper):Nat:=match o.op with
 |.load .. =>1
 |.store .. =>2
 |.call {callee:=.value _,.. }=>1
 |_=>0
theorem zm2(X:Rt)(a:RS)(hN:X.s.length≤1000000)(x:Pat)(p:Int)(h0:0≤p)(ho:x.op=1∨x.op=2∨x.op=3)(hV:zlx X a.ae):
  TrG [] Tryz.prog 172 [X.p,.agg x.C,i64 p] (Hr X a) fun v H'=>v=.bool (takR X.fl X.s x p)∧∃ae',zlx X ae'∧H'=Hr X {a with ae:=ae'}:=by
 refine Jb (N:=65) Tryz.func172 I I I ?_;obtain⟨w,td,cg,bar,fd,fr,ae⟩:=a;have hV:zlx X ae:=hV;rw[zaZ];refine ae0 (ag 2 I (O (Jc 4 I I (zab I) I (ab (ag 10 I (O (J1 okL I (.head _) I I I I (ab (ag 4 I (J2 ?_))))))))));rw[ak]
 (refine J4 I (fun h=>?_) (fun h=>?_))
 ·have h:p≥(X.s.length:Int):=aj h
  rw[takR,af h];refine ae0 (ag 6 I (J (ax (ag 1 I (J ?_)))));refine zaa (J5 I I) ?_;exact⟨I,ae,hV,I⟩
 have h:¬p≥(X.s.length:Int):=ao h;rw[takR,ac h];have hp:p<(X.s.length:Int):=by omega
 have hc:=zf1 X.s (i:=p) h0 hp;obtain⟨en,hen⟩:∃en,ae[p.toNat]?=some en:=⟨ae[p.toNat]'(by rw[hV.1];omega),List.getElem?_eq_getElem _⟩;have hm:(ae.map alE)[0+p.toNat]?=some (alE en):=by rw[aS,List.getElem?_map,hen];rfl
 have hpn:((p.toNat:Nat):Int)=p:=by omega
 have hsome:∀l,en=some l→l=alkM (gx X.s p):=fun l e=>by
  have:=hV.2 p.toNat l (by rw[hen,e])
  rwa [hpn] at this
 -- the last part,for an entry that is right as far as it is asked
 by_cases h3:x.op=3
 ·have h3b:(x.op==3)=true:=by simpa using h3
  refine ae0 (ag 1 I (J (ax (ag 8 I (J3 ?_)))));rw[h3b];refine ab (ag 1 I (J3 ?_));refine Jy I I I (Ji I I I (zl1 X ⟨w,td,cg,bar,fd,fr,ae⟩ 105) fun v H' hv=>?_)
  obtain⟨rfl,rfl⟩:=hv;rw[zaZ];cases hi:hasM X.fl 105 with
  |false=>
   have e0:∀al,takM x (gx X.s p) X.fl al=takM x (gx X.s p) X.fl (alkM (gx X.s p)):=fun al=>zl9 fun _ _ e=>by rw[hi] at e;cases e
   cases en with
   |none=>
    have hT:PTrG [] Tryz.prog 56 [.agg x.C,i64 (gx X.s p),.str X.fl,.nils] (.bool (takM x (gx X.s p) X.fl (alkM (gx X.s p)))):=by
     rw[←e0 []];exact(PTr.g (zdq x (gx X.s p) X.fl [])).subL (.cons (bo _) (.cons (bo _) (.cons (bo _) (.cons ct .nil))))
    refine ab (ag 17 I (Jq okL hmix (by kernel_rfl) (ag 4 I (Je (aD I I I (J1 okL I (.head _) I I I I (Ja (Qn_n ⟨I,I⟩))) (ap (ag 1 I (Je (b4 I (zad I I I I I (by omega) (hc) I) (ap (ag 4 I (Je (aD I I I (J1 okL I (.head _) I I I I (Ja (Qn_n ⟨I,I⟩))) (ap (ag 3 I (Je (aD I I I (J1 okL I (.head _) I I I I (Ja (Qn_n ⟨I,I⟩))) (ap (ag 1 I (Je (b4 I (zaN I I I I I (h0) (hp) I) (ap (Je (aD I I I (J1 okL I (.tail _ (.head _)) (hm) I I I (Ja (Qn_n ⟨I,I⟩))) (ap (Je (aD I I I (Jr I I I (hT) (Ja (Qn_n ⟨I,I⟩))) (ap (ag 4 I (J ?_))))))))))))))))))))))))))))));refine zaa (J5 I I) ?_;exact⟨I,ae,hV,I⟩
   |some l=>
    have hT:=zdq x (gx X.s p) X.fl l;rw[e0 l] at hT;refine ab (ag 17 I (Jq okL hmix (by kernel_rfl) (ag 4 I (Je (aD I I I (J1 okL I (.head _) I I I I (Ja (Qn_n ⟨I,I⟩))) (ap (ag 1 I (Je (b4 I (zad I I I I I (by omega) (hc) I) (ap (ag 4 I (Je (aD I I I (J1 okL I (.head _) I I I I (Ja (Qn_n ⟨I,I⟩))) (ap (ag 3 I (Je (aD I I I (J1 okL I (.head _) I I I I (Ja (Qn_n ⟨I,I⟩))) (ap (ag 1 I (Je (b4 I (zaN I I I I I (h0) (hp) I) (ap (Je (aD I I I (J1 okL I (.tail _ (.head _)) (hm) I I I (Ja (Qn_n ⟨I,I⟩))) (ap (Je (aD I I I (J9 I I I (hT) (Ja (Qn_n ⟨I,I⟩))) (ap (ag 4 I (J ?_))))))))))))))))))))))))))))));refine zaa (J5 I I) ?_;exact⟨I,ae,hV,I⟩
  |true=>
   cases en with
   |none=>
    have hset:(ae.map alE).set (0+p.toNat) [A.ds ((alkM (gx X.s p)).map zC)]=(ae.set p.toNat (some (alkM (gx X.s p)))).map alE:=by rw[aS,List.map_set];rfl
    have hm2:((ae.map alE).set (0+p.toNat) [A.ds ((alkM (gx X.s p)).map zC)])[0+p.toNat]?=some [A.ds ((alkM (gx X.s p)).map zC)]:=List.getElem?_set_self (by rw[ak,hV.1];omega);have hV2:zlx X (ae.set p.toNat (some (alkM (gx X.s p)))):=by
     refine⟨by rw[dl];exact hV.1,fun i l hi=>?_⟩
     by_cases e:p.toNat=i
     ·subst e
      rw[List.getElem?_set_self (by rw[hV.1];omega)] at hi;cases hi;rw[hpn]
     ·rw[List.getElem?_set_ne e] at hi
      exact hV.2 i l hi
    have hT:=zdq x (gx X.s p) X.fl (alkM (gx X.s p));refine ab (ag 5 I (Jg I I I (J1 okL I (.head _) I I I I (ab (ag 1 I (bY okL I I (zaN I I I I I (h0) (hp) I) I (Jg I I I (J1 okL I (.tail _ (.head _)) (hm) I I I (ab (ag 5 I (J2 ?_)))))))))));refine aH zsE (fun _=>.nilp) okL hmix (by kernel_rfl) ?_;refine aa I I I (aa I I I (aa I I I (ay I I (.inl I) (J1 okL I (.head _) I I I I (Ja (ah ⟨I,I⟩))) (aa I I I (aa I I I (aa I I I (aa I I I (ay I I (.inl I) (J1 okL I (.head _) I I I I (Ja (ah ⟨I,I⟩))) (aa I I I (aa I I (zad I I I I I (by omega) (hc) I) (aa I I I ?_)))))))))));refine ay I I (.inl I) (J9 I I I (alikes_tr (gx X.s p)) (Ja (ah ⟨I,I⟩))) ?_
    (repeat (refine aa I I (zaN I I I I I (h0) (hp) I) ?_))
    refine bn I I I (J8 okL I I I (zab I) I I I (.there .here) hm I I (Ja (ah ⟨I,I⟩))) ?_;refine aF ?_;refine ax (ag 2 I (Jq okL hmix (by kernel_rfl) (ag 4 I (Je (aD I I I (J1 okL I (.head _) I I I I (Ja (Qn_n ⟨I,I⟩))) (ap (ag 1 I (Je (b4 I (zad I I I I I (by omega) (hc) I) (ap (ag 4 I (Je (aD I I I (J1 okL I (.head _) I I I I (Ja (Qn_n ⟨I,I⟩))) (ap (ag 3 I (Je (aD I I I (J1 okL I (.head _) I I I I (Ja (Qn_n ⟨I,I⟩))) (ap (ag 1 I (Je (b4 I (zaN I I I I I (h0) (hp) I) (ap (Je (aD I I I (J1 okL I (.tail _ (.head _)) (hm2) I I I (Ja (Qn_n ⟨I,I⟩))) (ap (Je (aD I I I (J9 I I I (hT) (Ja (Qn_n ⟨I,I⟩))) (ap (ag 4 I (J ?_))))))))))))))))))))))))))))));refine zaa (J5 I I) ?_;exact⟨I,_,hV2,by rw[zaZ];simp only;rw[←hset];rfl⟩
   |some l=>
    have hl:=hsome l I;subst hl;have hT:=zdq x (gx X.s p) X.fl (alkM (gx X.s p));refine ab (ag 5 I (Jg I I I (J1 okL I (.head _) I I I I (ab (ag 1 I (bY okL I I (zaN I I I I I (h0) (hp) I) I (Jg I I I (J1 okL I (.tail _ (.head _)) (hm) I I I (ab (J3 ?_))))))))));refine Jy I I I (du okL I I I I fun b hb=>?_)
    cases b with
    |true=>
     have:=hb I;simp at this;exact absurd this (zqX _)
    |false=>
     refine ab (ag 7 I (Jq okL hmix (by kernel_rfl) (ag 4 I (Je (aD I I I (J1 okL I (.head _) I I I I (Ja (Qn_n ⟨I,I⟩))) (ap (ag 1 I (Je (b4 I (zad I I I I I (by omega) (hc) I) (ap (ag 4 I (Je (aD I I I (J1 okL I (.head _) I I I I (Ja (Qn_n ⟨I,I⟩))) (ap (ag 3 I (Je (aD I I I (J1 okL I (.head _) I I I I (Ja (Qn_n ⟨I,I⟩))) (ap (ag 1 I (Je (b4 I (zaN I I I I I (h0) (hp) I) (ap (Je (aD I I I (J1 okL I (.tail _ (.head _)) (hm) I I I (Ja (Qn_n ⟨I,I⟩))) (ap (Je (aD I I I (J9 I I I (hT) (Ja (Qn_n ⟨I,I⟩))) (ap (ag 4 I (J ?_))))))))))))))))))))))))))))));refine zaa (J5 I I) ?_;exact⟨I,ae,hV,I⟩
 ·have h3b:(x.op==3)=false:=by simpa using h3
  have e0:∀al,takM x (gx X.s p) X.fl al=takM x (gx X.s p) X.fl (alkM (gx X.s p)):=fun al=>zl9 fun h1 h2=>by omega
  refine ae0 (ag 1 I (J (ax (ag 8 I (J3 ?_)))));rw[h3b];cases en with
  |none=>
   have hT:PTrG [] Tryz.prog 56 [.agg x.C,i64 (gx X.s p),.str X.fl,.nils] (.bool (takM x (gx X.s p) X.fl (alkM (gx X.s p)))):=by
    rw[←e0 []];exact(PTr.g (zdq x (gx X.s p) X.fl [])).subL (.cons (bo _) (.cons (bo _) (.cons (bo _) (.cons ct .nil))))
   refine ab (ag 19 I (Jq okL hmix (by kernel_rfl) (ag 4 I (Je (aD I I I (J1 okL I (.head _) I I I I (Ja (Qn_n ⟨I,I⟩))) (ap (ag 1 I (Je (b4 I (zad I I I I I (by omega) (hc) I) (ap (ag 4 I (Je (aD I I I (J1 okL I (.head _) I I I I (Ja (Qn_n ⟨I,I⟩))) (ap (ag 3 I (Je (aD I I I (J1 okL I (.head _) I I I I (Ja (Qn_n ⟨I,I⟩))) (ap (ag 1 I (Je (b4 I (zaN I I I I I (h0) (hp) I) (ap (Je (aD I I I (J1 okL I (.tail _ (.head _)) (hm) I I I (Ja (Qn_n ⟨I,I⟩))) (ap (Je (aD I I I (Jr I I I (hT) (Ja (Qn_n ⟨I,I⟩))) (ap (ag 4 I (J ?_))))))))))))))))))))))))))))));refine zaa (J5 I I) ?_;exact⟨I,ae,hV,I⟩
  |some l=>
   have hT:=zdq x (gx X.s p) X.fl l;rw[e0 l] at hT;refine ab (ag 19 I (Jq okL hmix (by kernel_rfl) (ag 4 I (Je (aD I I I (J1 okL I (.head _) I I I I (Ja (Qn_n ⟨I,I⟩))) (ap (ag 1 I (Je (b4 I (zad I I I I I (by omega) (hc) I) (ap (ag 4 I (Je (aD I I I (J1 okL I (.head _) I I I I (Ja (Qn_n ⟨I,I⟩))) (ap (ag 3 I (Je (aD I I I (J1 okL I (.head _) I I I I (Ja (Qn_n ⟨I,I⟩))) (ap (ag 1 I (Je (b4 I (zaN I I I I I (h0) (hp) I) (ap (Je (aD I I I (J1 okL I (.tail _ (.head _)) (hm) I I I (Ja (Qn_n ⟨I,I⟩))) (ap (Je (aD I I I (J9 I I I (hT) (Ja (Qn_n ⟨I,I⟩))) (ap (ag 4 I (J ?_))))))))))))))))))))))))))))));refine zaa (J5 I I) ?_;exact⟨I,ae,hV,I⟩
theorem zk7(X:Rt)(a:RS)(hN:X.s.length≤1000000)(s:Sg)(hs:s.caps.length=10)(n:Int)(hn:1≤n∧n≤9)(h0:0≤s.at_)(hp:s.at_≤X.s.length)
  (c1 c2:Int) (hcap:zaI s.caps n.toNat=(c1,c2)) (hc:(c1=-1∧c2=-1)∨(0≤c1∧c1≤c2∧c2≤(X.s.length:Int))):
  TrG [] Tryz.prog 177 [X.p,.agg (stC s),i64 n] (Hr X a) fun v H'=>v=i64 (copR X.fl X.s (c1,c2) s.at_)∧∃G,H'=G++Hr X a:=by
 refine Jb (N:=81) Tryz.func177 I I I ?_;have hn0:0≤n:=by omega
 have hn9:n<((10:Nat):Int):=by omega
 refine ae0 (ag 2 I (J3 ?_));refine J7 (Jk I I (.inr ⟨_,I⟩) (zaB s) I fun r4 _=>?_)
 refine ab (ag 7 I (Jo okL (zaC I I I I I (hn0) (hn9)) I (J3 ?_)));refine J7 (J1 okL I (.head _) I I (zll hn I) I ?_)
 rw[hcap];rw[zaZ];refine ab (O (Jf okL I I I (fun _ _=>(ab (O (J8 okL I I I (zab I) I I I .here I I I (ab (ag 4 I (J2 ?_)))))))));rename_i r7 _;refine ae (Jq okL hmix (by kernel_rfl) (Je (b4 I (zaC I I I I I (by decide) (by decide)) (ap (Je (aD I I I (J1 okL I (.head _) I I I I (Ja (Qn_n ⟨I,I⟩))) (ap (ag 2 I (Je ?_)))))))));by_cases h:c1<0
 ·have e:copR X.fl X.s (c1,c2) s.at_=-1:=af (.inl h)
  rw[e,aA h];refine ap (ag 25 I (J ?_));refine zaa (J5 I I) ?_;exact⟨I,[_,_],I⟩
 have hw1:IntKind.i64.wrap (s.at_+c2)=s.at_+c2:=zap ⟨by omega,by omega⟩
 have hw2:IntKind.i64.wrap (s.at_+c2 - c1)=s.at_+c2 - c1:=zap ⟨by omega,by omega⟩
 have hw3:IntKind.i64.wrap (c2 - c1)=c2 - c1:=zap ⟨by omega,by omega⟩
 rw[aG h];refine ap (ag 1 I (Je (aD I I I (J1 okL I (.tail _ (.head _)) I I I I (Ja (Qn_n ⟨I,I⟩))) (ap (Je (bw I I (zaC I I I I I (by decide) (by decide)) (ap (Je (aD I I I (J1 okL I (.head _) I I I I (Ja (Qn_n ⟨I,I⟩))) (ap (ag 1 I (Je (bw I I (zaC I I I I I (by decide) (by decide)) (ap (Je (aD I I I (J1 okL I (.head _) I I I I (Ja (Qn_n ⟨I,I⟩))) (ap (ag 4 I (Je (aD I I I (J1 okL I (.tail _ (.tail _ (.head _))) I I I I (Ja (Qn_n ⟨I,I⟩))) (ap (ag 5 I (J2 ?_)))))))))))))))))))))));rw[hw1,hw2,ak]
 (refine J4 I (fun g=>?_) (fun g=>?_))
 ·have g:s.at_+c2 - c1>(X.s.length:Int):=aj g
  have e:copR X.fl X.s (c1,c2) s.at_=-1:=af (.inr (by simp only;omega));rw[e];refine ae (ag 7 I (J ?_));refine zaa (J5 I I) ?_;exact⟨I,[_,_],I⟩
 have g:¬s.at_+c2 - c1>(X.s.length:Int):=ao g;have e:copR X.fl X.s (c1,c2) s.at_=if zgv X.fl X.s c1 s.at_ (c2 - c1).toNat=true then c2 - c1 else -1:=ac (fun hh=>hh.elim h (by simp only;omega))
 rw[e];refine ae (ag 9 I (J2 ?_));have hlen:0≤c1∧c1≤c2∧c2≤(X.s.length:Int):=by omega
 refine Jj (α:=Nat) (fun k=>(c2 - c1).toNat - k) (fun k=>[(0,X.p),(4,.ptr r4 23 0 0),(7,.ptr r7 2 0 0),(8,i64 k)]) (fun k=>(r7,.row 98 2 [zaf (c1,c2)])::(r4,.row 108 23 [stC s])::Hr X a)
  (fun k=>k≤(c2 - c1).toNat∧∀i,i<k→zfr X.fl (gx X.s (c1+i)) (gx X.s (s.at_+i))=true) 0 ⟨aM _,fun i h=>absurd h (bW _)⟩ ?_ (ar _) ?_
 ·simp only[zaz]
  refine⟨I,I,I,I,trivial⟩
 rintro k ⟨hk,hm⟩ ih;rw[zaZ];refine ae0 (ag 4 I (Jo okL (zaC I I I I I (by decide) (by decide)) I (O (J1 okL I (.head _) I I I I (ab (Jo okL (zaC I I I I I (by decide) (by decide)) I (O (J1 okL I (.head _) I I I I (ab (ag 4 I (J2 ?_)))))))))));rw[hw3]
 (refine J4 I (fun q=>?_) (fun q=>?_))
 ·have q:(k:Int)<c2 - c1:=aj q
  have nx:=nxt (k:=k) (n:=(c2 - c1).toNat) (by omega) (by unfold maxLen;omega);have w1:IntKind.i64.wrap (c1+k)=c1+k:=zap ⟨by omega,by omega⟩
  have w2:IntKind.i64.wrap (s.at_+k)=s.at_+k:=zap ⟨by omega,by omega⟩
  have g1:(X.s.map nC)[(IntKind.i64.wrap (c1+k)).toNat]?=some [i64 (gx X.s (c1+k))]:=by rw[w1];exact zf1 X.s (by omega) (by omega)
  have g2:(X.s.map nC)[(IntKind.i64.wrap (s.at_+k)).toNat]?=some [i64 (gx X.s (s.at_+k))]:=by rw[w2];exact zf1 X.s (by omega) (by omega)
  have step:zfr X.fl (gx X.s (c1+k)) (gx X.s (s.at_+k))=true→∀i,i<k+1→zfr X.fl (gx X.s (c1+i)) (gx X.s (s.at_+i))=true:=fun h i hi=>by
   rcases Nat.lt_succ_iff_lt_or_eq.1 hi with hi|rfl
   ·exact hm i hi
   ·exact h
  have bad:zfr X.fl (gx X.s (c1+k)) (gx X.s (s.at_+k))=false→¬zgv X.fl X.s c1 s.at_ (c2 - c1).toNat=true:=fun h e=>by
   have:=List.all_eq_true.1 e k (List.mem_range.2 (by omega));rw[h] at this;cases this
  refine ae (ag 5 I (Jq okL hmix (by kernel_rfl) (ag 3 I (Je (aD I I I (J1 okL I (.tail _ (.tail _ (.head _))) I I I I (Ja (Qn_n ⟨I,I⟩))) (ap (Je (b4 I (zaC I I I I I (by decide) (by decide)) (ap (Je (aD I I I (J1 okL I (.head _) I I I I (Ja (Qn_n ⟨I,I⟩))) (ap (ag 2 I (Je (b4 I (zad I I I I I (by rw[w1];omega) (g1) I) (ap (ag 4 I (Je (aD I I I (J1 okL I (.tail _ (.tail _ (.head _))) I I I I (Ja (Qn_n ⟨I,I⟩))) (ap (ag 1 I (Je (aD I I I (J1 okL I (.tail _ (.head _)) I I I I (Ja (Qn_n ⟨I,I⟩))) (ap (ag 2 I (Je (b4 I (zad I I I I I (by rw[w2];omega) (g2) I) (ap (ag 11 I (J3 ?_))))))))))))))))))))))))))))));cases hab:(gx X.s (c1+k) !=gx X.s (s.at_+k)) with
  |false=>
   have hs:zfr X.fl (gx X.s (c1+k)) (gx X.s (s.at_+k))=true:=by
    unfold zfr;rw[show(gx X.s (c1+k)==gx X.s (s.at_+k))=true by simpa using hab,bN]
   refine ab (ag 20 I (J (zae ?_)))
   (refine aq 0 (ih (k+1) (⟨by omega,step hs⟩) (by omega)) ?_ I;exact⟨I,I,I,ai some nx,trivial⟩)
  |true=>
   have hs:zfr X.fl (gx X.s (c1+k)) (gx X.s (s.at_+k))=(hasM X.fl 105&&(zao (gx X.s (c1+k))==zao (gx X.s (s.at_+k)))):=by
    unfold zfr;rw[show(gx X.s (c1+k)==gx X.s (s.at_+k))=false by simpa using hab,cv]
   refine ab (ag 1 I (J3 ?_));refine Jy I I I (Jd [_,_] I I I I (zl1 X a 105) fun v H' hv=>?_)
   obtain⟨rfl,rfl⟩:=hv;cases hi:hasM X.fl 105 with
   |false=>
    rw[hi,bj] at hs;rw[ac (bad hs)];refine ab (ag 18 I (J (ax (ag 2 I (J ?_)))));refine zaa (J5 I I) ?_;exact⟨I,[_,_],I⟩
   |true=>
    rw[hi,aZ] at hs;refine ab (ag 3 I (Jg I I I (J9 I I I (zeV _ _) (ab (ag 5 I (J2 ?_))))));cases hr:(zao (gx X.s (c1+k))==zao (gx X.s (s.at_+k))) with
    |true=>
     rw[hr] at hs;refine ae (ag 9 I (J (zae ?_)))
     (refine aq 0 (ih (k+1) (⟨by omega,step hs⟩) (by omega)) ?_ I;exact⟨I,I,I,ai some nx,trivial⟩)
    |false=>
     rw[hr] at hs;rw[ac (bad hs)];refine ae (ag 9 I (J (ax (ag 2 I (J ?_)))));refine zaa (J5 I I) ?_;exact⟨I,[_,_],I⟩
 ·have q:¬(k:Int)<c2 - c1:=ao q
  have ee:zgv X.fl X.s c1 s.at_ (c2 - c1).toNat=true:=List.all_eq_true.2 fun i hi=>hm i (by have:=List.mem_range.1 hi;omega);rw[af ee];refine ae (ag 2 I (J (ae (ag 2 I (Jo okL (zaC I I I I I (by decide) (by decide)) I (O (J1 okL I (.head _) I I I I (ab (Jo okL (zaC I I I I I (by decide) (by decide)) I (O (J1 okL I (.head _) I I I I (ab (ag 5 I (J ?_))))))))))))));rw[hw3];refine zaa (J5 I I) ?_;exact⟨I,[_,_],I⟩
def gbV:Option Pat→A
 |some z=>.tup [.agg (fstL z.l).C,.bool true]
 |none=>.tup [.agg zP,.bool false]
theorem zir{l:List Pat}{k:Nat}{y:Pat}(h:l[k]?=some y):opnL (l.take (k+1))=opnL (l.take k)++opnP y:=by
 rw[cd,h,zfd];simp[opnL]
theorem zp6{l:List Pat}{y z:Pat}(hy:y∈l)(hz:z∈opnP y):z∈opnL l:=by
 induction l with
 |nil=>cases hy
 |cons a l ih=>
  rw[opnL];rcases List.mem_cons.1 hy with rfl|hy
  ·exact cF _ hz
  ·exact bI _ (ih hy)
theorem ziB(n:Int)(x:Pat):(∀z∈opnP x,∃y,z.l=[y])→PTr Tryz.prog 225 [.agg x.C,i64 n] (gbV ((opnP x).find? fun z=>z.n==n)):=by
 induction x using Pat.ind with|h x IH=>_
 intro hx;refine aC (N:=42) Tryz.func225 I I I ?_;refine Jv (t:=0) I (za1.agg zjh (za1.ds _)) fun hlen=>?_;rw[ak] at hlen;have hop:opnP x=(if x.op=7 then [x] else [])++opnL x.l:=zem x
 have key:(¬(x.op=7∧x.n=n))→(opnP x).find? (fun z=>z.n==n)=(opnL x.l).find? fun z=>z.n==n:=fun hno=>by
  rw[hop];by_cases h7:x.op=7
  ·have hn:(x.n==n)=false:=by simpa using fun e=>hno ⟨h7,e⟩
   rw[af h7,List.singleton_append,List.find?_cons,hn]
  ·rw[ac h7,b7]
 have hsub:∀y∈x.l,∀z∈opnP y,∃u,z.l=[u]:=fun y hy z hz=>hx z (by rw[hop];exact bI _ (zp6 hy hz));refine ae0 (ag 2 I (O (Jc 2 I I (zab I) I (ab (O (Jf okL I I I (fun _ _=>(ab (ag 10 I (J3 ?_))))))))));rename_i r4 _;refine ab (J3 ?_)
 (refine J6 I I I (fun h7=>?_) (fun h7=>?_))
 ·have h7:x.op=7:=by simpa using h7
  refine ab (ag 7 I (J2 ?_))
  (refine J4 I (fun hn=>?_) (fun hn=>?_))
  ·have hn:x.n=n:=by simpa using hn
   obtain⟨y,hy⟩:=hx x (by rw[hop,af h7];exact cF _ (List.mem_singleton.2 I));have hd:(x.l.map Pat.cells)[((0:Nat):Int).toNat]?=some y.C:=by rw[hy];simp[Pat.cells_eq]
   refine ae (ag 4 I (Jo okL (zad I I I I I (am _) (hd) I) I (ag 1 I (O (J8 okL I I I (zab I) I I I .here I I I (ab (ag 5 I (J ?_))))))));refine zaa (zac.cellTmp okL I I (.head _) I I I I) ?_;have hres:(opnP x).find? (fun z=>z.n==n)=some x:=by rw[hop,af h7,List.singleton_append,List.find?_cons,show(x.n==n)=true by simpa using hn]
   rw[hres]
   show _=A.tup [.agg (fstL x.l).C,.bool true]
   rw[show fstL x.l=y by rw[hy];rfl]
   rfl
  ·have hn:x.n≠n:=by simpa using hn
   refine ae (ag 9 I (J2 ?_));refine Jj (α:=Nat) (fun a=>x.l.length - a) (fun a=>[(1,i64 n),(2,.dp x.C),(4,.ptr r4 7 0 0),(6,i64 a)]) (fun a=>[(r4,.row 25 7 [zP])]) (fun a=>a≤x.l.length∧(opnL (x.l.take a)).find? (fun z=>z.n==n)=none) 0 ⟨aM _,I⟩ ?_ (ar _) ?_
   ·simp only[zaz]
    refine⟨I,I,I,I,trivial⟩
   rintro k ⟨hk,hf⟩ ih;refine ae0 (ag 10 I (J2 ?_));rw[ak]
   (refine J4 I (fun h=>?_) (fun h=>?_))
   ·have h:=aj h
    obtain⟨y,hy⟩:∃y,x.l[k]?=some y:=⟨x.l[k],by simp[show k<x.l.length by omega]⟩
    have nx:=nxt (k:=k) (n:=x.l.length) (by omega) hlen;have hym:=List.mem_of_getElem? hy;have hc:=IH y hym (hsub y hym);have htk:=zir hy;cases hfy:(opnP y).find? fun z=>z.n==n with
    |some z=>
     rw[hfy] at hc;unfold gbV at hc;have hres:(opnL x.l).find? (fun z=>z.n==n)=some z:=by
      have e:opnL x.l=opnL (x.l.take (k+1))++opnL (x.l.drop (k+1)):=by rw[←zfd,d7]
      rw[e,htk,List.find?_append,List.find?_append,hf,hfy];rfl
     refine ae (ag 9 I (Jo okL (zad I I I I I (by omega) (getC hy) I) I (ag 2 I (O (J9 I I I (hc) (ab (ag 3 I (O (Jf okL I I I (fun _ _=>(ab (O (J8 okL I I I (zab I) I I I .here I I I (ab (ag 11 I (O (J1 okL I (.head _) I I I I (ab (O (J8 okL I I I (zab I) I I I (.there .here) I I I (ab (ag 6 I (J (ax (ag 2 I (J ?_))))))))))))))))))))))))));refine zaa (zac.cellTmp okL I I (.tail _ (.head _)) I I I I) ?_;rw[key (fun e=>hn e.2),hres];rfl
    |none=>
     rw[hfy] at hc;unfold gbV at hc;refine ae (ag 9 I (Jo okL (zad I I I I I (by omega) (getC hy) I) I (ag 2 I (O (J9 I I I (hc) (ab (ag 3 I (O (Jf okL I I I (fun _ _=>(ab (O (J8 okL I I I (zab I) I I I .here I I I (ab (ag 17 I (J (zae ?_)))))))))))))))))
     (refine aq 1 (ih (k+1) (⟨by omega,by rw[htk,List.find?_append,hf,hfy];rfl⟩) (by omega)) ?_ I;exact⟨I,I,I,ai some nx,trivial⟩)
   ·have h:=ao h
    rw[bF (by omega)] at hf;refine ae (ag 2 I (J (ae (ag 3 I (O (J8 okL I I I (zab I) I I I .here I I I (ab (ag 4 I (J ?_)))))))));refine zaa (zac.cellTmp okL I I (.head _) I I I I) ?_;rw[key (fun e=>hn e.2),hf];rfl
 ·have h7:x.op≠7:=by simpa using h7
  refine ab (ag 17 I (J2 ?_));refine Jj (α:=Nat) (fun a=>x.l.length - a) (fun a=>[(1,i64 n),(2,.dp x.C),(4,.ptr r4 7 0 0),(6,i64 a)]) (fun a=>[(r4,.row 25 7 [zP])]) (fun a=>a≤x.l.length∧(opnL (x.l.take a)).find? (fun z=>z.n==n)=none) 0 ⟨aM _,I⟩ ?_ (ar _) ?_
  ·simp only[zaz]
   refine⟨I,I,I,I,trivial⟩
  rintro k ⟨hk,hf⟩ ih;refine ae0 (ag 10 I (J2 ?_));rw[ak]
  (refine J4 I (fun h=>?_) (fun h=>?_))
  ·have h:=aj h
   obtain⟨y,hy⟩:∃y,x.l[k]?=some y:=⟨x.l[k],by simp[show k<x.l.length by omega]⟩
   have nx:=nxt (k:=k) (n:=x.l.length) (by omega) hlen;have hym:=List.mem_of_getElem? hy;have hc:=IH y hym (hsub y hym);have htk:=zir hy;cases hfy:(opnP y).find? fun z=>z.n==n with
   |some z=>
    rw[hfy] at hc;unfold gbV at hc;have hres:(opnL x.l).find? (fun z=>z.n==n)=some z:=by
     have e:opnL x.l=opnL (x.l.take (k+1))++opnL (x.l.drop (k+1)):=by rw[←zfd,d7]
     rw[e,htk,List.find?_append,List.find?_append,hf,hfy];rfl
    refine ae (ag 9 I (Jo okL (zad I I I I I (by omega) (getC hy) I) I (ag 2 I (O (J9 I I I (hc) (ab (ag 3 I (O (Jf okL I I I (fun _ _=>(ab (O (J8 okL I I I (zab I) I I I .here I I I (ab (ag 11 I (O (J1 okL I (.head _) I I I I (ab (O (J8 okL I I I (zab I) I I I (.there .here) I I I (ab (ag 6 I (J (ax (ag 2 I (J ?_))))))))))))))))))))))))));refine zaa (zac.cellTmp okL I I (.tail _ (.head _)) I I I I) ?_;rw[key (fun e=>h7 e.1),hres];rfl
   |none=>
    rw[hfy] at hc;unfold gbV at hc;refine ae (ag 9 I (Jo okL (zad I I I I I (by omega) (getC hy) I) I (ag 2 I (O (J9 I I I (hc) (ab (ag 3 I (O (Jf okL I I I (fun _ _=>(ab (O (J8 okL I I I (zab I) I I I .here I I I (ab (ag 17 I (J (zae ?_)))))))))))))))))
    (refine aq 1 (ih (k+1) (⟨by omega,by rw[htk,List.find?_append,hf,hfy];rfl⟩) (by omega)) ?_ I;exact⟨I,I,I,ai some nx,trivial⟩)
  ·have h:=ao h
   rw[bF (by omega)] at hf;refine ae (ag 2 I (J (ae (ag 3 I (O (J8 okL I I I (zab I) I I I .here I I I (ab (ag 4 I (J ?_)))))))));refine zaa (zac.cellTmp okL I I (.head _) I I I I) ?_;rw[key (fun e=>h7 e.1),hf];rfl
def srch(B:Bk)(root:Pat)(n:Nat):Nat→Int→Wk→Option (BOut×Wk)
 |0,_,w=>some (.no,w)
 |k+1,p,w=>match brun B n (.try_ root (s0 p) [.fin]) w with
  |none=>none
  |some (.yes s,w')=>some (.yes s,w')
  |some (.tired,w')=>some (.tired,w')
  |some (_,w')=>srch B root n k (p+1) w'
set_option maxHeartbeats 1000000 in
theorem search_tr{X:Mt}{body:Int→Pat}{g:Int}(hP:Prog zbI X (bkP X body fun _=>true) g X.s.length)(hg:1≤X.ge.length∧X.ge.length≤10){a:MS}(ha:MOk zbI X a)(hf:zaJ (bkP X body fun _=>true) a.w)(hx:Vd g X.root){p:Int}(h0:0≤p)(hp:p≤X.s.length)
  {n:Nat} {o:BOut} {w':Wk} (hr:srch (bkP X body fun _=>true) X.root n (X.s.length+1 - p.toNat) p a.w=some (o,w')):
  TrG [] Tryz.prog 73 [X.p,i64 p] (Hm X a) fun v H'=>v=.tup [.agg (zbr X (outS o)),.bool (zjr o),i64 (errB o)]∧∃a' G,a'.w=w'∧MOk zbI X a'∧H'.Perm (G++Hm X a'):=by
 have hN:=hP.hN;refine Jb (N:=37) Tryz.func73 I I I ?_;refine ae0 (ag 2 I (O (Jf okL I I I (fun _ _=>(ab (ag 12 I (J2 ?_)))))));rename_i r4 _;refine Jj (α:=Int×MS) (fun b=>X.s.length+1 - b.1.toNat) (fun b=>[(0,X.p),(4,.ptr r4 3 0 0),(7,i64 b.1)]) (fun b=>(r4,.row 37 3 [zbr X none])::Hm X b.2)
  (fun b=>0≤b.1∧b.1≤X.s.length+1∧MOk zbI X b.2∧zaJ (bkP X body fun _=>true) b.2.w∧srch (bkP X body fun _=>true) X.root n (X.s.length+1 - b.1.toNat) b.1 b.2.w=some (o,w')) (p,a) ⟨h0,by simp only;omega,ha,hf,hr⟩ ?_ (ar _) ?_
 ·simp only[zaz]
  refine⟨I,I,I,trivial⟩
 rintro⟨q,b⟩ ⟨hq0,hq1,hb,hfb,hs⟩ ih;simp only at hq0 hq1 hb hfb hs;rw[zbd];refine ae0 (ag 7 I (O (J1 okL I (.tail _ (.head _)) I I I I (ab (ag 4 I (J2 ?_))))));rw[ak]
 (refine J4 I (fun h=>?_) (fun h=>?_))
 ·have h:q≤(X.s.length:Int):=aj h
  have nx:A.int .i64 (IntKind.i64.wrap (q+1))=.int .i64 (q+1):=by rw[zap ⟨by omega,by omega⟩]
  have ek:X.s.length+1 - q.toNat=(X.s.length+1 - (q+1).toNat)+1:=by omega
  rw[ek,srch] at hs;cases h1:brun (bkP X body fun _=>true) n (.try_ X.root (s0 q) [.fin]) b.w with
  |none=>rw[h1] at hs;cases hs
  |some r=>
   obtain⟨o1,w1⟩:=r;have hm:=match_tr hP hg hb hfb hx hq0 h h1;have hro:=zhT hP.hB n _ _ _ _ hfb (znm hx hq0 h) h1;rw[h1] at hs;refine ae (ag 8 I (J3 ?_));refine J7 (Jd [_] I I I I hm fun v H' hv=>?_)
   obtain⟨rfl,b',G,e1,e2,e3⟩:=hv;refine Jl (H':=G++((r4,.row 37 3 [zbr X none])::Hm X b')) ((e3.cons _).trans List.perm_middle.symm) (Js G ?_)
   subst e1;cases o1 with
   |yes s=>
    cases hs;refine ab (ag 4 I (O (Jf okL I I I (fun _ _=>(ab (O (J8 okL I I I (zab I) I I I .here I I I (ab (ag 16 I (O (J1 okL I (.head _) I I I I (ab (ag 2 I (O (J8 okL I I I (zab I) I I I (.there .here) I I I (ab (ag 7 I (J (ax (ag 2 I (J ?_)))))))))))))))))))));refine zaa (Ju okL I I (.tail _ (.head _)) I I I I I) ?_;exact⟨I,b',[_,_],I,e2,.refl _⟩
   |tired=>
    cases hs;refine ab (ag 4 I (O (Jf okL I I I (fun _ _=>(ab (O (J8 okL I I I (zab I) I I I .here I I I (ab (ag 16 I (O (J1 okL I (.head _) I I I I (ab (ag 2 I (O (J8 okL I I I (zab I) I I I (.there .here) I I I (ab (ag 7 I (J (ax (ag 2 I (J ?_)))))))))))))))))))));refine zaa (Ju okL I I (.tail _ (.head _)) I I I I I) ?_;exact⟨I,b',[_,_],I,e2,.refl _⟩
   |no=>
    refine ab (ag 4 I (O (Jf okL I I I (fun _ _=>(ab (O (J8 okL I I I (zab I) I I I .here I I I (ab (ag 22 I (J (zae ?_)))))))))))
    (refine aq 1 (ih ((q+1,b')) (⟨by simp only;omega,by simp only;omega,e2,hro.fr (fun h=>nomatch h),hs⟩) (by omega)) ?_ I;exact⟨I,I,ai some nx,trivial⟩)
   |cut j=>
    refine ab (ag 4 I (O (Jf okL I I I (fun _ _=>(ab (O (J8 okL I I I (zab I) I I I .here I I I (ab (ag 22 I (J (zae ?_)))))))))))
    (refine aq 1 (ih ((q+1,b')) (⟨by simp only;omega,by simp only;omega,e2,hro.fr (fun h=>nomatch h),hs⟩) (by omega)) ?_ I;exact⟨I,I,ai some nx,trivial⟩)
 ·have h:¬q≤(X.s.length:Int):=ao h
  have ek:X.s.length+1 - q.toNat=0:=by omega
  rw[ek,srch] at hs;cases hs;refine ae (ag 2 I (J (ae (ag 3 I (O (J8 okL I I I (zab I) I I I .here I I I (ab (ag 5 I (J ?_)))))))));refine zaa (Ju okL I I (.head _) I I I I I) ?_;exact⟨I,b,[_],I,hb,.refl _⟩
def bkF(x:Pat)(fl s:List UInt8)(stop:List Int→Bool):Bk:=bkP (mtX x fl s 0 0 0) (zcx x) stop
theorem zlH{x:Pat}{fl s:List UInt8}{X:Mt}(h:NewX x fl s X)(stop:List Int→Bool):bkP X (zcx x) stop=bkF x fl s stop:=by
 obtain⟨m,rg,rw,root,ss,fold,lines,all,mask,ge⟩:=X;obtain⟨h1,h2,h3,h4,h5,h6,h7⟩:=h;simp only at h1 h2 h3 h4 h5 h6 h7;subst h2 h3 h4 h5 h6;rfl
def zfs(ng:Nat):Option Sg→List A
 |some s=>[i64 s.keep,i64 s.at_,.ds ((ze1 ng s.caps).map zaf)]
 |none=>[i64 0,i64 0,.nils]
theorem zhM(X:Mt)(q:Option Sg):zbr X q=zfs X.ge.length q:=by cases q<;>rfl
def w0:Wk:=⟨0,0,[],[]⟩
def ngOf(x:Pat):Nat:=(opnP x).length+1
theorem zg4{x:Pat}(hb:zaD x≤1000000){fl s:List UInt8}{p:Int}(he:zam x fl s p=0){X:Mt}(h:NewX x fl s X)(stop:List Int→Bool):
  Prog zbI X (bkP X (zcx x) stop) (opnP x).length X.s.length∧(1≤X.ge.length∧X.ge.length≤10)∧X.ge.length=ngOf x∧MOk zbI X ms0∧Vd (opnP x).length X.root∧0≤p∧p≤X.s.length:=by
 unfold zam at he;by_cases h1:valP x=0
 ·rw[ac (fun k=>k h1)] at he
  by_cases h2:flgM 0 fl=false
  ·rw[af h2] at he;cases he
  rw[ac h2] at he;by_cases h3:subE s=0
  ·rw[ac (fun k=>k h3)] at he
   by_cases h4:p<0∨p>((rns s).length:Int)
   ·rw[af h4] at he;cases he
   obtain⟨v1,v2,v3,v4,v5⟩:=zd5 hb h1;have hl:X.ge.length=ngOf x:=by rw[h.ge];simp[grpE,ngOf]
   have hsl:(rns s).length≤200:=by
    unfold subE at h3;split at h3
    ·rename_i k;exact absurd h3 k
    ·split at h3
     ·cases h3
     ·omega
   refine⟨zqn (by rw[h.s];omega) (by omega) (fun n k0 k1=>zmP v1 k0 k1) (fun n k0 k1=>?_),⟨by rw[hl,ngOf];omega,by rw[hl,ngOf];omega⟩,hl,⟨fun _=>rfl,by simp[ms0],⟨am _,am _⟩,⟨[],I,fun l hl=>by cases hl⟩⟩,by rw[h.root];exact v1,by omega,by rw[h.s];omega⟩
   obtain⟨i,hi⟩:=zqo v3 k0 k1;exact⟨i,by rw[h.ge,ziJ,hi];rfl⟩
  ·rw[af h3] at he;exact absurd he h3
 ·rw[af h1] at he;exact absurd he h1
def resA(x:Pat)(e:Int)(o:BOut):A:=if e≠0 then .tup [.agg (zfs 0 none),.bool false,i64 e] else .tup [.agg (zfs (ngOf x) (outS o)),.bool (zjr o),i64 (errB o)]
theorem ziw(x:Pat)(hb:zaD x≤1000000)(fl s:List UInt8)(p:Int)(o:BOut)(w':Wk)(hr:zam x fl s p=0→∃n,brun (bkF x fl s fun _=>true) n (.try_ x (s0 p) [.fin]) w0=some (o,w')):
  PTrG tabG Tryz.prog 22 [.agg x.C,.str fl,.str s,i64 p] (resA x (zam x fl s p) o):=by
 refine cf (N:=31) Tryz.func22 I I I ?_;refine ae0 (ag 2 I (O (Jc 4 I I (zab I) I (ab (O (Jf okL I I I (fun _ _=>(ab (ag 10 I (J3 ?_))))))))));rename_i r8 _;refine J7 (Jd [_] I I I (by rw[aQ]) (newMatcher_tr x hb fl s p) fun v H' hv=>?_)
 obtain⟨hv1,hv2⟩:=hv;by_cases he:zam x fl s p=0
 ·obtain⟨X,G,hX,rfl,hp⟩:=hv2 he
  obtain⟨q1,q2,q3,q4,q5,q6,q7⟩:=zg4 hb he hX (fun _=>true);obtain⟨n,hr⟩:=hr he;have hm:=match_tr q1 q2 q4 I q5 q6 q7 (n:=n) (o:=o) (w':=w') (by rw[hX.root,zlH hX];exact hr);refine Jl (H':=G++((r8,.row 37 3 [zbr X none])::Hm X ms0)) ((hp.cons _).trans List.perm_middle.symm) (Js G ?_)
  rw[show resA x (zam x fl s p) o=.tup [.agg (zfs (ngOf x) (outS o)),.bool (zjr o),i64 (errB o)] from ac (fun h=>h he),←q3,←zhM]
  refine ab (ag 21 I (J3 ?_));refine J7 (Jd [_] I I I I hm.weak fun v H' hv=>?_)
  obtain⟨rfl,a',G',e1,e2,e3⟩:=hv;cases o with
  |yes s=>
   refine ab (ag 3 I (O (J8 okL I I I (zab I) I I I .here I I I (ab (ag 5 I (J ?_))))));refine zaa (Ju okL I I (.head _) I I I I I) ?_;rfl
  |tired=>
   refine ab (ag 3 I (O (J8 okL I I I (zab I) I I I .here I I I (ab (ag 5 I (J ?_))))));refine zaa (Ju okL I I (.head _) I I I I I) ?_;rfl
  |no=>
   refine ab (ag 3 I (O (J8 okL I I I (zab I) I I I .here I I I (ab (ag 5 I (J ?_))))));refine zaa (Ju okL I I (.head _) I I I I I) ?_;rfl
  |cut j=>
   refine ab (ag 3 I (O (J8 okL I I I (zab I) I I I .here I I I (ab (ag 5 I (J ?_))))));refine zaa (Ju okL I I (.head _) I I I I I) ?_;rfl
 ·have hv:=hv1 he
  subst hv;have hne:(zam x fl s p !=0)=true:=by simpa using he
  rw[show resA x (zam x fl s p) o=.tup [.agg (zfs 0 none),.bool false,i64 (zam x fl s p)] from af he]
  refine ab (ag 14 I (J2 ?_));rw[hne];refine ae (ag 5 I (O (J8 okL I I I (zab I) I I I .here I I I (ab (ag 6 I (J ?_))))));refine zaa (Ju okL I I (.head _) I I I I I) ?_;rfl
theorem zgM(x:Pat)(hb:zaD x≤1000000)(fl s:List UInt8)(p:Int)(o:BOut)(w':Wk)(hr:zam x fl s p=0→∃n,srch (bkF x fl s fun _=>true) x n ((rns s).length+1 - p.toNat) p w0=some (o,w')):
  PTrG tabG Tryz.prog 26 [.agg x.C,.str fl,.str s,i64 p] (resA x (zam x fl s p) o):=by
 refine cf (N:=31) Tryz.func26 I I I ?_;refine ae0 (ag 2 I (O (Jc 4 I I (zab I) I (ab (O (Jf okL I I I (fun _ _=>(ab (ag 10 I (J3 ?_))))))))));rename_i r8 _;refine J7 (Jd [_] I I I (by rw[aQ]) (newMatcher_tr x hb fl s p) fun v H' hv=>?_)
 obtain⟨hv1,hv2⟩:=hv;by_cases he:zam x fl s p=0
 ·obtain⟨X,G,hX,rfl,hp⟩:=hv2 he
  obtain⟨q1,q2,q3,q4,q5,q6,q7⟩:=zg4 hb he hX (fun _=>true);obtain⟨n,hr⟩:=hr he;have hm:=search_tr q1 q2 q4 I q5 q6 q7 (n:=n) (o:=o) (w':=w') (by rw[hX.root,zlH hX,hX.s];exact hr);refine Jl (H':=G++((r8,.row 37 3 [zbr X none])::Hm X ms0)) ((hp.cons _).trans List.perm_middle.symm) (Js G ?_)
  rw[show resA x (zam x fl s p) o=.tup [.agg (zfs (ngOf x) (outS o)),.bool (zjr o),i64 (errB o)] from ac (fun h=>h he),←q3,←zhM]
  refine ab (ag 21 I (J3 ?_));refine J7 (Jd [_] I I I I hm.weak fun v H' hv=>?_)
  obtain⟨rfl,a',G',e1,e2,e3⟩:=hv;cases o with
  |yes s=>
   refine ab (ag 3 I (O (J8 okL I I I (zab I) I I I .here I I I (ab (ag 5 I (J ?_))))));refine zaa (Ju okL I I (.head _) I I I I I) ?_;rfl
  |tired=>
   refine ab (ag 3 I (O (J8 okL I I I (zab I) I I I .here I I I (ab (ag 5 I (J ?_))))));refine zaa (Ju okL I I (.head _) I I I I I) ?_;rfl
  |no=>
   refine ab (ag 3 I (O (J8 okL I I I (zab I) I I I .here I I I (ab (ag 5 I (J ?_))))));refine zaa (Ju okL I I (.head _) I I I I I) ?_;rfl
  |cut j=>
   refine ab (ag 3 I (O (J8 okL I I I (zab I) I I I .here I I I (ab (ag 5 I (J ?_))))));refine zaa (Ju okL I I (.head _) I I I I I) ?_;rfl
 ·have hv:=hv1 he
  subst hv;have hne:(zam x fl s p !=0)=true:=by simpa using he
  rw[show resA x (zam x fl s p) o=.tup [.agg (zfs 0 none),.bool false,i64 (zam x fl s p)] from af he]
  refine ab (ag 14 I (J2 ?_));rw[hne];refine ae (ag 5 I (O (J8 okL I I I (zab I) I I I .here I I I (ab (ag 6 I (J ?_))))));refine zaa (Ju okL I I (.head _) I I I I I) ?_;rfl
theorem zmR{p:Pat→Bool}:∀{l:List Pat} {i:Nat} {z:Pat},l[i]?=some z→p z=true→(∀(j:Nat) (w:Pat),j<i→l[j]?=some w→p w=false)→l.find? p=some z
 |[],i,z,h,_,_=>by simp at h
 |y::l,0,z,h,hz,_=>by
  simp at h
  subst h;rw[List.find?_cons,hz]
 |y::l,i+1,z,h,hz,hj=>by
  rw[List.find?_cons,hj 0 y (by omega) I];exact zmR (i:=i) (by simpa using h) hz fun j w h1 h2=>hj (j+1) w (by omega) (by simpa using h2)
theorem zl8{x:Pat}(h:zbA [] (opnP x)=true){n:Int}(h1:1≤n)(hn:n≤(opnP x).length):∃z,(opnP x).find? (fun z=>z.n==n)=some z∧zcx x n=fstL z.l:=by
 have hi:n.toNat - 1<(opnP x).length:=by omega
 have hy:(opnP x)[n.toNat - 1]?=some ((opnP x)[n.toNat - 1]):=List.getElem?_eq_getElem hi;refine⟨(opnP x)[n.toNat - 1],zmR hy ?_ fun j w hj hw=>?_,?_⟩
 ·have:=zeq (opnP x) [] h _ _ hy
  simp only[br] at this;rw[bu,this];omega
 ·have:=zeq (opnP x) [] h _ _ hw
  simp only[br] at this;rw[b8,this];omega
 ·unfold zcx
  rw[ac (by omega),hy];rfl
def bkG(x:Pat)(fl s:List UInt8)(mask:Int)(stop:List Int→Bool)(tau:Nat→Nat→Bool):Bk:=
 {bkP {mtX x fl s 0 0 0 with mask:=mask} (zcx x) stop with tau:=tau}
structure RtOk(x:Pat)(fl s:List UInt8)(X:Rt):Prop where
 x:X.x=x
 fl:X.fl=fl
 s:X.s=rns s
theorem zj2{x:Pat}(hb:zaD x≤1000000)(hv:valP x=0){fl s:List UInt8}(hlen:(rns s).length≤1000000){X:Rt}(h:RtOk x fl s X)(mask:Int)(hbit:∀n,0≤n→n≤9→bitM mask n=bitR X.row n)(stop:List Int→Bool)(hstop:∀acc p,stop (acc++[p])=zez X acc p):
  RProg (alkV X) X (bkG x fl s mask stop tauR) (opnP x).length (rns s).length:=by
 obtain⟨v1,v2,v3,v4,v5⟩:=zd5 hb hv;have hch:=zpe s;have hN:X.s.length≤1000000:=by rw[h.s];exact hlen
 have hfold:({mtX x fl s 0 0 0 with mask:=mask}:Mt).fold=hasM fl 105:=zbW fl 105
 have hline:({mtX x fl s 0 0 0 with mask:=mask}:Mt).lines=hasM fl 109:=zbW fl 109
 have hall:({mtX x fl s 0 0 0 with mask:=mask}:Mt).all=hasM fl 115:=zbW fl 115
 refine {
  hB:=?_
  tau:=rfl
  hN:=hlen
  sN:=by rw[h.s]
  takes:=fun a x' p hV hx ho h0 hp=>?_
  holds:=fun a x' p hx ho h0 hp=>?_
  copied:=fun a s' n hs h1 h9=>?_
  span:=fun y hy=>⟨(spanP y).2,hy.len.2.2.1,by
   have:=refSpan_tr y hy.len.1;rw[hy.len.2.2.2] at this;rw[hy.len.2.2.2];exact this⟩
  body0:=by rw[h.x];rfl
  body:=fun n h1 hn=>?_
  bit:=fun n h1 h2=>hbit n h1 h2
  stop:=hstop}
 ·refine {
   takes:=fun x' a _ h0 ha ht=>?_
   copied:=fun c a h0 ha hc=>?_
   least:=fun x' hx=>hx.len.2.1
   body:=fun n k0 k1=>zmP v1 k0 k1
   g9:=by omega}
  ·have ht:zbX {mtX x fl s 0 0 0 with mask:=mask} x' a=true:=ht
   by_cases h:a=((rns s).length:Int)
   ·rw[zbX,af (show a=((({mtX x fl s 0 0 0 with mask:=mask}:Mt).s.length:Nat):Int) from h)] at ht;cases ht
   ·omega
  ·show a+zbJ (fl.contains 105) (rns s) c a≤(rns s).length
   unfold zbJ;split
   ·omega
   ·split<;>omega
 ·have e:zbX {mtX x fl s 0 0 0 with mask:=mask} x' p=takR fl (rns s) x' p:=zny hx ho hfold hall hch h0 hp
  refine(zm2 X a hN x' p h0 ho hV).mono fun v H' ⟨h1,h2⟩=>⟨?_,h2⟩;rw[h1,h.fl,h.s,←e];rfl
 ·have e:zco (fl.contains 109) (rns s) x' p=zc0 fl (rns s) x' p:=by rw[zbW];exact znr ho hch h0 hp
  have k:∀{v:A} {H':Heap},(v=.bool (zc0 X.fl X.s x' p)∧H'=Hr X a)→v=.bool ((bkG x fl s mask stop tauR).holds x' p)∧H'=Hr X a:=fun hh=>⟨by rw[hh.1,h.fl,h.s,←e];rfl,hh.2⟩
  have hp':p≤X.s.length:=by rw[h.s];exact hp
  obtain⟨op,n,mn,mx,nm,st,l⟩:=x';rcases ho with ho|ho|ho
  ·have ho:op=11:=ho
   subst ho;exact(znR X a hN n mn mx nm st l p h0 hp').mono fun v H'=>k
  ·have ho:op=12:=ho
   subst ho;exact(znP X a hN n mn mx nm st l p h0 hp').mono fun v H'=>k
  ·have ho:op=13:=ho
   subst ho;exact(znz X a hN n mn mx nm st l p h0 hp').mono fun v H'=>k
 ·have hcap:=hs.cap _ (zj4 hs n (by omega) h9)
  have hp':s'.at_≤X.s.length:=by rw[h.s];exact hs.atN
  have hc:((capN s' n).1=-1∧(capN s' n).2=-1)∨(0≤(capN s' n).1∧(capN s' n).1≤(capN s' n).2∧(capN s' n).2≤(X.s.length:Int)):=by rw[h.s];exact hcap
  refine(zk7 X a hN s' hs.len n ⟨h1,h9⟩ hs.at0 hp' (capN s' n).1 (capN s' n).2 I hc).mono fun v H' ⟨e1,e2⟩=>⟨?_,e2⟩;have e:zbJ (fl.contains 105) (rns s) (capN s' n) s'.at_=copR fl (rns s) (capN s' n) s'.at_:=by rw[zbW];exact zrn hch hs.at0 hs.atN hcap
  rw[e1,h.fl,h.s,←e];rfl
 ·obtain⟨z,hz1,hz2⟩:=zl8 v3 h1 hn
  have hsh:∀z∈opnP x,∃y,z.l=[y]:=fun z hz=>by
   obtain⟨k1,k2⟩:=zl7 x v1 z hz;exact k1.shape.2.1 (.inr (.inl k2))
  have hg:=ziB n x hsh;rw[hz1] at hg;refine⟨true,?_⟩;rw[h.x];have e:(bkG x fl s mask stop tauR).body n=fstL z.l:=hz2;rw[e];exact hg
def zst(o:Oper):Nat:=match o.op with
 |.box .. =>4
 |.alloc .. =>4
 |.buildSlice .. =>4
 |.load .. =>1
 |.store .. =>2
 |.call {callee:=.builtin .append,.. }=>2
 |.call {callee:=.value _,.. }=>2
 |_=>0
def rs0(n:Nat):RS:={w:=w0,td:=false,cg:=none,bar:=.nilp,fd:=zSg,fr:=0,ae:=List.replicate n none}
def rt0(x:Pat)(fl s:List UInt8)(m al:Nat):Rt:={m:=m,al:=al,en:=none,x:=x,fl:=fl,s:=rns s,row:=1023,most:=0,whole:=false}
theorem zrU(X:Rt):RM (alkV X) X (rs0 X.s.length):=⟨fun _=>rfl,by simp[rs0,w0],by
 refine⟨by simp[rs0],fun i l hi=>?_⟩
 simp only[rs0,List.getElem?_replicate] at hi;split at hi<;>simp at hi⟩
theorem zgB(x:Pat)(fl s:List UInt8)(hs:s.length≤100000)(hok:rnv s=rns s):TrG [] Tryz.prog 66 [.agg x.C,.str fl,.str s] [] fun v H'=>∃m al G,v=.ptr m 44 0 0∧H'.Perm (G++Hr (rt0 x fl s m al) (rs0 (rns s).length)):=by
 refine Jb (N:=24) Tryz.func66 I I I ?_;have hr:=zfw s (by omega);rw[hok] at hr;refine ae0 (ag 2 I (O (Jc 3 I I (zab I) I (ab (ag 4 I (J2 ?_))))));refine ae (Jq okL hmix (by kernel_rfl) (ag 3 I (Je (aD I I I (J9 I I I (hr) (Ja (Qn_n ⟨I,I⟩))) (ap (ag 1 I (Je (Pl.effN I I I (Jk I I (zab I) I I (fun r hr=>Ja (Qn_n ⟨r,hr,I,I⟩))) (fun _ _=>(ap (ag 9 I (O (J1 okL I (.head _) I I I I (ab (ag 1 I (J3 ?_))))))))))))))));rename_i m _;have hl:(rns s).length≤100000:=cw (zja s) hs;have hm:A.int .i64 (((rns s).map nC).length:Int)=.int .i64 (((rns s).length:Nat):Int):=by rw[ak]
 rw[hm];refine J7 (AOp.makeSlice (n:=(rns s).length) okL I I I I I I I I (by show 24*_≤_;omega) (by unfold maxLen;omega) I fun al _=>?_)
 refine ab (ag 2 I (O (J8 okL I I I (zab I) I I I (.there .here) I I I (ab (ag 9 I (J ?_))))));refine zaa (J5 I I) ?_;refine⟨m,al,[],I,?_⟩;have e:(rs0 (rns s).length).ae.map alE=List.replicate (rns s).length [A.nils]:=by simp[rs0,alE]
 rw[zaZ,e];exact bX _ _ _
def zoi(k:Nat):List (Int×Int):=List.replicate k (-1,-1)++List.replicate (10 - k) (0,0)
theorem zmC(p:Int){k:Nat}(hk:k<10):zcf (stL p p (zoi k) .nilp) (0+2+((k:Nat):Int).toNat*2) [i64 (-1),i64 (-1)]=some (stL p p (zoi (k+1)) .nilp):=by
 have h:k=0∨k=1∨k=2∨k=3∨k=4∨k=5∨k=6∨k=7∨k=8∨k=9:=by omega
 rcases h with rfl|rfl|rfl|rfl|rfl|rfl|rfl|rfl|rfl|rfl<;>rfl
theorem zo9{V:Alk}{X:Rt}{B:Bk}{g:Int}{N:Nat}(hP:RProg V X B g N)(hx:Vd g X.x){a:RS}(ha:RM V X a)(htd:a.td=false)(hf:zaJ B a.w)(hd:a.w.d≤1)(hp2:a.w.p≤2*a.w.r){p:Int}(h0:0≤p)(hp:p≤N){n:Nat}{o:BOut}{w':Wk}
  (hr:brun B n (.try_ X.x (s0 p) [.fin]) a.w=some (o,w')):
  TrG [] Tryz.prog 67 [X.p,i64 p] (Hr X a) fun v H'=>v=.bool (zjr o)∧∃a' G,a'.w=w'∧RM V X a'∧(a'.td=true↔o=.tired)∧(∀e,o=.yes e→a'.fd=e)∧H'.Perm (G++Hr X a'):=by
 have hN:=hP.hN;refine Jb (N:=39) Tryz.func67 I I I ?_;refine ae0 (ag 10 I (O (Jf okL I I I (fun _ _=>(ab (O (J8 okL I I I (zab I) I I I .here I I I (ab (ag 9 I (J2 ?_))))))))));rename_i r5 _;refine Jj (α:=Nat) (fun k=>10 - k) (fun k=>[(0,X.p),(1,i64 p),(5,.ptr r5 23 0 0),(6,i64 k)]) (fun k=>(r5,.row 108 23 [stL p p (zoi k) .nilp])::Hr X a) (fun k=>k≤10) 0 (aM _) ?_ (ar _) ?_
 ·simp only[zaz]
  refine⟨I,I,I,I,trivial⟩
 rintro k hk ih;refine ae0 (ag 7 I (J2 ?_))
 (refine J4 I (fun h=>?_) (fun h=>?_))
 ·have h:(k:Int)<10:=aj h
  have hk10:k<10:=by omega
  have nx:A.int .i64 (IntKind.i64.wrap ((k:Int)+1))=.int .i64 ((k+1:Nat):Int):=by rw[zap ⟨by omega,by omega⟩];rfl
  have k0:(0:Int)≤(k:Int):=by omega
  have k9:(k:Int)<((10:Nat):Int):=by omega
  refine ae (ag 8 I (Jo okL (zaC I I I I I (k0) (k9)) I (J3 ?_)));refine J7 (J8 okL I I I (zab I) I I I .here I (zmC p hk10) I ?_)
  refine ab (ag 8 I (J (zae ?_)))
  (refine aq 0 (ih (k+1) ((by omega)) (by omega)) ?_ I;exact⟨I,I,I,ai some nx,trivial⟩)
 ·have h:¬(k:Int)<10:=ao h
  obtain rfl:k=10:=by omega
  rw[zaZ];refine ae (ag 2 I (J (ae (ag 6 I (O (J8 okL I I I (zab I) I I I (.there .here) I I I (ab (ag 3 I (J2 ?_)))))))));obtain⟨a1,ea1⟩:∃a1:RS,a1={a with fr:=p}:=⟨_,rfl⟩
  have ha1:RM V X a1:=by rw[ea1];exact⟨ha.g,ha.codes,ha.ae⟩
  have hw1:a1.w=a.w:=by rw[ea1]
  have hd1:a1.td=a.td:=by rw[ea1]
  rw[show stL p p (zoi 10) .nilp=stC (s0 p) from rfl]
  have hall:=zqP hP n (.try_ X.x (s0 p) [.fin]);have hT:∀b:Nat,TrG [] Tryz.prog 124 [X.p,.agg X.x.C,.agg (stC (s0 p)),.ptr b 34 0 0] (Hr X a1++[(b,.row 171 34 [fmC 0 zP 0 0 zSt .nilp])]) (zaE V X [b] [.fin] o w'):=fun b=>hall [b] a1 o w' (by rw[hw1];exact⟨znm hx h0 hp,hf,by show a.w.d+0≤1;omega,hp2⟩) ha1 (by rw[hd1];exact htd) I (by rw[hw1];exact hr)
  refine aH zst (fun _=>.nilp) okL hmix (by kernel_rfl) ?_;refine aa I I I (aa I I I (aa I I I (aa I I I (ay I I (.inl I) (J1 okL I (.tail _ (.head _)) I I I I (Ja (ah ⟨I,I⟩))) (ay I I (.inl I) (J1 okL I (.head _) I I I I (Ja (ah ⟨I,I⟩))) (aa I I I ?_))))));refine bK (R:=fun v F=>∃b,v=.ptr b 34 0 0∧F=[(b,.row 171 34 [fmC 0 zP 0 0 zSt .nilp])]) I I I ⟨_,_,0,I,I⟩ (Jk I I (.inr ⟨_,I⟩) I I fun b _=>Ja (ah ⟨_,⟨b,I,I⟩,I⟩)) ?_;rintro v F ⟨b,rfl,rfl⟩;refine aR (R:=fun v H'=>∃a2 G,v=i64 (outR o)∧a2.w=w'∧RM V X a2∧(a2.td=true↔o=.tired)∧(∀e,o=.yes e→a2.fd=e)∧H'=Hr X a2++G) I I I ?_
   (Jp (R:=zaE V X [b] [.fin] o w') (Hc:=Hr X a1++[(b,.row 171 34 [fmC 0 zP 0 0 zSt .nilp])]) (F:=[(r5,.row 108 23 [stC (s0 p)])]) I I I ?_ (by refine Eq.mp ?_ (hT b);congr 1) fun v H' ⟨a2,G,h1,h2,h3,h4,h5,h6,h7⟩=>Jl (H':=Hr X a2++(G++Hk [b] [.fin]++[(r5,.row 108 23 [stC (s0 p)])])) ?_ (Ja (ah ⟨a2,_,h3,h1,h2,h4,h5,I⟩))) ?_
  ·obtain⟨v,H',a2,G,h1,h2,h3,h4,h5,h6,h7⟩:=zcU (V:=V) (X:=X) (k:=[.fin]) (ids:=[b]) (a:=a) hr ha.codes ha.ae
   exact⟨_,_,a2,[],h3,h1,h2,h4,h5,I⟩
  ·rw[ea1]
   show((b,_)::(r5,_)::Hr X {a with fr:=p}).Perm ((Hr X {a with fr:=p}++[_])++[_])
   rw[aI];exact(aN (l₁:=[_,_])).trans (.refl _)
  ·refine(h7.append_right _).trans ?_
   rw[aI,aI,←aI (G) _ _];refine cX ?_ (.refl _);rw[aI,aI];exact zb3
  rintro v H' ⟨a2,G,rfl,h1,h2,h3,h4,rfl⟩;cases o with
  |yes e=>
   have ht:a2.td=false:=by
    cases e2:a2.td with
    |false=>rfl
    |true=>have:=h3.1 e2;cases this
   have hfin:∃a' G',a'.w=w'∧RM V X a'∧(a'.td=true↔BOut.yes e=.tired)∧(∀e',BOut.yes e=.yes e'→a'.fd=e')∧(Hr X a2++G).Perm (G'++Hr X a'):=⟨a2,G,h1,h2,h3,h4,aN⟩;obtain⟨aw,at_,acg,abar,afd,afr,aae⟩:=a2;simp only at ht;subst ht;rw[zaZ,az] at*;refine aa I I I (aa I I I (aa I I I (aa I I I (aa I I I (ay I I (.inl I) (J1 okL I (.head _) I I I I (Ja (ah ⟨I,I⟩))) (aa I I I (aa I I I (aa I I I ?_))))))));refine aF ?_;refine ae (ag 1 I (J ?_));refine zaa (J5 I I) ?_;exact⟨I,hfin⟩
  |no=>
   refine aa I I I (aa I I I (aP I I (aP I I (aP I I (aP I I (aP I I (aa I I I (aa I I I ?_))))))));refine aF ?_;refine ae (ag 1 I (J ?_));refine zaa (J5 I I) ?_;exact⟨I,a2,G,h1,h2,h3,h4,aN⟩
  |tired=>
   refine aa I I I (aa I I I (aP I I (aP I I (aP I I (aP I I (aP I I (aa I I I (aa I I I ?_))))))));refine aF ?_;refine ae (ag 1 I (J ?_));refine zaa (J5 I I) ?_;exact⟨I,a2,G,h1,h2,h3,h4,aN⟩
  |cut j=>
   refine aa I I I (aa I I I (aP I I (aP I I (aP I I (aP I I (aP I I (aa I I I (aa I I I ?_))))))));refine aF ?_;refine ae (ag 1 I (J ?_));refine zaa (J5 I I) ?_;exact⟨I,a2,G,h1,h2,h3,h4,aN⟩
structure Rdy(B:Bk)(w:Wk):Prop where
 fr:zaJ B w
 d:w.d≤1
 p:w.p≤2*w.r
def subN(s:List UInt8):Int:=if subE s=0 then (rns s).length else 0
theorem zhJ(s:List UInt8):PTr Tryz.prog 81 [.str s] (.tup [i64 (subN s),i64 (subE s)]):=by
 refine aC (N:=23) Tryz.func81 I I I ?_;refine ae0 (ag 14 I (J2 ?_))
 (refine J4 I (fun h1=>?_) (fun h1=>?_))
 ·have h1:(s.length:Int)>4096:=aj h1
  have e1:askM s=3:=af h1;have e2:subE s=3:=by rw[subE,e1];rfl
  rw[subN,e2];refine ae (ag 8 I (J ?_));refine zaa (Jm I I I) ?_;rfl
 have h1:¬(s.length:Int)>4096:=ao h1;refine ae (ag 5 I (O (J9 I I I (zjn s) (ab (ag 14 I (J2 ?_))))))
 (refine J4 I (fun h2=>?_) (fun h2=>?_))
 ·have h2:okS s=false:=by simpa using h2
  have e1:askM s=2:=by rw[askM,ac h1,af h2]
  have e2:subE s=2:=by rw[subE,e1];rfl
  rw[subN,e2];refine ae (ag 8 I (J ?_));refine zaa (Jm I I I) ?_;rfl
 have h2:okS s=true:=by simpa using h2
 have e1:askM s=0:=by rw[askM,ac h1,ac (by rw[h2];decide)]
 have hr:=zfw s (by omega);rw[zmD s h2] at hr;refine ae (ag 5 I (O (J9 I I I (hr) (ab (ag 11 I (J2 ?_))))));rw[ak]
 (refine J4 I (fun h3=>?_) (fun h3=>?_))
 ·have h3:((rns s).length:Int)>200:=aj h3
  have e2:subE s=3:=by rw[subE,ac (fun h=>h e1),af (by omega)]
  rw[subN,e2];refine ae (ag 8 I (J ?_));refine zaa (Jm I I I) ?_;rfl
 ·have h3:¬((rns s).length:Int)>200:=ao h3
  have e2:subE s=0:=by rw[subE,ac (fun h=>h e1),ac (by omega)]
  rw[subN,e2];refine ae (ag 10 I (J ?_));refine zaa (Jm I I I) ?_;rfl
def askE(x:Pat)(fl s:List UInt8):Int:=if valP x≠0 then valP x else if flgM 0 fl=false then 1 else subE s
def askN(x:Pat)(fl s:List UInt8):Int:=if askE x fl s=0 then (rns s).length else 0
theorem zkN(x:Pat)(hb:zaD x≤1000000)(fl s:List UInt8):PTr Tryz.prog 74 [.agg x.C,.str fl,.str s] (.tup [i64 (askN x fl s),i64 (askE x fl s)]):=by
 refine aC (N:=21) Tryz.func74 I I I ?_;refine ae0 (ag 2 I (O (Jk I I (zab I) I I (fun _ _=>(ab (ag 6 I (O (J1 okL I (.head _) I I I I (ab (O (J9 I I I (zmn x hb) (ab (ag 10 I (J2 ?_))))))))))))))
 (refine J4 I (fun h1=>?_) (fun h1=>?_))
 ·have h1:valP x≠0:=by simpa using h1
  have e:askE x fl s=valP x:=af h1;rw[askN,e,ac h1];refine ae (ag 9 I (J ?_));refine zaa (Jm I I I) ?_;rfl
 have h1:valP x=0:=by simpa using h1
 refine ae (ag 6 I (O (J9 I I I (ziM fl) (ab (ag 3 I (J2 ?_))))))
 (refine J4 I (fun h2=>?_) (fun h2=>?_))
 ·have h2:flgM 0 fl=false:=by simpa using h2
  have e:askE x fl s=1:=by rw[askE,ac (fun h=>h h1),af h2]
  rw[askN,e];refine ae (ag 8 I (J ?_));refine zaa (Jm I I I) ?_;rfl
 have h2:¬flgM 0 fl=false:=by rw[show flgM 0 fl=true by simpa using h2];exact fun h=>nomatch h
 have e:askE x fl s=subE s:=by rw[askE,ac (fun h=>h h1),ac h2]
 rw[askN,e];have hs:=zhJ s;unfold subN at hs;refine ae (ag 5 I (O (J9 I I I (hs) (ab (ag 7 I (J ?_))))));refine zaa (Jm I I I) ?_;rfl
theorem zkE(x:Pat)(fl s:List UInt8)(p:Int):zam x fl s p=if askE x fl s≠0 then askE x fl s else if p<0∨p>((rns s).length:Int) then 1 else 0:=by
 unfold zam;by_cases h1:valP x=0
 ·rw[ac (fun k=>k h1)]
  by_cases h2:flgM 0 fl=false
  ·rw[af h2,show askE x fl s=1 by rw[askE,ac (fun h=>h h1),af h2]];rfl
  ·rw[ac h2,show askE x fl s=subE s by rw[askE,ac (fun h=>h h1),ac h2]]
 ·rw[af h1,show askE x fl s=valP x from af h1,af h1]
theorem zjd(x:Pat)(hb:zaD x≤1000000)(fl s:List UInt8)(p:Int):PTr Tryz.prog 65 [.agg x.C,.str fl,.str s,i64 p] (i64 (zam x fl s p)):=by
 refine aC (N:=28) Tryz.func65 I I I ?_;rw[zkE];refine ae0 (ag 2 I (O (Jk I I (zab I) I I (fun _ _=>(ab (ag 5 I (O (J1 okL I (.head _) I I I I (ab (ag 2 I (O (J9 I I I (zkN x hb fl s) (ab (ag 14 I (J2 ?_)))))))))))))))
 (refine J4 I (fun h1=>?_) (fun h1=>?_))
 ·have h1:askE x fl s≠0:=by simpa using h1
  rw[af h1];refine ae (ag 8 I (J ?_));refine zaa (J5 I I) ?_;rfl
 have h1:askE x fl s=0:=by simpa using h1
 rw[ac (fun k=>k h1),show askN x fl s=(rns s).length from af h1]
 refine ae (ag 8 I (J3 ?_))
 (refine J6 I I I (fun g1=>?_) (fun g1=>?_))
 ·have g1:p<0:=aj g1
  rw[af (.inl g1)];refine ab (ag 14 I (J ?_));refine zaa (J5 I I) ?_;rfl
 have g1:¬p<0:=ao g1;refine ab (ag 6 I (J2 ?_))
 (refine J4 I (fun g2=>?_) (fun g2=>?_))
 ·have g2:p>((rns s).length:Int):=aj g2
  rw[af (.inr g2)];refine ae (ag 7 I (J ?_));refine zaa (J5 I I) ?_;rfl
 ·have g2:¬p>((rns s).length:Int):=ao g2
  rw[ac (fun h=>h.elim g1 g2)];refine ae (ag 8 I (J ?_));refine zaa (J5 I I) ?_;rfl
def qV(e:Int)(o:BOut):Option Sg:=if e≠0 then none else outS o
def bV(e:Int)(o:BOut):Bool:=if e≠0 then false else zjr o
def eV(e:Int)(o:BOut):Int:=if e≠0 then e else errB o
theorem zph{s:List UInt8}(h:subE s=0):s.length≤4096∧okS s=true∧(rns s).length≤200:=by
 unfold subE at h;split at h
 ·rename_i k;exact absurd h k
 ·rename_i k
  have k:askM s=0:=by simpa using k
  have:=zpq k;split at h
  ·cases h
  ·exact⟨this.1,this.2,by omega⟩
theorem zjX{x:Pat}{fl s:List UInt8}{p:Int}(h:zam x fl s p=0):valP x=0∧subE s=0∧0≤p∧p≤(rns s).length:=by
 unfold zam at h;by_cases h1:valP x=0
 ·rw[ac (fun k=>k h1)] at h
  by_cases h2:flgM 0 fl=false
  ·rw[af h2] at h;cases h
  rw[ac h2] at h;by_cases h3:subE s=0
  ·rw[ac (fun k=>k h3)] at h
   by_cases h4:p<0∨p>((rns s).length:Int)
   ·rw[af h4] at h;cases h
   ·exact⟨h1,h3,by omega,by omega⟩
  ·rw[af h3] at h;exact absurd h h3
 ·rw[af h1] at h;exact absurd h h1
theorem zlP{n:Int}(h0:0≤n)(h9:n≤9):bitM (-1) n=bitR 1023 n:=by
 have:n=0∨n=1∨n=2∨n=3∨n=4∨n=5∨n=6∨n=7∨n=8∨n=9:=by omega
 rcases this with rfl|rfl|rfl|rfl|rfl|rfl|rfl|rfl|rfl|rfl<;>rfl
theorem zsb{B:Bk}(h:B.tau=tauR):Rdy B w0:=⟨by show B.tau 0 0=false;rw[h];rfl,by decide,by decide⟩
def rV(e:Int)(w:Wk):Int:=if e≠0 then 0 else w.r
def zrN(o:Oper):Nat:=match o.op with
 |.load .. =>1
 |.store .. =>2
 |.call {callee:=.value _,.. }=>1
 |_=>0
def bkR(x:Pat)(fl s:List UInt8):Bk:=bkG x fl s (-1) (fun _=>true) tauR
structure Beg(x:Pat)(fl s:List UInt8)(p:Int)(X:Rt):Prop where
 hP:RProg (alkV X) X (bkR x fl s) (opnP x).length X.s.length
 hx:Vd (opnP x).length X.x
 h0:0≤p
 h1:p≤X.s.length
 hg:1≤ngOf x∧ngOf x≤10
 hn:(szP X.x).2.1=((ngOf x - 1:Nat):Int)
 ls:s.length≤4096
 ok:rnv s=rns s
theorem zrM{x:Pat}(hb:zaD x≤1000000){fl s:List UInt8}{p:Int}(he:zam x fl s p=0)(m al:Nat):Beg x fl s p (rt0 x fl s m al):=by
 obtain⟨h1,h2,h3,h4⟩:=zjX he;obtain⟨l1,l2,l3⟩:=zph h2;obtain⟨v1,v2,v3,v4,v5⟩:=zd5 hb h1;have hP:=zj2 hb h1 (fl:=fl) (s:=s) (by omega) (X:=rt0 x fl s m al) ⟨I,I,I⟩ (-1) (fun n h0 h9=>zlP h0 h9) (fun _=>true) (fun _ _=>rfl);exact⟨hP,v1,h3,h4,⟨by unfold ngOf;omega,by unfold ngOf;omega⟩,by show(szP x).2.1=_;rw[zeb x hb];unfold ngOf;simp,l1,zmD s l2⟩
open Go.Lib
structure Rdr where
 m:Nat
 sb:Nat
 pb:Nat
 s:List UInt8
 ps:List Int
def Rdr.p(R:Rdr):A:=.ptr R.m 6 0 0
structure PSt where
 at_:Nat
 gr:Int
 nb:Option Nat
 nm:List (List UInt8)
def Hp(R:Rdr)(a:PSt):Heap:=(R.m,.row 147 6 [[.os R.sb 1 0 R.s.length,.os R.pb 1 0 R.ps.length,i64 a.at_,i64 a.gr,outV 1 a.nb a.nm.length,.bool false]])::(R.sb,.row 5 1 (R.s.map zaM))::(R.pb,.row 3 1 (R.ps.map fun i=>[i64 i]))::outH 9 1 a.nb (a.nm.map sC)
theorem zlF(R:Rdr)(a:PSt):Hp R a=(R.m,.row 147 6 [[.os R.sb 1 0 R.s.length,.os R.pb 1 0 R.ps.length,i64 a.at_,i64 a.gr,outV 1 a.nb a.nm.length,.bool false]])::(R.sb,.row 5 1 (R.s.map zaM))::(R.pb,.row 3 1 (R.ps.map fun i=>[i64 i]))::outH 9 1 a.nb (a.nm.map sC):=rfl
def cur(s:List UInt8)(k:Nat):UInt8:=(s[k]?).getD 0
theorem zet(s:List UInt8)(b:UInt8):PTr Tryz.prog 202 [.str s,.int .u8 b.toNat] (i64 (Lib.indexByte s b)):=by
 refine aC (N:=8) Tryz.func202 I I I ?_;refine ae0 (ag 9 I (O (J9 I I I (zfL s b) (ab (ag 4 I (J ?_))))));refine zaa (J5 I I) ?_;rfl
theorem zcg(R:Rdr)(a:PSt)(hk:a.at_≤R.s.length)(hl:R.s.length≤1000):TrG [] Tryz.prog 200 [R.p] (Hp R a) fun v H'=>v=.int .u8 (cur R.s a.at_).toNat∧H'=Hp R a:=by
 refine Jb (N:=23) Tryz.func200 I I I ?_;rw[zlF];refine ae0 (ag 7 I (J2 ?_));refine aH hvK (fun _=>.nilp) okL hmix (by kernel_rfl) ?_;refine aa I I I (aa I I I (aa I I I (ay I I (.inl I) (J1 okL I (.head _) I I I I (Ja (ah ⟨I,I⟩))) (aa I I I (aa I I I (aa I I I (ay I I (.inl I) (J1 okL I (.head _) I I I I (Ja (ah ⟨I,I⟩))) (aa I I I (aa I I I ?_)))))))));refine aF ?_;refine ae (J2 ?_)
 (refine J4 I (fun h=>?_) (fun h=>?_))
 ·have h:(a.at_:Int)=R.s.length:=by simpa using h
  refine ae (ag 7 I (J ?_));refine zaa (J5 I I) ?_;refine⟨?_,I⟩;rw[cur,List.getElem?_eq_none (by omega)];rfl
 ·have h:¬(a.at_:Int)=R.s.length:=by simpa using h
  obtain⟨c,hc⟩:∃c,R.s[a.at_]?=some c:=⟨R.s[a.at_]'(by omega),by simp[show a.at_<R.s.length by omega]⟩
  have hb:(R.s.map zaM)[0+((a.at_:Nat):Int).toNat]?=some (zaM c):=by simp[hc]
  have i0:(0:Int)≤(a.at_:Int):=by omega
  have i1:(a.at_:Int)<(R.s.length:Int):=by omega
  refine ae (ag 3 I (J2 ?_));refine aH hvK (fun _=>.nilp) okL hmix (by kernel_rfl) ?_;refine aa I I I (aa I I I (aa I I I (ay I I (.inl I) (J1 okL I (.head _) I I I I (Ja (ah ⟨I,I⟩))) (aa I I I (aa I I I (aa I I I (ay I I (.inl I) (J1 okL I (.head _) I I I I (Ja (ah ⟨I,I⟩))) (aa I I (zaN I I I I I (i0) (i1) I) ?_))))))));refine ay I I (.inl I) (J1 okL I (.tail _ (.head _)) hb I I I (Ja (ah ⟨I,I⟩))) ?_
  (repeat (refine aa I I I ?_))
  refine aF ?_;refine ae (ag 1 I (J ?_));refine zaa (J5 I I) ?_;refine⟨?_,I⟩;rw[cur,hc];rfl
def za7(R:Rdr)(a:PSt)(some:List UInt8):Bool:=decide (a.at_<R.s.length)&&some.contains (cur R.s a.at_)
theorem zbn(R:Rdr)(a:PSt)(sm:List UInt8)(hk:a.at_≤R.s.length)(hl:R.s.length≤1000):TrG [] Tryz.prog 146 [R.p,.str sm] (Hp R a) fun v H'=>v=.int .u8 (if za7 R a sm=true then cur R.s a.at_ else 0).toNat∧H'=Hp R (if za7 R a sm=true then {a with at_:=a.at_+1} else a):=by
 refine Jb (N:=32) Tryz.func146 I I I ?_;refine ae0 (ag 8 I (J3 ?_));refine J7 (Jd [] I I I I (zcg R a hk hl) fun v H' hv=>?_)
 obtain⟨rfl,rfl⟩:=hv;rw[b7,zlF];refine ab (ag 5 I (J2 ?_));refine aH hvK (fun _=>.nilp) okL hmix (by kernel_rfl) ?_;refine aa I I I (aa I I I (aa I I I (ay I I (.inl I) (J1 okL I (.head _) I I I I (Ja (ah ⟨I,I⟩))) (aa I I I (aa I I I (aa I I I (ay I I (.inl I) (J1 okL I (.head _) I I I I (Ja (ah ⟨I,I⟩))) (aa I I I (aa I I I (aa I I I ?_))))))))));by_cases hn:a.at_=R.s.length
 ·have hT:za7 R a sm=false:=by unfold za7;rw[aG (by omega)];rfl
  rw[show((a.at_:Int)==(R.s.length:Int))=true by rw[hn];exact cV _,hT]
  refine aP I I (aP I I (aP I I (aP I I (aa I I I ?_))));refine aF ?_;refine ae (ag 8 I (J ?_));refine zaa (J5 I I) ?_;exact⟨I,I⟩
 ·have hlt:a.at_<R.s.length:=by omega
  rw[show((a.at_:Int)==(R.s.length:Int))=false by rw[b8];omega]
  (repeat (refine aa I I I ?_))
  refine ay I I (.inr I) (J9 I I I (zet sm (cur R.s a.at_)) (Ja (ah ⟨I,I⟩))) ?_
  (repeat (refine aa I I I ?_))
  refine aF ?_;have hc:=Lib.contains_iff_indexByte sm (cur R.s a.at_);refine ae (J2 ?_)
  (refine J4 I (fun h=>?_) (fun h=>?_))
  ·have h:Lib.indexByte sm (cur R.s a.at_)<0:=aj h
   have hT:za7 R a sm=false:=by unfold za7;rw[hc,aG (p:=0≤_) (by omega),cu]
   rw[hT];refine ae (ag 7 I (J ?_));refine zaa (J5 I I) ?_;exact⟨I,I⟩
  ·have h:¬Lib.indexByte sm (cur R.s a.at_)<0:=ao h
   have hT:za7 R a sm=true:=by unfold za7;rw[hc,aA (p:=0≤_) (by omega),aA hlt];rfl
   have nx:A.int .i64 (IntKind.i64.wrap ((a.at_:Int)+1))=.int .i64 ((a.at_+1:Nat):Int):=by rw[zap ⟨by omega,by omega⟩];rfl
   rw[hT];refine ae (ag 7 I (O (J1 okL I (.head _) I I I I (ab (ag 3 I (O (J8 okL I I I (zab I) I I I .here I I I (ab (ag 9 I (J ?_))))))))));rw[(cC nx).2];refine zaa (J5 I I) ?_;exact⟨I,I⟩
theorem zgF(R:Rdr)(a:PSt)(sm:List UInt8)(hk:a.at_≤R.s.length)(hl:R.s.length≤1000)(ht:za7 R a sm=true)(hc:(cur R.s a.at_).toNat≠0):TrG [] Tryz.prog 301 [R.p,.str sm] (Hp R a) fun v H'=>v=.int .u8 (cur R.s a.at_).toNat∧H'=Hp R {a with at_:=a.at_+1}:=by
 refine Jb (N:=14) Tryz.func301 I I I ?_;have h:=zbn R a sm hk hl;rw[ht] at h;refine ae0 (ag 9 I (J3 ?_));refine J7 (Jd [] I I I I h fun v H' hv=>?_)
 obtain⟨rfl,rfl⟩:=hv;rw[b7];refine ab (ag 10 I (J2 ?_))
 (refine J4 I (fun h0=>?_) (fun h0=>?_))
 ·have h0:((cur R.s a.at_).toNat:Int)=0:=by simpa using h0
  omega
 ·refine ae (ag 9 I (J ?_))
  refine zaa (J5 I I) ?_;exact⟨I,I⟩
def tc(x:Pat)(u:A):List A:=[i64 x.op,i64 x.n,i64 x.min,i64 x.max,.str x.name,.ds (x.set.map zaf),u]
def tcp(p:Pat×A):List A:=tc p.1 p.2
mutual
inductive TR:Pat→A→Heap→Prop
 |leaf (o n mn mx:Int) (nm:List UInt8) (st:List (Int×Int)):TR (.mk o n mn mx nm st []) .nils []
 |node (o n mn mx:Int) (nm:List UInt8) (st:List (Int×Int)) (l:List (Pat×A)) (r:Nat) (G:Heap) (h:TRL l G):TR (.mk o n mn mx nm st (l.map Prod.fst)) (.os r 7 0 l.length) ((r,.row 25 7 (l.map tcp))::G)
inductive TRL:List (Pat×A)→Heap→Prop
 |nil:TRL [] []
 |cons (x:Pat) (u:A) (H:Heap) (l:List (Pat×A)) (G:Heap) (h:TR x u H) (t:TRL l G):TRL ((x,u)::l) (H++G)
end
theorem TR.lf{x:Pat}{u:A}{H:Heap}(h:TR x u H):u.leaf=true:=by
 cases h<;>rfl
theorem zaV{x:Pat}{u:A}(h:u.leaf=true):zan (tc x u)=true:=by
 refine zay.2 fun a ha=>?_;simp only[tc,bx,dj,or_false] at ha;rcases ha with rfl|rfl|rfl|rfl|rfl|rfl|rfl<;>first|rfl|exact h
theorem zkl(op n mn mx:Int)(nm:List UInt8)(l:List Pat)(u:A):Sub (.agg [i64 op,i64 n,i64 mn,i64 mx,.str nm,.nils,u]) (.agg (tc (.mk op n mn mx nm [] l) u)):=
 Sub.agg (.cons (bo _) (.cons (bo _) (.cons (bo _) (.cons (bo _) (.cons (bo _) (.cons ct (.cons (bo _) .nil)))))))
theorem TRL.snoc:∀{l:List (Pat×A)} {G:Heap} {x:Pat} {u:A} {H:Heap},TRL l G→TR x u H→TRL (l++[(x,u)]) (G++H)
 |[],_,x,u,H,h1,h2=>by
  cases h1;have:=TRL.cons x u H [] [] h2 .nil
  rwa [aQ] at this
 |(y,v)::l,_,x,u,H,h1,h2=>by
  cases h1 with
  |cons _ _ H1 _ G1 k1 k2=>
   have:=TRL.cons y v H1 _ _ k1 (k2.snoc h2)
   rwa [←aI] at this
theorem zfh(fr:Nat→Prop)(a b:Heap)(w:World):Stays w (own fr (a++b)) w (own fr b):=Stays.less fun k h=>h.imp id ze9
mutual
theorem TR.freeze:∀(x:Pat) {u:A} {H1:Heap},TR x u H1→∀(fr:Nat→Prop) (pre:Heap) (w:World) (vs:List Value),Sim fr (H1++pre) w→RepL w (own fr (H1++pre)) (tc x u) vs→RepL w (own fr pre) x.C vs
 |.mk o n mn mx nm st l,_,_,h=>by
  intro fr pre w vs hs hr
  generalize hx:Pat.mk o n mn mx nm st l=x at h
  cases h with
  |leaf _ _ _ _ _ _=>
   cases hx;rcases hr with _|⟨h0,hr⟩
   rcases hr with _|⟨h1,hr⟩
   rcases hr with _|⟨h2,hr⟩
   rcases hr with _|⟨h3,hr⟩
   rcases hr with _|⟨h4,hr⟩
   rcases hr with _|⟨h5,hr⟩
   rcases hr with _|⟨h6,hr⟩
   cases hr;exact .cons h0 (.cons h1 (.cons h2 (.cons h3 (.cons h4 (.cons h5 (.cons (ct _ _ _ h6) .nil))))))
  |node _ _ _ _ _ _ m r G hL=>
   cases hx;have hl:=zfh fr ((r,.row 25 7 (m.map tcp))::G) pre w;rcases hr with _|⟨h0,hr⟩
   rcases hr with _|⟨h1,hr⟩
   rcases hr with _|⟨h2,hr⟩
   rcases hr with _|⟨h3,hr⟩
   rcases hr with _|⟨h4,hr⟩
   rcases hr with _|⟨h5,hr⟩
   rcases hr with _|⟨h6,hr⟩
   cases hr;refine .cons (h0.mono hl) (.cons (h1.mono hl) (.cons (h2.mono hl) (.cons (h3.mono hl) (.cons (h4.mono hl) (.cons (h5.mono hl) (.cons ?_ .nil))))));have hs':Sim fr ((r,.row 25 7 (m.map tcp))::(G++pre)) w:=hs;have h7:=zn3 hs' (by rw[ak];omega) h6;rw[List.drop_zero,bF (by rw[ak];omega)] at h7;rcases h7.ds_inv with ⟨e,rfl⟩|⟨a,cap,sz,rfl,k1,k2,k3⟩
   ·have:m=[]:=by simpa using e
    subst this;exact .ds0
   ·have hm:((m.map Prod.fst).map Pat.cells).length=(m.map tcp).length:=by simp
    show Rep w (own fr pre) (.ds ((m.map Prod.fst).map Pat.cells)) _
    rw[←hm];refine Rep.ds_of (sz:=7) (by rw[hm];exact k1) k2 fun i e he=>?_;obtain⟨y,hy,rfl⟩:∃y,m[i]?=some y∧y.1.cells=e:=by
     rw[List.map_map,List.getElem?_map,cP] at he;exact he
    have hc:(m.map tcp)[i]?=some (tcp y):=by simp[hy]
    obtain⟨k4,us,k5,k6,k7⟩:=k3 i _ hc;have hsz:sz=7:=k4.symm;subst hsz;have hfz:=TRL.freeze _ m hL I fr pre w hs'.drop i y hy us k5;refine⟨by rw[Pat.cells_eq];rfl,us,by rw[Pat.cells_eq];exact hfz,k6,fun _ hown=>?_⟩
    refine k7 (fun e=>by cases e) ?_
    exact hown.imp id ze9
theorem TRL.freeze:∀(l:List Pat) (m:List (Pat×A)) {G:Heap},TRL m G→m.map Prod.fst=l→∀(fr:Nat→Prop) (pre:Heap) (w:World),Sim fr (G++pre) w→∀(i:Nat) (y:Pat×A),m[i]?=some y→∀vs,RepL w (own fr (G++pre)) (tcp y) vs→RepL w (own fr pre) y.1.C vs
 |[],m,_,h,hm=>by
  intro fr pre w hs i y hy;have:m=[]:=by simpa using hm
  subst this;simp at hy
 |z::l,m,_,h,hm=>by
  intro fr pre w hs i y hy vs hr;cases h with
  |nil=>cases hm
  |cons _ u H0 m G h1 h2=>
   cases hm;rw[aI] at hs hr;cases i with
   |zero=>
    simp only[List.getElem?_cons_zero,aY] at hy;subst hy;have:=TR.freeze _ h1 fr _ w _ hs hr;exact this.mono (zfh fr G pre w)
   |succ i=>
    simp only[List.getElem?_cons_succ] at hy;exact TRL.freeze _ m h2 I fr _ w (Sim.unl H0 hs) i y hy vs (hr.mono (zfh fr H0 (G++pre) w))
end
theorem AOps.freezeT{P:Program}{N:NN}{Q:Exit→Env→Heap→Prop}{T:Env}{H:Heap}{ops rest:List Oper}{t:Nat}{x:Pat}{u:A}{H1 pre:Heap}(ht:get T t=some (.agg (tc x u)))(hT:TR x u H1)(hp:H.Perm (H1++pre))(k:AOps P N ops rest Q ((t,.agg x.C)::T) pre):AOps P N ops rest Q T H:=by
 refine⟨fun fr w a s st=>?_⟩;have s1:=s.perm hp;have hless:Stays w (own fr H) w (own fr pre):=by rw[zaS hp];exact zfh fr H1 pre w
 have st2:St N w (own fr pre) ((t,.agg x.C)::T) a:=by
  refine⟨st.size,st.defers,st.glob.mono hless,fun v y hy=>?_⟩;rw[zbc] at hy;split at hy
  ·rename_i htu
   cases hy;subst htu;obtain⟨v,h1,h2⟩:=st.at_ t _ ht;rw[zaS hp] at h2;obtain⟨cs,rfl,hl⟩:=h2.agg_inv;have:=Rep.agg_of (hT.freeze _ fr pre w _ s1 hl);exact⟨_,h1,by simpa using this⟩
  ·obtain⟨z,h1,h2⟩:=st.at_ v y hy
   exact⟨z,h1,h2.mono hless⟩
 refine zaT ?_ _ _ _ (k.out fr w a (Sim.unl H1 s1) st2);rintro e' a' w' ⟨T',H'',q,s',st',x'⟩;exact⟨T',H'',q,s',st',(Ext.dropL H1 x').perm hp⟩
structure PQ where
 at_:Nat
 gr:Int
 nm:List (List UInt8)
def PQ.st(q:PQ)(nb:Option Nat):PSt:=⟨q.at_,q.gr,nb,q.nm⟩
def Yld(f:FuncId)(more:List A)(R:Rdr)(q:PQ)(x:Pat)(q':PQ):Prop:=∀nb:Option Nat,(nb=none→q.nm=[])→
 TrG [] Tryz.prog f (R.p::more) (Hp R (q.st nb)) fun v H'=>∃u T nb' G,v=.agg (tc x u)∧TR x u T∧(nb'=none→q'.nm=[])∧H'.Perm (G++(T++Hp R (q'.st nb')))
theorem TrG.subV{G:List (Nat×List A)}{P:Program}{f:FuncId}{args:List A}{H:Heap}{S S':A→Heap→Prop}(h:TrG G P f args H S)(hs:∀r H',S r H'→∃r',Sub r r'∧S' r' H'):TrG G P f args H S':=
 ⟨h.can,fun fr w vs s g a=>(h.run fr w vs s g a).mono fun e w' ⟨r,H',u,he,hr,s',hu,x⟩=>by
  obtain⟨r',h1,h2⟩:=hs r H' hr;exact⟨r',H',u,he,h2,s',h1 _ _ _ hu,x⟩⟩
theorem Yld.leaf{f:FuncId}{more:List A}{R:Rdr}{q q':PQ}{op n mn mx:Int}{nm:List UInt8}(h:∀nb:Option Nat,(nb=none→q.nm=[])→TrG [] Tryz.prog f (R.p::more) (Hp R (q.st nb)) fun v H'=>v=.agg [i64 op,i64 n,i64 mn,i64 mx,.str nm,.nils,.nils]∧∃nb' G,(nb'=none→q'.nm=[])∧H'.Perm (G++Hp R (q'.st nb'))):Yld f more R q (.mk op n mn mx nm [] []) q':=fun nb hnb=>
 TrG.subV (h nb hnb) fun r H' ⟨h1,nb',G,h2,h3⟩=>⟨_,by rw[h1];exact zkl _ _ _ _ _ _ _,.nils,[],nb',G,I,.leaf _ _ _ _ _ _,h2,h3⟩
theorem Yld.nil{f:FuncId}{more:List A}{R:Rdr}{q q':PQ}{op n mn mx:Int}{nm:List UInt8}{l:List Pat}(h:∀nb:Option Nat,(nb=none→q.nm=[])→TrG [] Tryz.prog f (R.p::more) (Hp R (q.st nb)) fun v H'=>∃u T nb' G,v=.agg [i64 op,i64 n,i64 mn,i64 mx,.str nm,.nils,u]∧TR (.mk op n mn mx nm [] l) u T∧(nb'=none→q'.nm=[])∧H'.Perm (G++(T++Hp R (q'.st nb')))):Yld f more R q (.mk op n mn mx nm [] l) q':=fun nb hnb=>
 TrG.subV (h nb hnb) fun r H' ⟨u,T,nb',G,h1,h2⟩=>⟨_,by rw[h1];exact zkl _ _ _ _ _ l _,u,T,nb',G,I,h2⟩
theorem zgX(R:Rdr)(q:PQ)(o n mn mx:Int)(nm:List UInt8)(s u:A)(hal:zan [i64 o,i64 n,i64 mn,i64 mx,.str nm,s,u]=true)(hk:q.at_<R.s.length)(hl:R.s.length≤1000)(hc:cur R.s q.at_=41)(nb:Option Nat):
  TrG [] Tryz.prog 322 [R.p,.agg [i64 o,i64 n,i64 mn,i64 mx,.str nm,s,u]] (Hp R (q.st nb)) fun v H'=>v=.agg [i64 o,i64 n,i64 mn,i64 mx,.str nm,s,u]∧∃G,H'.Perm (G++Hp R (PQ.st {q with at_:=q.at_+1} nb)):=by
 refine Jb (N:=8) Tryz.func322 I I I ?_;have ht:za7 R (q.st nb) [41]=true:=by
  unfold za7;rw[show(q.st nb).at_=q.at_ from rfl,hc,aA hk]
  rfl
 have h:=zgF R (q.st nb) [41] (bH hk) hl ht (by rw[show(q.st nb).at_=q.at_ from rfl,hc];decide)
 refine ae0 (ag 2 I (O (Jc 3 I I (zab I) I (ab (O (Jf okL I I I (fun _ _=>(ab (ag 5 I (J3 ?_))))))))));refine J7 (Jd [_] I I I I h fun v H' hv=>?_)
 obtain⟨rfl,rfl⟩:=hv;refine ab (ag 5 I (O (J8 okL I I I (zab I) (hal) I I .here I I I (ab (ag 3 I (J ?_))))));refine zaa (Jw okL I I (.head _) I I I) ?_;exact⟨I,[_],.refl _⟩
structure Pln(c:UInt8):Prop where
 a:((c.toNat:Int)==40)=false
 b:((c.toNat:Int)==91)=false
 d:((c.toNat:Int)==92)=false
 e:((c.toNat:Int)==46)=false
 f:((c.toNat:Int)==94)=false
 g:((c.toNat:Int)==36)=false
 lo:decide ((c.toNat:Int)<32)=false
 hi:decide ((c.toNat:Int)>126)=false
 ix:decide (Lib.indexByte [42,43,63,123,125,93] c≥0)=false
def zkR(c:UInt8):Pat:=.mk 1 c.toNat 0 0 [] [] []
theorem zfy(R:Rdr)(q:PQ)(hk:q.at_<R.s.length)(hl:R.s.length≤1000)(hp:Pln (cur R.s q.at_)):Yld 252 [] R q (zkR (cur R.s q.at_)) {q with at_:=q.at_+1}:=Yld.leaf fun nb hnb=>by
 refine Jb (N:=93) Tryz.func252 I I I ?_;have h:=zcg R (q.st nb) (bH hk) hl;rw[show(q.st nb).at_=q.at_ from rfl] at h
 revert h hp
 generalize cur R.s q.at_=c
 intro hp h;refine ae0 (ag 2 I (O (Jf okL I I I (fun _ _=>(ab (ag 5 I (J3 ?_)))))));refine J7 (Jd [_] I I I I h fun v H' hv=>?_)
 obtain⟨rfl,rfl⟩:=hv;refine ab (ag 16 I (J2 ?_));rw[hp.a];refine ae (ag 7 I (J2 ?_));rw[hp.b];refine ae (ag 7 I (J2 ?_));rw[hp.d];refine ae (ag 7 I (J2 ?_));rw[hp.e];refine ae (ag 7 I (J2 ?_));rw[hp.f];refine ae (ag 7 I (J2 ?_));rw[hp.g];refine ae (ag 10 I (J3 ?_));rw[hp.lo];refine ab (ag 4 I (J3 ?_));rw[hp.hi];have hS:=zet [42,43,63,123,125,93] c;refine ab (ag 1 I (Jg I I I (J9 I I I (hS) (ab (ag 4 I (J2 ?_))))));rw[hp.ix];have w1:IntKind.i64.wrap (c.toNat:Int)=c.toNat:=zap ⟨by omega,by have:=c.toNat_lt;omega⟩
 have w2:IntKind.i64.wrap ((q.at_:Int)+1)=((q.at_+1:Nat):Int):=by rw[zap ⟨by omega,by omega⟩];rfl
 refine ae (ag 8 I (O (J1 okL I (.tail _ (.head _)) I I I I (ab (ag 3 I (O (J8 okL I I I (zab I) I I I (.there .here) I I I (ab (ag 7 I (O (J8 okL I I I (zab I) I I I .here I I I (ab (ag 3 I (J ?_))))))))))))));rw[w1,show(q.st nb).at_=q.at_ from rfl,w2]
 refine zaa (Jw okL I I (.head _) I I I) ?_;exact⟨I,nb,[_],hnb,.refl _⟩
theorem zeG(R:Rdr)(q q':PQ)(x:Pat)(hk:q.at_<R.s.length)(hl:R.s.length≤1000)(hc:cur R.s q.at_=40)(hy:Yld 297 [] R {q with at_:=q.at_+1} x q'):Yld 252 [] R q x q':=fun nb hnb=>by
 refine Jb (N:=93) Tryz.func252 I I I ?_;have h:=zcg R (q.st nb) (bH hk) hl;rw[show(q.st nb).at_=q.at_ from rfl,hc] at h
 have w2:IntKind.i64.wrap ((q.at_:Int)+1)=((q.at_+1:Nat):Int):=by rw[zap ⟨by omega,by omega⟩];rfl
 have hg:=hy nb hnb;refine ae0 (ag 2 I (O (Jf okL I I I (fun _ _=>(ab (ag 5 I (J3 ?_)))))));refine J7 (Jd [_] I I I I h fun v H' hv=>?_)
 obtain⟨rfl,rfl⟩:=hv;refine ab (ag 22 I (O (J1 okL I (.tail _ (.head _)) I I I I (ab (ag 3 I (O (J8 okL I I I (zab I) I I I (.there .here) I I I (ab (ag 5 I (J3 ?_))))))))));rw[show(q.st nb).at_=q.at_ from rfl,w2]
 refine J7 (Jd [_] I I I I hg fun v H' hv=>?_)
 obtain⟨u,T,nb',G,rfl,hT,h1,h2⟩:=hv;refine ab (O (J8 okL I I I (zab I) (zaV hT.lf) I I .here I I I (ab (ag 5 I (J ?_)))));refine zaa (Jw okL I I (.head _) I I I) ?_;exact⟨u,T,nb',_::G,I,hT,h1,h2.cons _⟩
theorem zla(R:Rdr)(q q':PQ)(x:Pat)(hk:q.at_<R.s.length)(hl:R.s.length≤1000)(hc:cur R.s q.at_=91)(hy:Yld 298 [] R {q with at_:=q.at_+1} x q'):Yld 252 [] R q x q':=fun nb hnb=>by
 refine Jb (N:=93) Tryz.func252 I I I ?_;have h:=zcg R (q.st nb) (bH hk) hl;rw[show(q.st nb).at_=q.at_ from rfl,hc] at h
 have w2:IntKind.i64.wrap ((q.at_:Int)+1)=((q.at_+1:Nat):Int):=by rw[zap ⟨by omega,by omega⟩];rfl
 have hg:=hy nb hnb;refine ae0 (ag 2 I (O (Jf okL I I I (fun _ _=>(ab (ag 5 I (J3 ?_)))))));refine J7 (Jd [_] I I I I h fun v H' hv=>?_)
 obtain⟨rfl,rfl⟩:=hv;refine ab (ag 29 I (O (J1 okL I (.tail _ (.head _)) I I I I (ab (ag 3 I (O (J8 okL I I I (zab I) I I I (.there .here) I I I (ab (ag 5 I (J3 ?_))))))))));rw[show(q.st nb).at_=q.at_ from rfl,w2]
 refine J7 (Jd [_] I I I I hg fun v H' hv=>?_)
 obtain⟨u,T,nb',G,rfl,hT,h1,h2⟩:=hv;refine ab (O (J8 okL I I I (zab I) (zaV hT.lf) I I .here I I I (ab (ag 5 I (J ?_)))));refine zaa (Jw okL I I (.head _) I I I) ?_;exact⟨u,T,nb',_::G,I,hT,h1,h2.cons _⟩
theorem zgk(R:Rdr)(q q':PQ)(x:Pat)(hk:q.at_<R.s.length)(hl:R.s.length≤1000)(hc:cur R.s q.at_=92)(hy:Yld 299 [] R {q with at_:=q.at_+1} x q'):Yld 252 [] R q x q':=fun nb hnb=>by
 refine Jb (N:=93) Tryz.func252 I I I ?_;have h:=zcg R (q.st nb) (bH hk) hl;rw[show(q.st nb).at_=q.at_ from rfl,hc] at h
 have w2:IntKind.i64.wrap ((q.at_:Int)+1)=((q.at_+1:Nat):Int):=by rw[zap ⟨by omega,by omega⟩];rfl
 have hg:=hy nb hnb;refine ae0 (ag 2 I (O (Jf okL I I I (fun _ _=>(ab (ag 5 I (J3 ?_)))))));refine J7 (Jd [_] I I I I h fun v H' hv=>?_)
 obtain⟨rfl,rfl⟩:=hv;refine ab (ag 36 I (O (J1 okL I (.tail _ (.head _)) I I I I (ab (ag 3 I (O (J8 okL I I I (zab I) I I I (.there .here) I I I (ab (ag 5 I (J3 ?_))))))))));rw[show(q.st nb).at_=q.at_ from rfl,w2]
 refine J7 (Jd [_] I I I I hg fun v H' hv=>?_)
 obtain⟨u,T,nb',G,rfl,hT,h1,h2⟩:=hv;refine ab (O (J8 okL I I I (zab I) (zaV hT.lf) I I .here I I I (ab (ag 5 I (J ?_)))));refine zaa (Jw okL I I (.head _) I I I) ?_;exact⟨u,T,nb',_::G,I,hT,h1,h2.cons _⟩
def escS:List UInt8:=[49,50,51,52,53,54,55,56,57,100,68,119,87,115,83,98,66,75,107,116,110,120,92,124,40,41,91,93,123,125,94,36,42,43,63,46,47,32,45]
theorem zpt(R:Rdr)(q:PQ)(hk:q.at_<R.s.length)(hl:R.s.length≤1000)(c:UInt8)(hc:cur R.s q.at_=c)(hw:c=40∨c=41):Yld 299 [] R q (zkR c) {q with at_:=q.at_+1}:=Yld.leaf fun nb hnb=>by
 refine Jb (N:=65) Tryz.func299 I I I ?_;have ht:za7 R (q.st nb) escS=true:=by
  unfold za7;rw[show(q.st nb).at_=q.at_ from rfl,hc,aA hk]
  rcases hw with rfl|rfl<;>rfl
 have h:=zgF R (q.st nb) escS (bH hk) hl ht (by rw[show(q.st nb).at_=q.at_ from rfl,hc];rcases hw with rfl|rfl<;>decide)
 rw[show(q.st nb).at_=q.at_ from rfl,hc] at h
 refine ae0 (ag 2 I (O (Jf okL I I I (fun _ _=>(ab (ag 5 I (Jo okL (zfl I I I I I (by decide) (by decide) (by decide)) I (ag 2 I (J3 ?_)))))))));refine J7 (Jd [_] I I I I h fun v H' hv=>?_)
 obtain⟨rfl,rfl⟩:=hv;rcases hw with rfl|rfl
 ·refine ab (ag 123 I (O (J8 okL I I I (zab I) I I I .here I I I (ab (ag 3 I (J ?_))))))
  refine zaa (Jw okL I I (.head _) I I I) ?_;exact⟨I,nb,[_],hnb,.refl _⟩
 ·refine ab (ag 123 I (O (J8 okL I I I (zab I) I I I .here I I I (ab (ag 3 I (J ?_))))))
  refine zaa (Jw okL I I (.head _) I I I) ?_;exact⟨I,nb,[_],hnb,.refl _⟩
theorem zbM(R:Rdr)(q q':PQ)(x:Pat)(hk:q'.at_≤R.s.length)(hl:R.s.length≤1000)(hy:Yld 252 [] R q x q')(ht:(decide (q'.at_<R.s.length)&&([42,43,63,123]:List UInt8).contains (cur R.s q'.at_))=false):Yld 201 [] R q x q':=fun nb hnb=>by
 refine Jb (N:=41) Tryz.func201 I I I ?_;have hg:=hy nb hnb;refine ae0 (ag 2 I (O (Jf okL I I I (fun _ _=>(ab (ag 5 I (J3 ?_)))))));refine J7 (Jd [_] I I I I hg fun v H' hv=>?_)
 obtain⟨u,U,nb',G,rfl,hT,h1,h2⟩:=hv;refine Jl (H':=G++(_::(U++Hp R (q'.st nb')))) ((h2.cons _).trans List.perm_middle.symm) (Js G ?_)
 have h:=zbn R (q'.st nb') [42,43,63,123] hk hl;rw[show za7 R (q'.st nb') [42,43,63,123]=false from ht] at h
 refine ab (O (Jf okL I I I (fun _ _=>(ab (O (J8 okL I I I (zab I) (zaV hT.lf) I I .here I I I (ab (ag 3 I (J2 ?_)))))))));rename_i r2 _ r3 _;refine Jj (α:=Unit) (fun _=>0) (fun _=>[(0,R.p),(2,.ptr r2 7 0 0),(3,.ptr r3 7 0 0)]) (fun _=>(r3,.row 25 7 [tc x u])::(r2,.row 25 7 [[i64 0,i64 0,i64 0,i64 0,.str [],.nils,.nils]])::(U++Hp R (q'.st nb'))) (fun _=>True) () trivial ?_ (ar _) ?_
 ·simp only[zaz]
  refine⟨I,I,I,trivial⟩
 rintro⟨⟩ _ ih;refine ae0 (ag 3 I (O (J1 okL I (.head _) I I I I (ab (O (Jh okL I I I I I I I I I (zaV hT.lf) I (fun _ _=>(ab (ag 1 I (O (Jf okL I I I (fun _ _=>(ab (O (J8 okL I I I (zab I) I I I .here I I I (ab (ag 6 I (J3 ?_))))))))))))))))));refine J7 (Jd (_::_::_::_::U) I I I I h fun v H' hv=>?_)
 obtain⟨rfl,rfl⟩:=hv;refine ab (ag 33 I (O (J1 okL I (.tail _ (.tail _ (.head _))) I I I I (ab (O (J8 okL I I I (zab I) (zaV hT.lf) I I (.there (.there (.there .here))) I I I (ab (ag 6 I (J (ax (ag 1 I (J ?_))))))))))));refine zaa (Jw okL I I (.tail _ (.tail _ (.tail _ (.head _)))) I I I) ?_;exact⟨u,U,nb',[_,_,_,_],I,hT,h1,.refl _⟩
theorem TR.one{op n mn mx:Int}{nm:List UInt8}{x:Pat}{u:A}{U:Heap}(rb:Nat)(h:TR x u U):TR (.mk op n mn mx nm [] [x]) (.os rb 7 0 1) ((rb,.row 25 7 [tc x u])::U):=by
 have:=TR.node op n mn mx nm [] [(x,u)] rb _ (.cons x u U [] [] h .nil)
 rwa [aQ] at this
def zrL(x:Pat):Pat:=.mk 6 0 0 (-1) [] [] [x]
theorem zgq(R:Rdr)(q q':PQ)(x:Pat)(hk:q'.at_<R.s.length)(hl:R.s.length≤1000)(hy:Yld 252 [] R q x q')(hs:cur R.s q'.at_=42)(ht:(decide (q'.at_+1<R.s.length)&&([63,43]:List UInt8).contains (cur R.s (q'.at_+1)))=false):
  Yld 201 [] R q (zrL x) {q' with at_:=q'.at_+1}:=Yld.nil fun nb hnb=>by
 refine Jb (N:=41) Tryz.func201 I I I ?_;have hg:=hy nb hnb;refine ae0 (ag 2 I (O (Jf okL I I I (fun _ _=>(ab (ag 5 I (J3 ?_)))))));refine J7 (Jd [_] I I I I hg fun v H' hv=>?_)
 obtain⟨u,U,nb',G,rfl,hT,h1,h2⟩:=hv;refine Jl (H':=G++(_::(U++Hp R (q'.st nb')))) ((h2.cons _).trans List.perm_middle.symm) (Js G ?_)
 have t1:za7 R (q'.st nb') [42,43,63,123]=true:=by
  unfold za7;rw[show(q'.st nb').at_=q'.at_ from rfl,hs,aA hk]
  rfl
 have h:=zbn R (q'.st nb') [42,43,63,123] (bH hk) hl;rw[t1,show(q'.st nb').at_=q'.at_ from rfl,hs,af I,af I] at h
 have h':=zbn R ⟨q'.at_+1,q'.gr,nb',q'.nm⟩ [63,43] hk hl;rw[show za7 R ⟨q'.at_+1,q'.gr,nb',q'.nm⟩ [63,43]=false from ht,ac aJ,ac aJ] at h'
 refine ab (O (Jf okL I I I (fun _ _=>(ab (O (J8 okL I I I (zab I) (zaV hT.lf) I I .here I I I (ab (ag 3 I (J2 ?_)))))))));rename_i r2 _ r3 _;refine Jj (α:=Unit) (fun _=>0) (fun _=>[(0,R.p),(2,.ptr r2 7 0 0),(3,.ptr r3 7 0 0)]) (fun _=>(r3,.row 25 7 [tc x u])::(r2,.row 25 7 [[i64 0,i64 0,i64 0,i64 0,.str [],.nils,.nils]])::(U++Hp R (q'.st nb'))) (fun _=>True) () trivial ?_ (ar _) ?_
 ·simp only[zaz]
  refine⟨I,I,I,trivial⟩
 rintro⟨⟩ _ ih;refine ae0 (ag 3 I (O (J1 okL I (.head _) I I I I (ab (O (Jh okL I I I I I I I I I (zaV hT.lf) I (fun _ _=>(ab (ag 1 I (O (Jf okL I I I (fun _ _=>(ab (O (J8 okL I I I (zab I) I I I .here I I I (ab (ag 6 I (J3 ?_))))))))))))))))));refine J7 (Jd (_::_::_::_::U) I I I I h fun v H' hv=>?_)
 obtain⟨rfl,rfl⟩:=hv;refine ab (ag 12 I (O (J8 okL I I I (zab I) I I I .here I I I (ab (ag 7 I (J3 ?_))))));refine J7 (Jd (_::_::_::_::U) I I I I h' fun v H' hv=>?_)
 obtain⟨rfl,rfl⟩:=hv;refine ab (ag 22 I (O (J1 okL I (.head _) I I I I (ab (O (J8 okL I I I (zab I) I I I (.there (.there (.there .here))) I I I (ab (ag 4 I (J (ax (ag 1 I (J ?_))))))))))));rename_i rb _ r4 _;refine zaa (Jw okL I I (.tail _ (.tail _ (.tail _ (.head _)))) I I I) ?_;exact⟨_,_,nb',[_,_,_],I,TR.one rb hT,h1,(cp (l₁:=[_,_])).symm.cons _⟩
def zea(op:Int):List Pat→Pat
 |[]=>.mk 0 0 0 0 [] [] []
 |[y]=>y
 |y::z::l=>.mk op 0 0 0 [] [] (y::z::l)
def zoZ:List (Pat×A)→A→Heap→Prop
 |[],u,G=>u=.nils∧G=[]
 |[p],u,G=>u=p.2∧G=[]
 |p::z::l,u,G=>∃r,u=.os r 7 0 (p::z::l).length∧G=[(r,.row 25 7 ((p::z::l).map tcp))]
theorem zeD{op:Int}{l:List (Pat×A)}{u:A}{G U:Heap}(h:zoZ l u G)(hT:TRL l U):TR (zea op (l.map Prod.fst)) u (G++U):=by
 rcases l with _|⟨⟨x,v⟩,_|⟨z,l⟩⟩
 ·obtain⟨rfl,rfl⟩:=h
  cases hT;exact .leaf _ _ _ _ _ _
 ·obtain⟨rfl,rfl⟩:=h
  cases hT with
  |cons _ _ H _ G h t=>
   cases t;rw[b7,aQ];exact h
 ·obtain⟨r,rfl,rfl⟩:=h
  exact TR.node op 0 0 0 [] [] ((x,v)::z::l) r U hT
theorem zm6(op:Int)(g:Option Nat)(l:List (Pat×A))(hg:g=none↔l=[])(hlf:∀p∈l,p.2.leaf=true)(hl:l.length≤100)(hne:∀p∈l,(p.1.op==op)=false∧(op==4&&p.1.op==0)=false):
  TrG [] Tryz.prog 147 [i64 op,outV 7 g l.length] (outH 25 7 g (l.map tcp)) fun v H'=>∃u G0 G,v=.agg (tc (zea op (l.map Prod.fst)) u)∧zoZ l u G∧H'.Perm (G0++G):=by
 cases g with
 |none=>
  obtain rfl:=hg.1 rfl;refine TrG.subV (S:=fun v H'=>v=.agg [i64 0,i64 0,i64 0,i64 0,.str [],.nils,.nils]) ?_ fun r H' h=>⟨_,by rw[h];exact zkl _ _ _ _ _ [] _,.nils,H',[],I,⟨I,I⟩,by rw[aQ]⟩
  refine Jb (N:=49) Tryz.func147 I I I ?_;refine ae0 (ag 2 I (O (Jf okL I I I (fun _ _=>(ab (ag 16 I (J2 ?_)))))));rename_i r4 _;refine Jj (α:=Unit) (fun a=>0) (fun a=>[(0,i64 op),(4,.ptr r4 7 0 0),(5,.nils),(8,.nils),(9,i64 0),(10,i64 0)])
   (fun a=>[(r4,.row 25 7 [[i64 0,i64 0,i64 0,i64 0,.str [],.nils,.nils]])]) (fun a=>True) () trivial ?_ (ar _) ?_
  ·simp only[zaz]
   refine⟨I,I,I,I,I,I,trivial⟩
  rintro⟨⟩ _ ih;refine ae0 (ag 9 I (J (ae (ag 18 I (O (J8 okL I I I (zab I) I I I .here I I I (ab (ag 5 I (J ?_)))))))));refine zaa (Jw okL I I (.head _) I I I) ?_;rfl
 |some r=>
  have hnl:l≠[]:=fun e=>by cases hg.2 e
  refine TrG.subV (S:=fun v H'=>∃u G0 G,Sub v (.agg (tc (zea op (l.map Prod.fst)) u))∧zoZ l u G∧H'.Perm (G0++G)) ?_ fun r H' ⟨u,G0,G,h1,h2⟩=>⟨_,h1,u,G0,G,I,h2⟩;refine Jb (N:=49) Tryz.func147 I I I ?_;refine ae0 (ag 2 I (O (Jf okL I I I (fun _ _=>(ab (ag 16 I (J2 ?_)))))));rename_i r4 _;refine Jj (α:=Nat×Option Nat) (fun a=>l.length - a.1) (fun a=>[(0,i64 op),(4,.ptr r4 7 0 0),(5,outV 7 a.2 (l.take a.1).length),(8,.os r 7 0 l.length),(9,i64 l.length),(10,i64 a.1)])
   (fun a=>(r4,.row 25 7 [[i64 0,i64 0,i64 0,i64 0,.str [],.nils,.nils]])::(r,.row 25 7 (l.map tcp))::outH 25 7 a.2 ((l.take a.1).map tcp)) (fun a=>a.1≤l.length∧(a.2=none↔a.1=0)) (0,none) ⟨aM _,d4 I I⟩ ?_ (ar _) ?_
  ·simp only[zaz]
   refine⟨I,I,I,I,I,I,trivial⟩
  rintro⟨k,g⟩ ⟨hk,hgk⟩ ih;simp only at hk hgk;have hg2:g=none→l.take k=[]:=fun e=>by rw[hgk.1 e];rfl
  refine ae0 (ag 6 I (J2 ?_))
  (refine J4 I (fun h=>?_) (fun h=>?_))
  ·have h:=aj h
   obtain⟨y,hy⟩:∃y,l[k]?=some y:=⟨l[k]'(by omega),by simp[show k<l.length by omega]⟩
   obtain⟨n1,n2⟩:=hne y (List.mem_of_getElem? hy);have hlf:=zaV (x:=y.1) (hlf y (List.mem_of_getElem? hy));have nx:A.int .i64 (IntKind.i64.wrap ((k:Int)+1))=.int .i64 ((k+1:Nat):Int):=by rw[zap ⟨by omega,by omega⟩];rfl
   have et:l.take (k+1)=l.take k++[y]:=by rw[cd,hy];rfl
   have gy:(l.map tcp)[0+((k:Nat):Int).toNat]?=some (tc y.1 y.2):=by rw[aS];simp[hy,tcp]
   refine ae (ag 6 I (Jo okL (zaN I I I I I (by omega) (by omega) I) I (O (J1 okL I (.tail _ (.head _)) (gy) I I I (ab (O (Jf okL I I I (fun _ _=>(ab (O (J8 okL I I I (zab I) (hlf) I I .here I I I (ab (ag 6 I (O (J1 okL I (.head _) I I I I (ab (ag 5 I (J2 ?_))))))))))))))))))
   (refine J4 I (fun c1=>?_) (fun c1=>?_))
   ·have c1:(y.1.op==op)=true:=c1
    rw[n1] at c1;cases c1
   have hcond:(if (op !=4)=true then true else (y.1.op !=0))=true:=by
    by_cases h4:op=4
    ·subst h4
     have:(y.1.op==0)=false:=by simpa using n2
     rw[ac (by decide)];simpa using this
    ·rw[af (by simpa using h4)]
   have key:∀b:Bool,b=(op !=4)→(b=false→(y.1.op !=0)=true):=fun b e hb=>by
    rw[hb] at e;rw[ac (by rw[←e];exact aJ)] at hcond;exact hcond
   refine ae (ag 5 I (J3 ?_))
   (refine J6 I I I (fun c2=>?_) (fun c2=>?_))
   ·have c2:(op !=4)=true:=c2
    rw[c2];refine ab (ag 10 I (O (J1 okL I (.head _) I I I I (ab (O (Jh okL I I I I I I I I I (hlf) I (fun _ _=>(ab (J3 ?_)))))))));rename_i rb _;refine J7 (Jt tcp g (l.take k) y [_,_,_] okL hg2 I I I I I I I I hlf (by rw[be];omega) I I fun r'=>?_)
    refine ab (ag 9 I (J (zae ?_)));rw[←et]
    (refine aq 1 (ih ((k+1,some r')) (⟨by simp only;omega,ck (fun h=>by cases h) (fun h=>by cases h)⟩) (by omega)) ?_ I;exact⟨I,I,I,I,I,ai some nx,trivial⟩)
   ·have c2:(op !=4)=false:=c2
    have c3:=key _ c2.symm I;rw[c2];refine ab (ag 1 I (Jg I I I (J1 okL I (.head _) I I I I (ab (ag 5 I (J2 ?_))))))
    (refine J4 I (fun c4=>?_) (fun c4=>?_))
    ·refine ae (ag 2 I (O (J1 okL I (.head _) I I I I (ab (O (Jh okL I I I I I I I I I (hlf) I (fun _ _=>(ab (J3 ?_)))))))))
     rename_i rb _;refine J7 (Jt tcp g (l.take k) y [_,_,_] okL hg2 I I I I I I I I hlf (by rw[be];omega) I I fun r'=>?_)
     refine ab (ag 9 I (J (zae ?_)));rw[←et]
     (refine aq 1 (ih ((k+1,some r')) (⟨by simp only;omega,ck (fun h=>by cases h) (fun h=>by cases h)⟩) (by omega)) ?_ I;exact⟨I,I,I,I,I,ai some nx,trivial⟩)
    ·have c4:(y.1.op !=0)=false:=c4
     rw[c3] at c4;cases c4
  have h:=ao h;obtain rfl:k=l.length:=by omega
  rw[bM];cases g with
  |none=>exact absurd (List.length_eq_zero_iff.1 (hgk.1 rfl)) hnl
  |some ro=>
  match l,hnl,hlf with
  |[y],_,hlf=>
   have hlf:=zaV (x:=y.1) (hlf y (.head _));have g0:([y].map tcp)[0+((0:Int)).toNat]?=some (tc y.1 y.2):=rfl;have i1:(0:Int)<(([y].length:Nat):Int):=by simp
   refine ae (ag 2 I (J (ae (ag 25 I (Jo okL (zaN I I I I I (am _) (i1) I) I (O (J1 okL I (.tail _ (.tail _ (.head _))) I I I I (ab (O (J8 okL I I I (zab I) (hlf) I I .here I I I (ab (ag 5 I (J ?_)))))))))))));refine zaa (Jw okL I I (.head _) I I I) ?_;exact⟨y.2,_,[],bo _,⟨I,I⟩,by rw[aQ]⟩
  |y::z::l,_,_=>
   refine ae (ag 2 I (J (ae (ag 30 I (O (J8 okL I I I (zab I) I I I .here I I I (ab (ag 3 I (J ?_)))))))));refine zaa (Jw okL I I (.head _) I I I) ?_;exact⟨_,[_,_],_,zkl _ _ _ _ _ _ _,⟨ro,I,I⟩,ar _⟩
inductive CatR(R:Rdr):PQ→List Pat→PQ→Prop
 |nil (q:PQ) (h:q.at_=R.s.length∨(q.at_<R.s.length∧(cur R.s q.at_=124∨cur R.s q.at_=41))):CatR R q [] q
 |cons (q q1 q':PQ) (x:Pat) (l:List Pat) (hk:q.at_<R.s.length) (h1:cur R.s q.at_≠124) (h2:cur R.s q.at_≠41) (hy:Yld 201 [] R q x q1) (t:CatR R q1 l q'):CatR R q (x::l) q'
def rdK(o:Oper):Nat:=match o.op with
 |.load .. =>1
 |.call {callee:=.value _,.. }=>1
 |_=>0
theorem pmD{α:Type}(G T T0 X Y:List α)(r:α):((G++(T++X))++(r::(T0++Y))).Perm (G++(r::((X++(T0++T))++Y))):=by
 classical
 exact List.perm_iff_count.2 fun x=>by simp only[bS,cr];omega
theorem pmE{α:Type}(r:α)(X T Y:List α):(r::((X++T)++Y)).Perm (X++(r::(T++Y))):=by
 rw[aI];exact List.perm_middle.symm
theorem pmF{α:Type}(r:α)(X T G0 G:List α):((r::(X++T))++(G0++G)).Perm ((r::G0)++((G++T)++X)):=by
 classical
 exact List.perm_iff_count.2 fun x=>by simp only[bS,cr];omega
theorem zjT{d:List (Pat×A)}{m l:List Pat}{x:Pat}{u:A}(h:d.map Prod.fst++x::m=l):(d++[(x,u)]).map Prod.fst++m=l:=by
 rw[←h];simp
theorem TRL.lf:∀{l:List (Pat×A)} {U:Heap},TRL l U→∀p∈l,p.2.leaf=true
 |[],_,_=>fun p hp=>by cases hp
 |(x,u)::l,_,h=>fun p hp=>by
  cases h with
  |cons _ _ H _ G h t=>
   rcases List.mem_cons.1 hp with rfl|hp
   ·exact h.lf
   ·exact t.lf p hp
theorem zrX(R:Rdr)(q0 q':PQ)(l:List Pat)(hl:R.s.length≤1000)(h100:l.length≤100)(hne:∀y∈l,(y.op==4)=false∧(y.op==0)=false)(hc:CatR R q0 l q'):Yld 145 [] R q0 (zea 4 l) q':=fun nb0 hnb=>by
 refine Jb (N:=31) Tryz.func145 I I I ?_;refine ae0 (ag 2 I (O (Jf okL I I I (fun _ _=>(ab (ag 9 I (J2 ?_)))))));rename_i r2 _;refine Jj (α:=(List (Pat×A)×List Pat)×PQ×Option Nat×Option Nat×Heap) (fun a=>a.1.2.length) (fun a=>[(0,R.p),(2,.ptr r2 7 0 0),(3,outV 7 a.2.2.1 a.1.1.length)])
  (fun a=>(r2,.row 25 7 [[i64 0,i64 0,i64 0,i64 0,.str [],.nils,.nils]])::((Hp R (a.2.1.st a.2.2.2.1)++a.2.2.2.2)++outH 25 7 a.2.2.1 (a.1.1.map tcp)))
  (fun a=>a.1.1.map Prod.fst++a.1.2=l∧CatR R a.2.1 a.1.2 q'∧(a.2.2.1=none↔a.1.1=[])∧(a.2.2.2.1=none→a.2.1.nm=[])∧TRL a.1.1 a.2.2.2.2) (([],l),q0,none,nb0,[]) ⟨I,hc,d4 I I,hnb,.nil⟩ ?_ (by simp only[outH,aQ];exact ar _) ?_
 ·simp only[zaz]
  refine⟨I,I,I,trivial⟩
 rintro⟨⟨d,m⟩,q,g,nb,U⟩ ⟨hd,hm,hg,hnb,hT⟩ ih;simp only at hd hm hg hnb hT;have hg2:g=none→d=[]:=hg.1;cases hm with
 |nil _ h=>
  rw[aQ] at hd;subst hd;have hmade:=zm6 4 g d hg hT.lf (by simpa using h100) fun p hp=>by
   have:=hne p.1 (List.mem_map.2 ⟨p,hp,I⟩);exact⟨this.1,by rw[this.2,cu]⟩
  have hle:(q'.st nb).at_≤R.s.length:=by show q'.at_≤_;omega
  have fin:∀{u G0 G H''} (r2':Nat×Blk),zoZ d u G→List.Perm H'' (G0++G)→∃u' T nb' G',A.agg (tc (zea 4 (d.map Prod.fst)) u)=.agg (tc (zea 4 (d.map Prod.fst)) u')∧TR (zea 4 (d.map Prod.fst)) u' T∧(nb'=none→q'.nm=[])∧((r2'::(Hp R (q'.st nb)++U))++H'').Perm (G'++(T++Hp R (q'.st nb'))):=fun r2' h1 h2=>⟨_,_,nb,_,I,zeD h1 hT,hnb,(h2.append_left _).trans (pmF _ _ _ _ _)⟩;refine ae0 (ag 2 I (J2 ?_));refine aH rdK (fun _=>.nilp) okL hmix (by kernel_rfl) ?_;refine aa I I I (aa I I I (aa I I I (ay I I (.inl I) (J1 okL I (.tail _ (.head _)) I I I I (Ja (ah ⟨I,I⟩))) (aa I I I (aa I I I (aa I I I (ay I I (.inl I) (J1 okL I (.tail _ (.head _)) I I I I (Ja (ah ⟨I,I⟩))) (aa I I I (aa I I I (aa I I I ?_))))))))));rcases h with h|⟨h,hc|hc⟩
  ·rw[show decide (((q'.st nb).at_:Int)<(R.s.length:Int))=false from aG (by show¬(q'.at_:Int)<_;omega)]
   refine aP I I (aP I I (aP I I (aa I I I (aa I I I (aP I I (aP I I (aP I I (aa I I I ?_))))))));refine aF ?_;refine ae (ag 3 I (J (ae (ag 3 I (J3 ?_)))));refine J7 (Jd (_::(Hp R (q'.st nb)++U)) I I I I hmade fun v H' hv=>?_)
   obtain⟨u,G0,G,rfl,k1,k2⟩:=hv;have hlf:=zaV (x:=zea 4 (d.map Prod.fst)) (zeD (op:=4) k1 hT).lf;refine ab (O (J8 okL I I I (zab I) (hlf) I I .here I I I (ab (ag 3 I (J ?_)))));refine zaa (Jw okL I I (.head _) I I I) ?_;exact fin _ k1 k2
  ·rw[show decide (((q'.st nb).at_:Int)<(R.s.length:Int))=true from aA (by show(q'.at_:Int)<_;omega)]
   (repeat (refine aa I I I ?_))
   refine ay rfl rfl (.inl rfl) (Jp (Hc:=Hp R (q'.st nb)) (F:=_::(U++outH _ _ _ _)) rfl rfl rfl (pmE _ _ _ _) (zcg R (q'.st nb) hle hl) fun v H' hv=>by obtain⟨rfl,rfl⟩:=hv;exact Jl (pmE _ _ _ _).symm (Ja (ah ⟨I,I⟩))) ?_
   rw[show(q'.st nb).at_=q'.at_ from rfl,hc]
   refine aa I I I (aa I I I (aa I I I (aP I I (aP I I (aP I I (aa I I I ?_))))));refine aF ?_;refine ae (ag 3 I (J (ae (ag 3 I (J3 ?_)))));refine J7 (Jd (_::(Hp R (q'.st nb)++U)) I I I I hmade fun v H' hv=>?_)
   obtain⟨u,G0,G,rfl,k1,k2⟩:=hv;have hlf:=zaV (x:=zea 4 (d.map Prod.fst)) (zeD (op:=4) k1 hT).lf;refine ab (O (J8 okL I I I (zab I) (hlf) I I .here I I I (ab (ag 3 I (J ?_)))));refine zaa (Jw okL I I (.head _) I I I) ?_;exact fin _ k1 k2
  ·rw[show decide (((q'.st nb).at_:Int)<(R.s.length:Int))=true from aA (by show(q'.at_:Int)<_;omega)]
   (repeat (refine aa I I I ?_))
   refine ay rfl rfl (.inl rfl) (Jp (Hc:=Hp R (q'.st nb)) (F:=_::(U++outH _ _ _ _)) rfl rfl rfl (pmE _ _ _ _) (zcg R (q'.st nb) hle hl) fun v H' hv=>by obtain⟨rfl,rfl⟩:=hv;exact Jl (pmE _ _ _ _).symm (Ja (ah ⟨I,I⟩))) ?_
   rw[show(q'.st nb).at_=q'.at_ from rfl,hc]
   (repeat (refine aa I I I ?_))
   refine ay rfl rfl (.inl rfl) (Jp (Hc:=Hp R (q'.st nb)) (F:=_::(U++outH _ _ _ _)) rfl rfl rfl (pmE _ _ _ _) (zcg R (q'.st nb) hle hl) fun v H' hv=>by obtain⟨rfl,rfl⟩:=hv;exact Jl (pmE _ _ _ _).symm (Ja (ah ⟨I,I⟩))) ?_
   rw[show(q'.st nb).at_=q'.at_ from rfl,hc]
   (repeat (refine aa I I I ?_))
   refine aF ?_;refine ae (ag 3 I (J (ae (ag 3 I (J3 ?_)))));refine J7 (Jd (_::(Hp R (q'.st nb)++U)) I I I I hmade fun v H' hv=>?_)
   obtain⟨u,G0,G,rfl,k1,k2⟩:=hv;have hlf:=zaV (x:=zea 4 (d.map Prod.fst)) (zeD (op:=4) k1 hT).lf;refine ab (O (J8 okL I I I (zab I) (hlf) I I .here I I I (ab (ag 3 I (J ?_)))));refine zaa (Jw okL I I (.head _) I I I) ?_;exact fin _ k1 k2
 |cons _ q1 _ x m hk c1 c2 hy t=>
  have hle:(q.st nb).at_≤R.s.length:=bH hk;have hdl:d.length≤100000000:=by
   have e:(d.map Prod.fst++x::m).length=l.length:=ai List.length hd;rw[aT,ak] at e;omega
  have hml:m.length<(x::m).length:=by simp
  have n1:(((cur R.s q.at_).toNat:Int) !=124)=true:=by
   rw[bO];intro e;exact c1 (UInt8.toNat_inj.1 (by show _=124;omega))
  have n2:(((cur R.s q.at_).toNat:Int) !=41)=true:=by
   rw[bO];intro e;exact c2 (UInt8.toNat_inj.1 (by show _=41;omega))
  refine ae0 (ag 2 I (J2 ?_));refine aH rdK (fun _=>.nilp) okL hmix (by kernel_rfl) ?_;refine aa I I I (aa I I I (aa I I I (ay I I (.inl I) (J1 okL I (.tail _ (.head _)) I I I I (Ja (ah ⟨I,I⟩))) (aa I I I (aa I I I (aa I I I (ay I I (.inl I) (J1 okL I (.tail _ (.head _)) I I I I (Ja (ah ⟨I,I⟩))) (aa I I I (aa I I I (aa I I I ?_))))))))));rw[show decide (((q.st nb).at_:Int)<(R.s.length:Int))=true from aA (by show(q.at_:Int)<_;omega)]
  (repeat (refine aa I I I ?_))
  refine ay rfl rfl (.inl rfl) (Jp (Hc:=Hp R (q.st nb)) (F:=_::(U++outH _ _ _ _)) rfl rfl rfl (pmE _ _ _ _) (zcg R (q.st nb) hle hl) fun v H' hv=>by obtain⟨rfl,rfl⟩:=hv;exact Jl (pmE _ _ _ _).symm (Ja (ah ⟨I,I⟩))) ?_
  (repeat (refine aa I I I ?_))
  rw[show(q.st nb).at_=q.at_ from rfl,n1]
  (repeat (refine aa I I I ?_))
  refine ay rfl rfl (.inl rfl) (Jp (Hc:=Hp R (q.st nb)) (F:=_::(U++outH _ _ _ _)) rfl rfl rfl (pmE _ _ _ _) (zcg R (q.st nb) hle hl) fun v H' hv=>by obtain⟨rfl,rfl⟩:=hv;exact Jl (pmE _ _ _ _).symm (Ja (ah ⟨I,I⟩))) ?_
  (repeat (refine aa I I I ?_))
  refine aF ?_;rw[show(q.st nb).at_=q.at_ from rfl,n2]
  refine ae (ag 7 I (J3 ?_));refine J7 (Jp (Hc:=Hp R (q.st nb)) (F:=_::(U++outH _ _ _ _)) I I I (pmE _ _ _ _) (hy nb hnb) fun v H' hv=>?_)
  obtain⟨u,T1,nb',G,rfl,hT1,g1,g2⟩:=hv;refine Jl (H':=G++((r2,.row 25 7 [[i64 0,i64 0,i64 0,i64 0,.str [],.nils,.nils]])::((Hp R (q1.st nb')++(U++T1))++outH 25 7 g (d.map tcp)))) ((g2.append_right _).trans (pmD _ _ _ _ _ _)) (Js G ?_)
  have hlf:=zaV (x:=x) hT1.lf;refine ab (O (Jh okL I I I I I I I I I (hlf) I (fun _ _=>(ab (J3 ?_)))));rename_i rb _;refine J7 (Jt tcp g d (x,u) (_::(Hp R (q1.st nb')++(U++T1))) okL hg2 I I I I I I I I hlf hdl I I fun r'=>?_)
  refine ab (ag 3 I (J (zae ?_)))
  (refine aq 0 (ih (((d++[(x,u)],m),q1,some r',nb',U++T1)) (⟨zjT hd,t,ck (fun h=>by cases h) (fun h=>by simp at h),g1,hT.snoc hT1⟩) (by omega)) ?_ I;exact⟨I,I,I,trivial⟩)
inductive AltL(R:Rdr):PQ→List Pat→PQ→Prop
 |nil (q:PQ) (hk:q.at_≤R.s.length) (h:(decide (q.at_<R.s.length)&&([124]:List UInt8).contains (cur R.s q.at_))=false):AltL R q [] q
 |cons (q q1 q':PQ) (x:Pat) (l:List Pat) (hk:q.at_<R.s.length) (h1:cur R.s q.at_=124) (hy:Yld 145 [] R {q with at_:=q.at_+1} x q1) (t:AltL R q1 l q'):AltL R q (x::l) q'
theorem pmG{α:Type}(r b:α)(X T:List α):(b::r::(T++X)).Perm (r::((X++T)++[b])):=by
 classical
 exact List.perm_iff_count.2 fun x=>by simp only[bS,cr,List.count_nil];omega
theorem zsk(R:Rdr)(q0 q1 q':PQ)(x0:Pat)(l:List Pat)(hl:R.s.length≤1000)(h100:(x0::l).length≤100)(hne:∀y∈x0::l,(y.op==5)=false)(hx:Yld 145 [] R q0 x0 q1)(hc:AltL R q1 l q'):Yld 98 [] R q0 (zea 5 (x0::l)) q':=fun nb0 hnb=>by
 refine Jb (N:=17) Tryz.func98 I I I ?_;have hx:=hx nb0 hnb;refine ae0 (ag 2 I (O (Jf okL I I I (fun _ _=>(ab (ag 5 I (J3 ?_)))))));rename_i r2 _;refine J7 (Jd [_] I I I I hx fun v H' hv=>?_)
 obtain⟨u0,U0,nb1,G,rfl,hT0,g1,g2⟩:=hv;refine Jl (H':=G++((r2,.row 25 7 [[i64 0,i64 0,i64 0,i64 0,.str [],.nils,.nils]])::(U0++Hp R (q1.st nb1)))) ((g2.cons _).trans List.perm_middle.symm) (Js G ?_)
 refine ab (O (Jh okL I I I I I I I I I (zaV hT0.lf) I (fun _ _=>(ab (ag 5 I (J2 ?_))))));rename_i rb _;refine Jj (α:=(List (Pat×A)×List Pat)×PQ×Option Nat×Option Nat×Heap) (fun a=>a.1.2.length) (fun a=>[(0,R.p),(2,.ptr r2 7 0 0),(3,outV 7 a.2.2.1 a.1.1.length)])
  (fun a=>(r2,.row 25 7 [[i64 0,i64 0,i64 0,i64 0,.str [],.nils,.nils]])::((Hp R (a.2.1.st a.2.2.2.1)++a.2.2.2.2)++outH 25 7 a.2.2.1 (a.1.1.map tcp)))
  (fun a=>a.1.1.map Prod.fst++a.1.2=x0::l∧AltL R a.2.1 a.1.2 q'∧(a.2.2.1=none↔a.1.1=[])∧(a.2.2.2.1=none→a.2.1.nm=[])∧TRL a.1.1 a.2.2.2.2) (([(x0,u0)],l),q1,some rb,nb1,U0) ⟨I,hc,ck (fun h=>by cases h) (fun h=>by cases h),g1,by have:=TRL.cons x0 u0 U0 [] [] hT0 .nil;rwa [aQ] at this⟩ ?_ (pmG _ _ _ _) ?_
 ·simp only[zaz]
  refine⟨I,I,I,trivial⟩
 rintro⟨⟨d,m⟩,q,g,nb,U⟩ ⟨hd,hm,hg,hnb,hT⟩ ih;simp only at hd hm hg hnb hT;have hg2:g=none→d=[]:=hg.1;cases hm with
 |nil _ hk h=>
  rw[aQ] at hd;rw[←hd] at h100 hne ⊢;have hmade:=zm6 5 g d hg hT.lf (by simpa using h100) fun p hp=>⟨hne p.1 (List.mem_map.2 ⟨p,hp,I⟩),I⟩;have ht:=zbn R (q'.st nb) [124] hk hl;rw[show za7 R (q'.st nb) [124]=false from h,ac aJ,ac aJ] at ht
  refine ae0 (ag 4 I (J3 ?_));refine J7 (Jp (Hc:=Hp R (q'.st nb)) (F:=_::(U++outH _ _ _ _)) I I I (pmE _ _ _ _) ht fun v H' hv=>?_)
  obtain⟨rfl,rfl⟩:=hv;refine Jl (pmE _ _ _ _).symm ?_;refine ab (ag 6 I (J (ae (ag 3 I (J3 ?_)))));refine J7 (Jd (_::(Hp R (q'.st nb)++U)) I I I I hmade fun v H' hv=>?_)
  obtain⟨u,G0,G,rfl,k1,k2⟩:=hv;have hlf:=zaV (x:=zea 5 (d.map Prod.fst)) (zeD (op:=5) k1 hT).lf;refine ab (O (J8 okL I I I (zab I) (hlf) I I .here I I I (ab (ag 3 I (J ?_)))));refine zaa (Jw okL I I (.head _) I I I) ?_;exact⟨_,_,nb,_,I,zeD k1 hT,hnb,(k2.append_left _).trans (pmF _ _ _ _ _)⟩
 |cons _ q2 _ x m hk c1 hy t=>
  have hdl:d.length≤100000000:=by
   have e:(d.map Prod.fst++x::m).length=(x0::l).length:=ai List.length hd;rw[aT,ak] at e;omega
  have hml:m.length<(x::m).length:=by simp
  have t1:za7 R (q.st nb) [124]=true:=by
   unfold za7;rw[show(q.st nb).at_=q.at_ from rfl,c1,aA hk]
   rfl
  have ht:=zbn R (q.st nb) [124] (bH hk) hl;rw[t1,show(q.st nb).at_=q.at_ from rfl,c1,af I,af I] at ht
  refine ae0 (ag 4 I (J3 ?_));refine J7 (Jp (Hc:=Hp R (q.st nb)) (F:=_::(U++outH _ _ _ _)) I I I (pmE _ _ _ _) ht fun v H' hv=>?_)
  obtain⟨rfl,rfl⟩:=hv;refine Jl (pmE _ _ _ _).symm ?_;refine ab (ag 10 I (J3 ?_));refine J7 (Jp (Hc:=Hp R (PQ.st {q with at_:=q.at_+1} nb)) (F:=_::(U++outH _ _ _ _)) I I I (pmE _ _ _ _) (hy nb hnb) fun v H' hv=>?_)
  obtain⟨u,T1,nb',G,rfl,hT1,g1,g2⟩:=hv;refine Jl (H':=G++((r2,.row 25 7 [[i64 0,i64 0,i64 0,i64 0,.str [],.nils,.nils]])::((Hp R (q2.st nb')++(U++T1))++outH 25 7 g (d.map tcp)))) ((g2.append_right _).trans (pmD _ _ _ _ _ _)) (Js G ?_)
  have hlf:=zaV (x:=x) hT1.lf;refine ab (O (Jh okL I I I I I I I I I (hlf) I (fun _ _=>(ab (J3 ?_)))));rename_i rc _;refine J7 (Jt tcp g d (x,u) (_::(Hp R (q2.st nb')++(U++T1))) okL hg2 I I I I I I I I hlf hdl I I fun r'=>?_)
  refine ab (ag 3 I (J (zae ?_)))
  (refine aq 0 (ih (((d++[(x,u)],m),q2,some r',nb',U++T1)) (⟨zjT hd,t,ck (fun h=>by cases h) (fun h=>by simp at h),g1,hT.snoc hT1⟩) (by omega)) ?_ I;exact⟨I,I,I,trivial⟩)
def inC(op n:Int)(nm:List UInt8)(L:A):List A:=[i64 op,i64 n,i64 0,i64 0,.str nm,.nils,L]
theorem zoG{op n:Int}{nm:List UInt8}{u:A}(h:u.leaf=true):zan (inC op n nm u)=true:=by
 refine zay.2 fun a ha=>?_;simp only[inC,bx,dj,or_false] at ha;rcases ha with rfl|rfl|rfl|rfl|rfl|rfl|rfl<;>first|rfl|exact h
theorem pmH{α:Type}(a b G Y:List α):(a++(G++Y)).Perm (G++(a++Y)):=by
 classical
 exact List.perm_iff_count.2 fun x=>by simp only[bS];omega
theorem pmI{α:Type}(a b c:α)(T G X:List α):(a::b::c::(T++(G++X))).Perm ((b::c::G)++((a::T)++X)):=by
 classical
 exact List.perm_iff_count.2 fun x=>by simp only[bS,cr];omega
theorem pmJ{α:Type}(a:α)(T G X:List α):(a::(T++(G++X))).Perm ((a::G)++(T++X)):=by
 classical
 exact List.perm_iff_count.2 fun x=>by simp only[bS,cr];omega
theorem znv(R:Rdr)(q q1:PQ)(op n:Int)(nm:List UInt8)(y:Pat)(hl:R.s.length≤1000)(hy:Yld 98 [] R q y q1)(hk:q1.at_<R.s.length)(hc:cur R.s q1.at_=41)(nb:Option Nat)(hnb:nb=none→q.nm=[]):
  TrG [] Tryz.prog 324 [R.p,.agg (inC op n nm .nils)] (Hp R (q.st nb)) fun v H'=>∃u T nb' G,v=.agg (inC op n nm u)∧TR (.mk op n 0 0 nm [] [y]) u T∧(nb'=none→q1.nm=[])∧H'.Perm (G++(T++Hp R (PQ.st {q1 with at_:=q1.at_+1} nb'))):=by
 refine Jb (N:=12) Tryz.func324 I I I ?_;have hy:=hy nb hnb;refine ae0 (ag 2 I (O (Jk I I (zab I) I I (fun _ _=>(ab (O (Jf okL I I I (fun _ _=>(ab (ag 5 I (J3 ?_)))))))))));rename_i r3 _ r4 _;refine J7 (Jd [_,_] I I I I hy fun v H' hv=>?_)
 obtain⟨u,U,nb1,G,rfl,hT,g1,g2⟩:=hv;refine Jl (H':=G++([_,_]++(U++Hp R (q1.st nb1)))) ((g2.append_left _).trans (pmH _ [] _ _)) (Js G ?_)
 refine ab (O (Jh okL I I I I I I I I I (zaV hT.lf) I (fun _ _=>(ab (ag 1 I (O (J8 okL I I I (zab I) I I I (.there (.there .here)) I I I (ab (ag 5 I (O (J1 okL I (.tail _ (.tail _ (.head _))) I I I I (ab (J3 ?_)))))))))))));rename_i rb _;refine J7 (Jd (_::_::_::U) I I I I (zgX R q1 op n 0 0 nm .nils (.os rb 7 0 1) I hk hl hc nb1) fun v H' hv=>?_)
 obtain⟨rfl,G3,g3⟩:=hv;refine ab (O (J8 okL I I I (zab I) I I I (.there .here) I I I (ab (ag 3 I (J ?_)))));refine zaa (Jw okL I I (.tail _ (.head _)) I I I) ?_;exact⟨_,_,nb1,_,I,TR.one rb hT,g1,((((g3.append_left U).cons _).cons _).cons _).trans (pmI _ _ _ _ _ _)⟩
theorem ziO(R:Rdr)(q q1:PQ)(y:Pat)(hl:R.s.length≤1000)(hg:0≤q.gr∧q.gr≤1000)(hn:q.nm.length≤1000)(hy:Yld 98 [] R ⟨q.at_,q.gr+1,q.nm++[[]]⟩ y q1)(hk:q1.at_<R.s.length)(hc:cur R.s q1.at_=41):
  Yld 323 [.str []] R q (.mk 7 (q.gr+1) 0 0 [] [] [y]) {q1 with at_:=q1.at_+1}:=Yld.nil fun nb hnb=>by
 refine Jb (N:=43) Tryz.func323 I I I ?_;have w1:IntKind.i64.wrap (q.gr+1)=q.gr+1:=zap ⟨by omega,by omega⟩
 rw[zlF];refine ae0 (ag 2 I (O (Jf okL I I I (fun _ _=>(ab (ag 7 I (O (J1 okL I (.tail _ (.head _)) I I I I (ab (ag 3 I (O (J8 okL I I I (zab I) I I I (.there .here) I I I (ab (ag 26 I (O (J1 okL I (.tail _ (.head _)) I I I I (ab (ag 1 I (O (Jh okL I I I I I I I I I I I (fun _ _=>(ab (J3 ?_)))))))))))))))))))))));rename_i r4 _ rb _;have hb:q.nm.length≤100000000:=by omega
 refine J7 (Jt sC nb q.nm [] [_,_,_,_] okL hnb I I I I I I I I I hb I I fun r'=>?_)
 refine ab (ag 2 I (O (J8 okL I I I (zab I) I I I (.there .here) I I I (ab (ag 8 I (O (J1 okL I (.tail _ (.head _)) I I I I (ab (ag 2 I (J3 ?_))))))))));rw[show(q.st nb).gr=q.gr from rfl,w1]
 refine J7 (Jd [_] I I I I (znv R ⟨q.at_,q.gr+1,q.nm++[[]]⟩ q1 7 (q.gr+1) [] y hl hy hk hc (some r') (fun h=>by cases h)) fun v H' hv=>?_)
 obtain⟨u,U,nb1,G3,rfl,hT,g1,g3⟩:=hv;have hlf:zan (inC 7 (q.gr+1) [] u)=true:=zoG hT.lf;refine ab (O (J8 okL I I I (zab I) (hlf) I I .here I I I (ab (ag 3 I (J ?_)))));refine zaa (Jw okL I I (.head _) I I I) ?_;exact⟨u,U,nb1,_::G3,I,hT,g1,g3.cons _⟩
theorem zly(R:Rdr)(q q':PQ)(x:Pat)(hk:q.at_≤R.s.length)(hl:R.s.length≤1000)(h1:(decide (q.at_<R.s.length)&&([42]:List UInt8).contains (cur R.s q.at_))=false)(h2:(decide (q.at_<R.s.length)&&([63]:List UInt8).contains (cur R.s q.at_))=false)
  (hy:Yld 323 [.str []] R q x q'):Yld 297 [] R q x q':=fun nb hnb=>by
 refine Jb (N:=74) Tryz.func297 I I I ?_;have t1:=zbn R (q.st nb) [42] hk hl;rw[show za7 R (q.st nb) [42]=false from h1,ac aJ,ac aJ] at t1
 have t2:=zbn R (q.st nb) [63] hk hl;rw[show za7 R (q.st nb) [63]=false from h2,ac aJ,ac aJ] at t2
 have hy:=hy nb hnb;refine ae0 (ag 2 I (O (Jf okL I I I (fun _ _=>(ab (ag 6 I (J3 ?_)))))));refine J7 (Jd [_] I I I I t1 fun v H' hv=>?_)
 obtain⟨rfl,rfl⟩:=hv;refine ab (ag 10 I (J3 ?_));refine J7 (Jd [_] I I I I t2 fun v H' hv=>?_)
 obtain⟨rfl,rfl⟩:=hv;refine ab (ag 7 I (J3 ?_));refine J7 (Jd [_] I I I I hy fun v H' hv=>?_)
 obtain⟨u,U,nb1,G3,rfl,hT,g1,g3⟩:=hv;refine ab (O (J8 okL I I I (zab I) (zaV hT.lf) I I .here I I I (ab (ag 4 I (J ?_)))));refine zaa (Jw okL I I (.head _) I I I) ?_;exact⟨u,U,nb1,_::G3,I,hT,g1,g3.cons _⟩
def grpS:List UInt8:=[58,62,61,33,60,40,123,82,48,49,50,51,52,53,54,55,56,57]
theorem zm3(R:Rdr)(q q1:PQ)(x:Pat)(hk:q.at_+1<R.s.length)(hl:R.s.length≤1000)(c1:cur R.s q.at_=63)(c2:cur R.s (q.at_+1)=58)
  (hy:Yld 98 [] R {q with at_:=q.at_+2} x q1) (hk1:q1.at_<R.s.length) (c3:cur R.s q1.at_=41):Yld 297 [] R q x {q1 with at_:=q1.at_+1}:=fun nb hnb=>by
 refine Jb (N:=74) Tryz.func297 I I I ?_;have t1:=zbn R (q.st nb) [42] (by show q.at_≤_;omega) hl
 rw[show za7 R (q.st nb) [42]=false by unfold za7;rw[show(q.st nb).at_=q.at_ from rfl,c1];exact cu _,ac aJ,ac aJ] at t1
 have t2:=zbn R (q.st nb) [63] (by show q.at_≤_;omega) hl
 rw[show za7 R (q.st nb) [63]=true by unfold za7;rw[show(q.st nb).at_=q.at_ from rfl,c1,aA (by omega)];rfl,show(q.st nb).at_=q.at_ from rfl,c1,af I,af I] at t2
 have t3:=zgF R ⟨q.at_+1,q.gr,nb,q.nm⟩ grpS (bH hk) hl (by unfold za7;rw[c2,aA hk];rfl) (by rw[c2];decide);rw[c2] at t3;have hy:=hy nb hnb;refine ae0 (ag 2 I (O (Jf okL I I I (fun _ _=>(ab (ag 6 I (J3 ?_)))))));refine J7 (Jd [_] I I I I t1 fun v H' hv=>?_)
 obtain⟨rfl,rfl⟩:=hv;refine ab (ag 10 I (J3 ?_));refine J7 (Jd [_] I I I I t2 fun v H' hv=>?_)
 obtain⟨rfl,rfl⟩:=hv;refine ab (ag 9 I (J3 ?_));refine J7 (Jd [_] I I I I t3 fun v H' hv=>?_)
 obtain⟨rfl,rfl⟩:=hv;refine ab (ag 20 I (J3 ?_));refine J7 (Jd [_] I I I I hy fun v H' hv=>?_)
 obtain⟨u,U,nb1,G3,rfl,hT,g1,g3⟩:=hv;rename_i r2 _;refine Jl (H':=G3++([_]++(U++Hp R (q1.st nb1)))) ((g3.append_left _).trans (pmH _ [] _ _)) (Js G3 ?_)
 refine ab (J3 ?_)
 refine J7 (Jd (_::U) I I I I (zgX R q1 x.op x.n x.min x.max x.name (.ds (x.set.map zaf)) u (zaV hT.lf) hk1 hl c3 nb1) fun v H' hv=>?_)
 obtain⟨rfl,G4,g5⟩:=hv;refine ab (O (J8 okL I I I (zab I) (zaV hT.lf) I I .here I I I (ab (ag 4 I (J ?_)))));refine zaa (Jw okL I I (.head _) I I I) ?_;exact⟨u,U,nb1,_,I,hT,g1,((g5.append_left U).cons _).trans (pmJ _ _ _ _)⟩
theorem zkw(R:Rdr)(q:PQ)(hk:q.at_+2<R.s.length)(hl:R.s.length≤1000)(c1:cur R.s q.at_=63)(c2:cur R.s (q.at_+1)=48)
  (c3:cur R.s (q.at_+2)=41):Yld 297 [] R q (.mk 14 0 0 0 [] [] []) {q with at_:=q.at_+3}:=Yld.leaf fun nb hnb=>by
 refine Jb (N:=74) Tryz.func297 I I I ?_;have t1:=zbn R (q.st nb) [42] (by show q.at_≤_;omega) hl
 rw[show za7 R (q.st nb) [42]=false by unfold za7;rw[show(q.st nb).at_=q.at_ from rfl,c1];exact cu _,ac aJ,ac aJ] at t1
 have t2:=zbn R (q.st nb) [63] (by show q.at_≤_;omega) hl
 rw[show za7 R (q.st nb) [63]=true by unfold za7;rw[show(q.st nb).at_=q.at_ from rfl,c1,aA (by omega)];rfl,show(q.st nb).at_=q.at_ from rfl,c1,af I,af I] at t2
 have t3:=zgF R ⟨q.at_+1,q.gr,nb,q.nm⟩ grpS (by show q.at_+1≤_;omega) hl (by unfold za7;rw[c2,aA (by show q.at_+1<_;omega)];rfl) (by rw[c2];decide)
 rw[c2] at t3;refine ae0 (ag 2 I (O (Jf okL I I I (fun _ _=>(ab (ag 6 I (J3 ?_)))))));refine J7 (Jd [_] I I I I t1 fun v H' hv=>?_)
 obtain⟨rfl,rfl⟩:=hv;refine ab (ag 10 I (J3 ?_));refine J7 (Jd [_] I I I I t2 fun v H' hv=>?_)
 obtain⟨rfl,rfl⟩:=hv;refine ab (ag 9 I (J3 ?_));refine J7 (Jd [_] I I I I t3 fun v H' hv=>?_)
 obtain⟨rfl,rfl⟩:=hv;refine ab (ag 72 I (J3 ?_));refine J7 (Jd [_] I I I I (zgX R {q with at_:=q.at_+2} 14 0 0 0 [] .nils .nils I hk hl c3 nb) fun v H' hv=>?_)
 obtain⟨rfl,G4,g5⟩:=hv;refine ab (O (J8 okL I I I (zab I) I I I .here I I I (ab (ag 4 I (J ?_)))));refine zaa (Jw okL I I (.head _) I I I) ?_;exact⟨I,nb,_::G4,hnb,g5.cons _⟩
structure ClsP(c:UInt8):Prop where
 a:((c.toNat:Int)==92)=false
 lo:decide ((c.toNat:Int)<32)=false
 hi:decide ((c.toNat:Int)>126)=false
 ix:decide (Lib.indexByte [91,93,94,45] c≥0)=false
theorem zgu(R:Rdr)(a:PSt)(lt:List UInt8)(hk:a.at_<R.s.length)(hl:R.s.length≤1000)(hp:ClsP (cur R.s a.at_)):TrG [] Tryz.prog 328 [R.p,.str lt] (Hp R a) fun v H'=>v=.tup [i64 (cur R.s a.at_).toNat,.nils]∧H'=Hp R {a with at_:=a.at_+1}:=by
 refine Jb (N:=62) Tryz.func328 I I I ?_;have h:=zcg R a (bH hk) hl
 revert h hp
 generalize cur R.s a.at_=c
 intro hp h;refine ae0 (ag 9 I (J3 ?_));refine J7 (Jd [] I I I I h fun v H' hv=>?_)
 obtain⟨rfl,rfl⟩:=hv;rw[b7,zlF];refine ab (ag 10 I (J2 ?_));rw[hp.a];refine ae (ag 9 I (J3 ?_));rw[hp.lo];refine ab (ag 4 I (J3 ?_));rw[hp.hi];have hS:=zet [91,93,94,45] c;refine ab (ag 1 I (Jg I I I (J9 I I I (hS) (ab (ag 4 I (J2 ?_))))));rw[hp.ix];have w1:IntKind.i64.wrap (c.toNat:Int)=c.toNat:=zap ⟨by omega,by have:=c.toNat_lt;omega⟩
 have w2:IntKind.i64.wrap ((a.at_:Int)+1)=((a.at_+1:Nat):Int):=by rw[zap ⟨by omega,by omega⟩];rfl
 refine ae (ag 8 I (O (J1 okL I (.head _) I I I I (ab (ag 3 I (O (J8 okL I I I (zab I) I I I .here I I I (ab (ag 11 I (J ?_))))))))));rw[w1,w2];refine zaa (Jm I I I) ?_;exact⟨I,I⟩
def spC(cs:List UInt8):List (Int×Int):=cs.map fun c=>((c.toNat:Int),(c.toNat:Int))
structure ClsR(R:Rdr)(p:Nat)(cs:List UInt8):Prop where
 len:p+cs.length<R.s.length
 ne:0<cs.length
 n100:cs.length≤100
 ch:∀i c,cs[i]?=some c→cur R.s (p+i)=c∧ClsP c
 close:cur R.s (p+cs.length)=93
 nd:∀i,0<i→i≤cs.length→([45]:List UInt8).contains (cur R.s (p+i))=false
 nc:∀i,0<i→i<cs.length→([93]:List UInt8).contains (cur R.s (p+i))=false
theorem pmK{α:Type}(a b:α)(X Y:List α):(a::b::(X++Y)).Perm (X++(a::b::Y)):=by
 classical
 exact List.perm_iff_count.2 fun x=>by simp only[bS,cr];omega
theorem znL(R:Rdr)(q:PQ)(cs:List UInt8)(hl:R.s.length≤1000)(h1:cur R.s q.at_=94)(hc:ClsR R (q.at_+1) cs):Yld 298 [] R q (.mk 3 1 0 0 [] (zeo (srtS (spC cs))) []) {q with at_:=q.at_+1+cs.length+1}:=fun nb hnb=>by
 have hlen:=hc.len;have t0:=zbn R (q.st nb) [94] (by show q.at_≤_;omega) hl
 rw[show za7 R (q.st nb) [94]=true by unfold za7;rw[show(q.st nb).at_=q.at_ from rfl,h1,aA (by omega)];rfl,show(q.st nb).at_=q.at_ from rfl,h1,af I,af I] at t0
 refine Jb (N:=64) Tryz.func298 I I I ?_;refine ae0 (ag 2 I (O (Jf okL I I I (fun _ _=>(ab (ag 5 I (O (Jf okL I I I (fun _ _=>(ab (O (J8 okL I I I (zab I) I I I .here I I I (ab (ag 6 I (J3 ?_)))))))))))))));rename_i r2 _ r3 _;refine J7 (Jd [_,_] I I I I t0 fun v H' hv=>?_)
 obtain⟨rfl,rfl⟩:=hv;refine ab (ag 6 I (O (J8 okL I I I (zab I) I I I .here I I I (ab (ag 9 I (J2 ?_))))));refine Jj (α:=Nat×Option Nat) (fun a=>cs.length - a.1) (fun a=>[(0,R.p),(2,.ptr r2 7 0 0),(3,.ptr r3 7 0 0),(4,outV 2 a.2 (spC (cs.take a.1)).length)])
  (fun a=>(r3,.row 25 7 [[i64 3,i64 1,i64 0,i64 0,.str [],.nils,.nils]])::(r2,.row 25 7 [[i64 0,i64 0,i64 0,i64 0,.str [],.nils,.nils]])::(Hp R ⟨q.at_+1+a.1,q.gr,nb,q.nm⟩++outH 166 2 a.2 ((spC (cs.take a.1)).map zaf)))
  (fun a=>a.1≤cs.length∧(a.2=none↔a.1=0)) (0,none) ⟨aM _,d4 I I⟩ ?_ (by simp only[outH,aQ];exact ar _) ?_
 ·simp only[zaz]
  refine⟨I,I,I,I,trivial⟩
 rintro⟨k,g⟩ ⟨hk,hg⟩ ih;simp only at hk hg;have hg2:g=none→spC (cs.take k)=[]:=fun e=>by rw[hg.1 e];rfl
 have hb:(spC (cs.take k)).length≤100000000:=by
  have:=hc.n100;rw[spC,ak,be];omega
 have hkl:(spC (cs.take k)).length=k:=by rw[spC,ak,be];omega
 have step:∀x,cs[k]?=some x→spC (cs.take (k+1))=spC (cs.take k)++[((x.toNat:Int),(x.toNat:Int))]:=fun x hx=>by
  rw[cd,hx,spC,bd];rfl
 by_cases hk0:k=0
 ·subst hk0
  obtain rfl:=hg.2 rfl;obtain⟨x,hx⟩:∃x,cs[0]?=some x:=⟨cs[0]'hc.ne,by simp[hc.ne]⟩
  obtain⟨hx1,hx2⟩:=hc.ch 0 x hx;have et:=step x hx;have hne:=hc.ne
  have hcl:=zgu R ⟨q.at_+1+0,q.gr,nb,q.nm⟩ [100,119,115] (by show q.at_+1+0<_;omega) hl (by show ClsP (cur R.s (q.at_+1+0));rw[hx1];exact hx2)
  rw[show cur R.s (PSt.at_ ⟨q.at_+1+0,q.gr,nb,q.nm⟩)=x from hx1] at hcl
  have htd:=zbn R ⟨q.at_+1+0+1,q.gr,nb,q.nm⟩ [45] (by show q.at_+1+0+1≤_;omega) hl
  rw[show za7 R ⟨q.at_+1+0+1,q.gr,nb,q.nm⟩ [45]=false by unfold za7;rw[show PSt.at_ ⟨q.at_+1+0+1,q.gr,nb,q.nm⟩=q.at_+1+(0+1) from rfl,hc.nd (0+1) (by omega) (by omega)];exact cu _,ac aJ,ac aJ] at htd
  refine ae0 (ag 20 I (J3 ?_));refine J7 (Jp (Hc:=Hp R ⟨q.at_+1+0,q.gr,nb,q.nm⟩) (F:=_::_::outH _ _ _ _) I I I (pmK _ _ _ _) hcl fun v H' hv=>?_)
  obtain⟨rfl,rfl⟩:=hv;refine Jl (pmK _ _ _ _).symm ?_;refine ab (ag 27 I (J3 ?_));refine J7 (Jp (Hc:=Hp R ⟨q.at_+1+0+1,q.gr,nb,q.nm⟩) (F:=_::_::outH _ _ _ _) I I I (pmK _ _ _ _) htd fun v H' hv=>?_)
  obtain⟨rfl,rfl⟩:=hv;refine Jl (pmK _ _ _ _).symm ?_;refine ab (ag 11 I (O (Jh okL I I I I I I I I I I I (fun _ _=>(ab (J3 ?_))))));rename_i rb _;refine J7 (Jt zaf none (spC (cs.take 0)) ((x.toNat:Int),(x.toNat:Int)) (_::_::Hp R ⟨q.at_+1+0+1,q.gr,nb,q.nm⟩) okL hg2 I I I I I I I I I hb I I fun r'=>?_)
  rw[←et];refine ab (ag 3 I (J (zae ?_)))
  (refine aq 0 (ih ((0+1,some r')) (⟨by simp only;omega,ck (fun h=>by cases h) (by simp only;omega)⟩) (by omega)) ?_ I;exact⟨I,I,I,I,trivial⟩)
 ·cases g with
  |none=>exact absurd (hg.1 rfl) hk0
  |some rs=>
  by_cases hkn:k=cs.length
  ·subst hkn
   have te:=zbn R ⟨q.at_+1+cs.length,q.gr,nb,q.nm⟩ [93] (by show q.at_+1+cs.length≤_;omega) hl
   rw[show za7 R ⟨q.at_+1+cs.length,q.gr,nb,q.nm⟩ [93]=true by unfold za7;rw[show cur R.s (PSt.at_ ⟨q.at_+1+cs.length,q.gr,nb,q.nm⟩)=93 from hc.close,aA hlen];rfl,show cur R.s (PSt.at_ ⟨q.at_+1+cs.length,q.gr,nb,q.nm⟩)=93 from hc.close,af I,af I] at te
   rw[bM];rw[bM] at hkl;have hz:(((spC cs).length:Int)==0)=false:=by rw[hkl,b8];omega
   refine ae0 (ag 7 I (J3 ?_));rw[hz];refine ab (ag 1 I (J3 ?_));refine Jy I I I (Jp (Hc:=Hp R ⟨q.at_+1+cs.length,q.gr,nb,q.nm⟩) (F:=_::_::outH _ _ _ _) I I I (pmK _ _ _ _) te fun v H' hv=>?_)
   obtain⟨rfl,rfl⟩:=hv;refine Jl (pmK _ _ _ _).symm ?_;have hj:=zcC (spC cs) (fun x hx=>by
    obtain⟨c,_,rfl⟩:=List.mem_map.1 hx;have:=c.toNat_lt;unfold okS';exact⟨by simp only;omega,by simp only;omega⟩) (by rw[hkl];have:=hc.n100;omega)
   refine ab (ag 7 I (J (ae (ag 3 I (J3 ?_)))));refine Jz (t:=60) (f:=zaf) (g:=some rs) (l:=spC cs) (pre:=_::_::Hp R ⟨q.at_+1+cs.length+1,q.gr,nb,q.nm⟩) I I (fun h=>by cases h) ?_
   refine ab (O (J9 I I I (hj) (ab (ag 1 I (O (J8 okL I I I (zab I) I I I .here I I I (ab (ag 4 I (O (J1 okL I (.head _) I I I I (ab (O (J8 okL I I I (zab I) I I I (.there .here) I I I (ab (ag 3 I (J ?_))))))))))))))));refine zaa (Jw okL I I (.tail _ (.head _)) I I I) ?_;exact⟨.nils,[],nb,[_,_],I,.leaf _ _ _ _ _ _,hnb,ar _⟩
  ·obtain⟨x,hx⟩:∃x,cs[k]?=some x:=⟨cs[k]'(by omega),by simp[show k<cs.length by omega]⟩
   obtain⟨hx1,hx2⟩:=hc.ch k x hx;have et:=step x hx;have te:=zbn R ⟨q.at_+1+k,q.gr,nb,q.nm⟩ [93] (by show q.at_+1+k≤_;omega) hl
   rw[show za7 R ⟨q.at_+1+k,q.gr,nb,q.nm⟩ [93]=false by unfold za7;rw[show PSt.at_ ⟨q.at_+1+k,q.gr,nb,q.nm⟩=q.at_+1+k from rfl,hc.nc k (by omega) (by omega)];exact cu _,ac aJ,ac aJ] at te
   have hz:(((spC (cs.take k)).length:Int)==0)=false:=by rw[hkl,b8];omega
   refine ae0 (ag 7 I (J3 ?_));rw[hz];refine ab (ag 1 I (J3 ?_));refine Jy I I I (Jp (Hc:=Hp R ⟨q.at_+1+k,q.gr,nb,q.nm⟩) (F:=_::_::outH _ _ _ _) I I I (pmK _ _ _ _) te fun v H' hv=>?_)
   obtain⟨rfl,rfl⟩:=hv;refine Jl (pmK _ _ _ _).symm ?_
   have hcl:=zgu R ⟨q.at_+1+k,q.gr,nb,q.nm⟩ [100,119,115] (by show q.at_+1+k<_;omega) hl (by show ClsP (cur R.s (q.at_+1+k));rw[hx1];exact hx2)
   rw[show cur R.s (PSt.at_ ⟨q.at_+1+k,q.gr,nb,q.nm⟩)=x from hx1] at hcl
   have htd:=zbn R ⟨q.at_+1+k+1,q.gr,nb,q.nm⟩ [45] (by show q.at_+1+k+1≤_;omega) hl
   rw[show za7 R ⟨q.at_+1+k+1,q.gr,nb,q.nm⟩ [45]=false by unfold za7;rw[show PSt.at_ ⟨q.at_+1+k+1,q.gr,nb,q.nm⟩=q.at_+1+(k+1) from rfl,hc.nd (k+1) (by omega) (by omega)];exact cu _,ac aJ,ac aJ] at htd
   refine ab (ag 11 I (J3 ?_));refine J7 (Jp (Hc:=Hp R ⟨q.at_+1+k,q.gr,nb,q.nm⟩) (F:=_::_::outH _ _ _ _) I I I (pmK _ _ _ _) hcl fun v H' hv=>?_)
   obtain⟨rfl,rfl⟩:=hv;refine Jl (pmK _ _ _ _).symm ?_;refine ab (ag 27 I (J3 ?_));refine J7 (Jp (Hc:=Hp R ⟨q.at_+1+k+1,q.gr,nb,q.nm⟩) (F:=_::_::outH _ _ _ _) I I I (pmK _ _ _ _) htd fun v H' hv=>?_)
   obtain⟨rfl,rfl⟩:=hv;refine Jl (pmK _ _ _ _).symm ?_;refine ab (ag 11 I (O (Jh okL I I I I I I I I I I I (fun _ _=>(ab (J3 ?_))))));rename_i rb _;refine J7 (Jt zaf (some rs) (spC (cs.take k)) ((x.toNat:Int),(x.toNat:Int)) (_::_::Hp R ⟨q.at_+1+k+1,q.gr,nb,q.nm⟩) okL hg2 I I I I I I I I I hb I I fun r'=>?_)
   rw[←et];refine ab (ag 3 I (J (zae ?_)))
   (refine aq 0 (ih ((k+1,some r')) (⟨by simp only;omega,ck (fun h=>by cases h) (by simp only;omega)⟩) (by omega)) ?_ I;exact⟨I,I,I,I,trivial⟩)
def iot(n:Nat):List Int:=(List.range n).map fun i:Nat=>(i:Int)
def intC(i:Int):List A:=[i64 i]
def opK(o:Oper):Nat:=match o.op with
 |.load .. =>5
 |.store .. =>2
 |.buildSlice .. =>3
 |.call {callee:=.builtin .append,.. }=>6
 |_=>0
def opB(a b c d:A)(t:Nat):A:=match t with
 |42=>a
 |44=>b
 |49=>c
 |51=>d
 |_=>.nilp
theorem outM{e:Nat}{T:Env}{H:Heap}{P:Program}{N:NN}{S:A→Heap→Prop}{d:Nat}{t ty:TypeId}{x y:Operand}{pos:String}{after:Array Edge}{guard:Option (Nat×Bool)}{ti ei:TI}{L:Lay}(g:Option Nat)(elems:List (List A))(c:List A)(pre:Heap)(hL:zaq P L)(hx:ev T x=some (outV ei.size g elems.length))(hg:g=none→elems=[])(hH:H.Perm (pre++outH e ei.size g elems))(hy:ev T y=some (.ds [c]))
  (ht:lay L t=some ti) (he:ti.td=.slice e) (hei:lay L e=some ei) (hpos:Nat.ble 1 ei.size=true) (hnl:c.length=ei.size) (hnf:zan c=true)
  (hb1:elems.length≤100000) (hb2:Nat.ble ei.bytes 10000=true) (hd:zah N (some d)=true)
  (k:∀r,S (outV ei.size (some r) (elems++[c]).length) (pre++outH e ei.size (some r) (elems++[c]))):
  AOp P N [] ⟨some d,.call {callee:=.builtin .append,args:=[x,y].toArray,argTypes:=[t,t].toArray},ty,pos,after,guard⟩ []
   (Qn ⟨some d,.call {callee:=.builtin .append,args:=[x,y].toArray,argTypes:=[t,t].toArray},ty,pos,after,guard⟩ T S) T H:=by
 have hbb:=bi hb2;have hm:(elems.length+1)*ei.bytes≤140737488355328:=by
  calc (elems.length+1)*ei.bytes≤100001*10000:=cG (by omega) hbb
   _≤140737488355328:=by decide
 refine AOp.perm hH (cU hL hx hg I hy (RowOf.ds [c]) ht he hei hpos (fun b hb=>by rw[List.mem_singleton.1 hb];exact hnl) (fun b hb=>by rw[List.mem_singleton.1 hb];exact hnf) (by simp only[bc,maxLen];omega) (by simpa using hm) hd fun g' hg'=>?_)
 cases g' with
 |none=>exact absurd (hg' rfl) (by simp)
 |some r=>exact Ja ⟨_,k r,rfl⟩
theorem zpO(s:List UInt8)(h0:s≠[])(hl:s.length≤1000):TrG [] Tryz.prog 95 [.str s,.bool false] [] fun v H'=>∃m sb pb G,v=.ptr m 6 0 0∧H'.Perm (G++Hp ⟨m,sb,pb,s,iot s.length++[(s.length:Int)]⟩ ⟨0,0,none,[]⟩):=by
 have hlen:0<s.length:=List.length_pos_iff.2 h0;refine Jb (N:=81) Tryz.func95 I I I ?_;refine ae0 (ag 8 I (O (Jk I I (zab I) I I (fun _ _=>(ab (ag 13 I (O (AOp.toBytes okL I I I I I I I (ab (ag 5 I (J2 ?_)))))))))));rename_i rm _;refine Jj (α:=Nat×(Option Nat×Option Nat)×Bool×Bool) (fun a=>s.length - a.1) (fun a=>[(0,.str s),(1,.bool false),(5,.ptr rm 6 0 0),(6,.bool a.2.2.1),(7,.bool a.2.2.2),(13,.ds (s.map zaM)),(14,i64 (s.map zaM).length),(15,i64 a.1)])
  (fun a=>[(rm,.row 147 6 [[outV 1 a.2.1.1 ((s.take a.1).map zaM).length,outV 1 a.2.1.2 ((iot a.1).map intC).length,i64 0,i64 0,.nils,.bool false]])]++(outH 5 1 a.2.1.1 ((s.take a.1).map zaM)++outH 3 1 a.2.1.2 ((iot a.1).map intC)))
  (fun a=>a.1≤s.length∧(a.2.1.1=none↔a.1=0)∧(a.2.1.2=none↔a.1=0)) (0,(none,none),false,false) ⟨aM _,d4 I I,d4 I I⟩ ?_ (ar _) ?_
 ·simp only[zaz]
  refine⟨I,I,I,I,I,I,I,I,trivial⟩
 rintro⟨k,⟨g1,g2⟩,b1,b2⟩ ⟨hk,hg1,hg2⟩ ih;simp only at hk hg1 hg2;have z1:g1=none→(s.take k).map zaM=[]:=fun e=>by rw[hg1.1 e];rfl
 have z2:g2=none→(iot k).map intC=[]:=fun e=>by rw[hg2.1 e];rfl
 have l1:((s.take k).map zaM).length≤100000:=by rw[ak,be];omega
 have l2:((iot k).map intC).length≤100000:=by rw[ak,iot,ak,dI];omega
 refine ae0 (ag 6 I (J2 ?_))
 (refine J4 I (fun h=>?_) (fun h=>?_))
 ·have h:=aj h
  simp only[ak] at h;obtain⟨c,hc⟩:∃c,s[k]?=some c:=⟨s[k],by simp[show k<s.length by omega]⟩
  have gc:(s.map zaM)[((k:Nat):Int).toNat]?=some (zaM c):=by simp[hc]
  have nx:A.int .i64 (IntKind.i64.wrap ((k:Int)+1))=.int .i64 ((k+1:Nat):Int):=by rw[zap ⟨by omega,by omega⟩];rfl
  have e1:(s.take (k+1)).map zaM=(s.take k).map zaM++[zaM c]:=by rw[cd,hc,bd];rfl
  have e2:(iot (k+1)).map intC=(iot k).map intC++[[i64 k]]:=by rw[iot,List.range_succ,bd,bd];rfl
  refine ae (ag 7 I (Jo okL (zad I I I I I (by omega) (gc) I) I (ag 31 I (J2 ?_))));refine Flex4.AWp.drawB [(rm,.row 147 6 [[outV 1 g1 ((s.take k).map zaM).length,outV 1 g2 ((iot k).map intC).length,i64 0,i64 0,.nils,.bool false]])] opK (opB (outV 1 g1 ((s.take k).map zaM).length) (.ds [zaM c]) (outV 1 g2 ((iot k).map intC).length) (.ds [[i64 k]])) okL hmix (by kernel_rfl) ?_
  (repeat (refine aa I I I ?_))
  refine Flex4.Plan.sure I I I I I (fun E=>J1 okL I (.head _) I I I I (Ja (ah ⟨I,I⟩))) ?_
  (repeat (refine aa I I I ?_))
  refine Flex4.Plan.made I I I I I (fun H=>AOp.buildD 44 okL I I I I I I I I I I I I) ?_;refine Flex4.Plan.apart (R:=fun v E'=>∃r,v=outV 1 (some r) ((s.take k).map zaM++[zaM c]).length∧E'=outH 3 1 g2 ((iot k).map intC)++outH 5 1 (some r) ((s.take k).map zaM++[zaM c])) I I I ⟨_,_,0,I,I⟩ (outM g1 _ _ ([_]++outH _ _ g2 _) okL I z1 (by rw[aI];exact List.perm_append_comm.append_left _) I I I I I I I l1 I I fun r=>⟨_,⟨r,I,I⟩,by rw[aI]⟩) ?_
  rintro _ _ ⟨r1,rfl,rfl⟩
  (repeat (refine aa I I I ?_))
  refine Flex4.Plan.sure I I I I I (fun E=>J1 okL I (.head _) I I I I (Ja (ah ⟨I,I⟩))) ?_
  (repeat (refine aa I I I ?_))
  refine Flex4.Plan.made I I I I I (fun H=>AOp.buildD 51 okL I I I I I I I I I I I I) ?_;refine Flex4.Plan.apart (R:=fun v E'=>∃r,v=outV 1 (some r) ((iot k).map intC++[[i64 k]]).length∧E'=outH 5 1 (some r1) ((s.take k).map zaM++[zaM c])++outH 3 1 (some r) ((iot k).map intC++[[i64 k]])) I I I ⟨_,_,0,I,I⟩ (outM g2 _ _ ([_]++outH _ _ (some r1) _) okL I z2 (by rw[aI];exact List.perm_append_comm.append_left _) I I I I I I I l2 I I fun r=>⟨_,⟨r,I,I⟩,by rw[aI]⟩) ?_
  rintro _ _ ⟨r2,rfl,rfl⟩;refine aa I I I (aa I I I (bn I I I (J8 okL I I I (zab I) I I I .here I I I (Ja (ah ⟨I,I⟩))) (aa I I I (aa I I I (bn I I I (J8 okL I I I (zab I) I I I .here I I I (Ja (ah ⟨I,I⟩))) ?_)))));refine aF ?_;rw[←e1,←e2];have fin:∀(b1 b2:Bool),(k+1,(some r1,some r2),b1,b2).1≤s.length∧((k+1,(some r1,some r2),b1,b2).2.1.1=none↔(k+1,(some r1,some r2),b1,b2).1=0)∧((k+1,(some r1,some r2),b1,b2).2.1.2=none↔(k+1,(some r1,some r2),b1,b2).1=0):=fun b1 b2=>⟨by simp only;omega,ck (fun h=>by cases h) (by simp only;omega),ck (fun h=>by cases h) (by simp only;omega)⟩
  refine ae (ag 7 I (J2 ?_))
  (refine J4 I (fun c1=>?_) (fun c1=>?_))
  ·refine ae (ag 10 I (J (zae ?_)))
   (refine aq 0 (ih ((k+1,(some r1,some r2),b1,false)) (fin _ _) (by omega)) ?_ I;exact⟨I,I,I,I,I,I,I,ai some nx,trivial⟩)
  refine ae (ag 7 I (J2 ?_))
  (refine J4 I (fun c2=>?_) (fun c2=>?_))
  ·refine ae (ag 10 I (J (zae ?_)))
   (refine aq 0 (ih ((k+1,(some r1,some r2),b1,true)) (fin _ _) (by omega)) ?_ I;exact⟨I,I,I,I,I,I,I,ai some nx,trivial⟩)
  refine ae (ag 7 I (J2 ?_))
  (refine J4 I (fun c3=>?_) (fun c3=>?_))
  ·refine ae (ag 10 I (J (zae ?_)))
   (refine aq 0 (ih ((k+1,(some r1,some r2),true,b2)) (fin _ _) (by omega)) ?_ I;exact⟨I,I,I,I,I,I,I,ai some nx,trivial⟩)
  refine ae (ag 7 I (J2 ?_))
  (refine J4 I (fun c4=>?_) (fun c4=>?_))
  ·refine ae (ag 10 I (J (zae ?_)))
   (refine aq 0 (ih ((k+1,(some r1,some r2),false,b2)) (fin _ _) (by omega)) ?_ I;exact⟨I,I,I,I,I,I,I,ai some nx,trivial⟩)
  ·refine ae (ag 8 I (J (zae ?_)))
   (refine aq 0 (ih ((k+1,(some r1,some r2),b1,b2)) (fin _ _) (by omega)) ?_ I;exact⟨I,I,I,I,I,I,I,ai some nx,trivial⟩)
 ·have h:=ao h
  simp only[ak] at h;obtain rfl:k=s.length:=by omega
  cases g1 with
  |none=>exact absurd (hg1.1 rfl) (by omega)
  |some sb=>
  cases g2 with
  |none=>exact absurd (hg2.1 rfl) (by omega)
  |some pb=>
  have e3:((iot s.length).map intC).length=(iot s.length).length:=ak ..;rw[bM,e3];refine ae (ag 2 I (J (ae (ag 6 I (O (J1 okL I (.head _) I I I I (ab (ag 2 I (O (Jh okL I I I I I I I I I I I (fun _ _=>(ab (J3 ?_)))))))))))));rename_i rb _;refine J7 (Jt intC (some pb) (iot s.length) (s.length:Int) [_,_] okL (fun h=>by cases h) I I I I I I I I I (by rw[iot,ak,dI];omega) I I fun r'=>?_)
  refine ab (ag 2 I (O (J8 okL I I I (zab I) I I I .here I I I (ab (ag 9 I (J ?_))))));refine zaa (J5 I I) ?_;refine⟨rm,sb,r',[],I,?_⟩;rw[zlF];simp only[ak];exact ar _
mutual
def noB:Pat→Bool
 |.mk o _ _ _ _ _ l=>o !=10&&(decide (l.length≤1000)&&noBL l)
def noBL:List Pat→Bool
 |[]=>true
 |x::l=>noB x&&noBL l
end
theorem zkt:∀{l:List Pat} {y:Pat},noBL l=true→y∈l→noB y=true
 |x::l,y,h,hy=>by
  simp only[noBL,aO] at h;rcases List.mem_cons.1 hy with rfl|hy
  ·exact h.1
  ·exact zkt h.2 hy
def rdS(o:Oper):Nat:=match o.op with
 |.load .. =>1
 |.store .. =>2
 |.call {callee:=.value _,.. }=>1
 |_=>0
def HW(rw:Nat)(nv:A):Heap:=[(rw,.row 134 1 [[.fn 148 [] [.dp [nv],.ptr rw 1 0 0]]])]
theorem TRL.at_:∀{l:List (Pat×A)} {G:Heap},TRL l G→∀{k:Nat} {y:Pat×A},l[k]?=some y→∃Ga Gy Gb,G=Ga++(Gy++Gb)∧TR y.1 y.2 Gy
 |[],_,_,k,y,hy=>by simp at hy
 |(x,u)::l,_,h,k,y,hy=>by
  cases h with
  |cons _ _ H _ G h t=>
   cases k with
   |zero=>
    simp only[List.getElem?_cons_zero,aY] at hy;subst hy;exact⟨[],H,G,I,h⟩
   |succ k=>
    simp only[List.getElem?_cons_succ] at hy;obtain⟨Ga,Gy,Gb,e,h2⟩:=t.at_ hy;exact⟨H++Ga,Gy,Gb,by rw[e,aI],h2⟩
theorem pmN2{α:Type}(a b c:α)(W Ga Gy Gb:List α):(a::b::(W++(c::(Ga++(Gy++Gb))))).Perm ((W++Gy)++(a::b::c::(Ga++Gb))):=by
 classical
 exact List.perm_iff_count.2 fun x=>by simp only[bS,cr];omega
theorem pmN3{α:Type}(a b c:α)(F W Ga Gy Gb:List α):((F++(W++Gy))++(a::b::c::(Ga++Gb))).Perm (F++(a::b::(W++(c::(Ga++(Gy++Gb)))))):=by
 classical
 exact List.perm_iff_count.2 fun x=>by simp only[bS,cr];omega
theorem zoB{α:Type}{l:List α}{i:Nat}{c:α}(h:l[i]?=some c):l.set i c=l:=by
 obtain⟨hi,rfl⟩:=List.getElem?_eq_some_iff.1 h;exact List.set_getElem_self hi
set_option maxHeartbeats 1000000 in
theorem named1_tr(rw:Nat)(nv:A)(x:Pat):noB x=true→∀(u:A) (T:Heap),TR x u T→
  TrG [] Tryz.prog 148 ([.agg (tc x u)]++[.dp [nv],.ptr rw 1 0 0]) (HW rw nv++T) fun v H'=>v=.agg (tc x u)∧∃F,H'=F++(HW rw nv++T):=by
 induction x using Pat.ind with|h x IH=>_
 intro hno u T hT;have hlf:=zaV (x:=x) hT.lf;have hop:(x.op==10)=false:=by
  cases x;simp only[noB,aO,bO] at hno;exact beq_eq_false_iff_ne.2 hno.1
 refine Jb (N:=39) Tryz.func148 I I I ?_;refine ae0 (ag 2 I (O (Jc 3 I I (zab I) I (ab (O (Jf okL I I I (fun _ _=>(ab (ag 9 I (J3 ?_))))))))));rw[hop];refine ab (ag 14 I (J3 ?_));rename_i r4 _;cases hT with
 |leaf o n mn mx nm st=>
  refine ab (ag 5 I (J2 ?_));refine Jj (α:=Unit) (fun _=>0) (fun _=>[(3,.dp (tc (.mk o n mn mx nm st []) .nils)),(4,.ptr r4 7 0 0),(24,i64 0),(25,i64 0)]) (fun _=>(r4,.row 25 7 [[i64 0,i64 0,i64 0,i64 0,.str [],.nils,.nils]])::(HW rw nv++[])) (fun _=>True) () trivial ?_ (ar _) ?_
  ·simp only[zaz]
   refine⟨I,I,I,I,trivial⟩
  rintro _ _ ih;refine ae0 (ag 9 I (J (ae (ag 3 I (O (J8 okL I I I (zab I) I I I .here I I I (ab (ag 3 I (J ?_)))))))));refine zaa (Jw okL I I (.head _) I I I) ?_;exact⟨I,[_],I⟩
 |node o n mn mx nm st l r G hL=>
  obtain⟨hll,hnl⟩:l.length≤1000∧noBL (l.map Prod.fst)=true:=by
   simp only[noB,aO,aL,ak] at hno;exact hno.2
  refine ab (ag 5 I (J2 ?_));refine Jj (α:=Nat) (fun k=>l.length - k) (fun k=>[(2,.ptr rw 1 0 0),(3,.dp (tc (.mk o n mn mx nm st (l.map Prod.fst)) (.os r 7 0 l.length))),(4,.ptr r4 7 0 0),(23,.os r 7 0 l.length),(24,i64 l.length),(25,i64 k)]) (fun _=>(r4,.row 25 7 [[i64 0,i64 0,i64 0,i64 0,.str [],.nils,.nils]])::(HW rw nv++((r,.row 25 7 (l.map tcp))::G))) (fun k=>k≤l.length) 0 (aM _) ?_ (ar _) ?_
  ·simp only[zaz]
   refine⟨I,I,I,I,I,I,trivial⟩
  rintro k hk ih;refine ae0 (ag 6 I (J2 ?_))
  (refine J4 I (fun h=>?_) (fun h=>?_))
  ·have h:=aj h
   have hk':k<l.length:=by omega
   obtain⟨y,hy⟩:∃y,l[k]?=some y:=⟨l[k],by simp[hk']⟩
   have gy:(l.map tcp)[0+((k:Nat):Int).toNat]?=some (tc y.1 y.2):=by rw[aS];simp[hy,tcp]
   obtain⟨Ga,Gy,Gb,rfl,hy2⟩:=hL.at_ hy;have hym:y.1∈l.map Prod.fst:=List.mem_map.2 ⟨y,List.mem_of_getElem? hy,I⟩;have hyl:=zaV (x:=y.1) hy2.lf;have i0:(0:Int)≤(k:Int):=by omega
   have nx:A.int .i64 (IntKind.i64.wrap ((k:Int)+1))=.int .i64 ((k+1:Nat):Int):=nxt hk' (by unfold maxLen;omega);have hrec:=IH y.1 hym (zkt hnl hym) y.2 Gy hy2;have hset:=zoB gy;refine ae (ag 7 I (Jo okL (zaN I I I I I (i0) (h) I) I (O (J1 okL I (.tail _ (.tail _ (.head _))) (gy) I I I (ab (O (Jf okL I I I (fun _ _=>(ab (ag 1 I (O (J8 okL I I I (zab I) (hyl) I I .here I I I (ab (ag 2 I (J2 ?_)))))))))))))));refine aH rdS (fun _=>.nilp) okL hmix (by kernel_rfl) ?_;refine aa I I I (aa I I I (aa I I I (ay I I (.inl I) (J1 okL I (.tail _ (.tail _ (.head _))) I I I I (Ja (ah ⟨I,I⟩))) (ay I I (.inl I) (J1 okL I (.head _) I I I I (Ja (ah ⟨I,I⟩))) ?_))));refine ay rfl rfl (.inl rfl) (Jp (Hc:=HW rw nv++Gy) (F:=_::_::_::(Ga++Gb)) rfl rfl rfl (pmN2 _ _ _ _ _ _ _) hrec fun v H' hv=>by obtain⟨rfl,F,rfl⟩:=hv;exact Jl (pmN3 _ _ _ _ _ _ _ _) (Js F (Ja (ah ⟨I,I⟩)))) ?_
   (repeat (refine aa I I (zaN I I I I I (i0) (h) I) ?_))
   refine bn I I I (J8 okL I I I (zab I) hyl I I (.there (.there (.there .here))) gy I I (Ja (ah ⟨I,ai (fun z=>_::_::_::(r,Blk.row 25 7 z)::_) hset⟩))) ?_;refine aF ?_;refine ae (ag 4 I (J (zae ?_)))
   (refine aq 1 (ih (k+1) (hk') (by omega)) ?_ I;exact⟨I,I,I,I,I,ai some nx,trivial⟩)
  ·refine ae (ag 2 I (J (ae (ag 3 I (O (J8 okL I I I (zab I) I I I .here I I I (ab (ag 3 I (J ?_)))))))))
   refine zaa (Jw okL I I (.head _) I I I) ?_;exact⟨I,[_],I⟩
theorem zli{a:A}(h:a.leaf=true):a.cells=[a]:=by
 cases a<;>first|rfl|cases h
theorem zn2(x:Pat)(hno:noB x=true)(u:A)(T:Heap)(hT:TR x u T)(nv:A)(hv:nv.leaf=true):TrG [] Tryz.prog 100 [.agg (tc x u),nv] T fun v H'=>v=.agg (tc x u)∧∃F,H'=F++T:=by
 have hlf:=zaV (x:=x) hT.lf;refine Jb (N:=10) Tryz.func100 I I I ?_;refine ae0 (ag 2 I (O (Jc 2 I I (zab I) I (ab (J3 ?_)))));refine J7 (Jc 3 I (zli hv) (.inl hv) I ?_)
 refine ab (O (Jf okL I I I (fun _ _=>(ab (ag 4 I (O (Jf okL I I I (fun _ _=>(ab (ag 5 I (O (J8 okL I I I (zab I) I I I .here I I I (ab (ag 4 I (O (J1 okL I (.head _) I I I I (ab (ag 1 I (J3 ?_)))))))))))))))))));rename_i r4 _ rw _;refine J7 (Jp (Hc:=HW rw nv++T) (F:=[_]) I I I ((aN (l₁:=[_])).cons _) (named1_tr rw nv x hno u T hT) fun v H' hv=>?_)
 obtain⟨rfl,F,rfl⟩:=hv;refine Jl (H':=_::(F++(HW rw nv++T))) (aN (l₂:=[_])) ?_;refine ab (O (J8 okL I I I (zab I) (hlf) I I .here I I I (ab (ag 3 I (J ?_)))));refine zaa (Jw okL I I (.head _) I I I) ?_;exact⟨I,(_::F)++HW rw nv,(aI (_::F) (HW rw nv) T).symm⟩
theorem zac.cell3{P:Program}{N:NN}{T:Env}{H:Heap}{L:Lay}{fn:Func}{t1 ty1 t2 ty2 t3 ty3 r1 e1 z1 o1 r2 e2 z2 o2 r3 e3 z3 o3:Nat}{b1 b2 b3:List A}{i1 i2 i3:TI}{v1 v2 v3:A}(hL:zaq P L)(h:fn.results=#[.cell t1 ty1,.cell t2 ty2,.cell t3 ty3])
  (x1:get T t1=some (.ptr r1 z1 0 o1)) (m1:(r1,Blk.row e1 z1 [b1])∈H) (l1:lay L ty1=some i1) (k1:zbw i1 b1 o1=some v1)
  (x2:get T t2=some (.ptr r2 z2 0 o2)) (m2:(r2,Blk.row e2 z2 [b2])∈H) (l2:lay L ty2=some i2) (k2:zbw i2 b2 o2=some v2)
  (x3:get T t3=some (.ptr r3 z3 0 o3)) (m3:(r3,Blk.row e3 z3 [b3])∈H) (l3:lay L ty3=some i3) (k3:zbw i3 b3 o3=some v3):zac P fn N T H (.tup [v1,v2,v3]):=fun fr w a s st=>by
 have key:∀{t ty r e z o:Nat} {b:List A} {i:TI} {v:A},get T t=some (.ptr r z 0 o)→(r,Blk.row e z [b])∈H→lay L ty=some i→zbw i b o=some v→∃u,a.tmps[t]?.getD undef=.pointer (some ⟨r,0*z+o,none⟩)∧(loadVar ty ⟨r,0*z+o,none⟩).run P w=.ok u w∧Rep w (own fr H) v u:=by
  intro t ty r e z o b i v x m l k;have hu:=zaH st x
  generalize h1:a.tmps.getD t undef=q at hu
  cases hu;obtain⟨vs,h2,h3,_,_⟩:=s.elem (i:=0) m rfl;obtain⟨u,hu,hr⟩:=zbK (hL _ _ l) h2 (h3.drop o) k;rw[add_plain] at hu;exact⟨u,by rw[←h1];simp,hu,hr⟩
 obtain⟨u1,a1,c1,d1⟩:=key x1 m1 l1 k1;obtain⟨u2,a2,c2,d2⟩:=key x2 m2 l2 k2;obtain⟨u3,a3,c3,d3⟩:=key x3 m3 l3 k3;refine⟨.tuple #[u1,u2,u3],?_,cD (.cons d1 (.cons d2 (.cons d3 .nil)))⟩;simp[results,h,asAddr,a1,a2,a3,c1,c2,c3]<;>simp_all
theorem pmO{α:Type}(a G T X:List α):(a++(G++(T++X))).Perm (G++(a++(X++T))):=by
 classical
 exact List.perm_iff_count.2 fun x=>by simp only[bS];omega
theorem zh5(H:Heap)(a b c:A):TrD Tryz.prog 97 [a,b,c] H .returning fun u H'=>u=.returning∧H'=H:=by
 refine TrD.of_recover (n:=20) (x:=.nili) Tryz.func97 I I I I I (.inr ⟨rfl,rfl,rfl⟩) ?_;refine ae0 (ag 8 I (J ?_));exact⟨⟨_,zac.none I⟩,I,I⟩
theorem zjZ(s:List UInt8)(h0:s≠[])(hl:s.length≤120)(x:Pat)(gr:Int)(nm:List (List UInt8))(hno:noB x=true)(hval:valP x=0)(hy:∀R:Rdr,R.s=s→Yld 98 [] R ⟨0,0,[]⟩ x ⟨s.length,gr,nm⟩):
  Tr Tryz.prog 50 [.str s,.str []] [] fun r _=>r=.tup [.agg x.C,i64 0,i64 0]:=by
 refine TrF.toTr ?_;refine TrF.of_bodyD (n:=62) Tryz.func50 I I I ?_;have hlen:decide ((s.length:Int)>120)=false:=aG (by omega);have hf0:=zfY [];have hc0:=zcr [] 120;have ho:=zpO s h0 (by omega);refine DWp.seq ?_;refine ae0 (ag 1 I (O (Jf okL I I I (fun _ _=>(ab (O (Jf okL I I I (fun _ _=>(ab (O (Jf okL I I I (fun _ _=>(ab (ag 1 I (J ?_)))))))))))))));rename_i r4 _ r5 _ r6 _;refine(DWp.seq ?_:DWp _ _ _ _ _ _);refine ae0 (ag 3 I (O (J9 I I I (hf0) (ab (ag 5 I (J ?_))))));refine(DWp.seq ?_:DWp _ _ _ _ _ _);refine ae0 (ag 7 I (J2 ?_));rw[hlen];refine ae (ag 2 I (J ?_));refine(DWp.seq ?_:DWp _ _ _ _ _ _);refine ae0 (ag 3 I (O (J9 I I I (hc0) (ab (J3 ?_)))));refine J7 (Jd [_,_,_] I I I I ho fun v H' hv=>?_)
 obtain⟨m,sb,pb,G,rfl,hp⟩:=hv;refine Jl ((hp.append_left _).trans (pmH _ [] _ _)) (Js G ?_)
 refine ab (ag 2 I (J ?_));refine(?_:DWp Tryz.prog 62 _ _ _ _);refine DWp.defer (caps:=[.tmp 4,.tmp 5,.tmp 6]) I I fun d=>?_;have hy:=hy ⟨m,sb,pb,s,iot s.length++[(s.length:Int)]⟩ I none fun _=>rfl;refine ae0 (ag 3 I (J3 ?_));refine J7 (Jd [_,_,_] I I I I hy fun v H' hv=>?_)
 obtain⟨u,U,nb,G,rfl,hT,g1,g2⟩:=hv;refine Jl (H':=G++([_,_,_]++(Hp _ _++U))) ((g2.append_left _).trans (pmO _ _ _ _)) (Js G ?_)
 have hlf:=zaV (x:=x) hT.lf;refine ab (O (Jf okL I I I (fun _ _=>(ab (O (J8 okL I I I (zab I) (hlf) I I .here I I I (ab (ag 4 I (J2 ?_)))))))));refine aH rdS (fun _=>.nilp) okL hmix (by kernel_rfl) ?_;refine aa I I I (aa I I I (aa I I I (ay I I (.inl I) (J1 okL I (.tail _ (.tail _ (.tail _ (.tail _ (.head _))))) I I I I (Ja (ah ⟨I,I⟩))) (aa I I I (aa I I I (aa I I I (ay I I (.inl I) (J1 okL I (.tail _ (.tail _ (.tail _ (.tail _ (.head _))))) I I I I (Ja (ah ⟨I,I⟩))) (aa I I I (aa I I I ?_)))))))));refine aF ?_;rw[show decide (((PQ.st ⟨s.length,gr,nm⟩ nb).at_:Int)<(s.length:Int))=false from aG (Int.lt_irrefl _)]
 refine ae (ag 4 I (J2 ?_));refine aH hvK (fun _=>.nilp) okL hmix (by kernel_rfl) ?_;refine ay I I (.inl I) (J1 okL I (.head _) I I I I (Ja (ah ⟨I,I⟩))) (aa I I I (aa I I I (aa I I I (ay I I (.inl I) (J1 okL I (.tail _ (.tail _ (.tail _ (.tail _ (.head _))))) I I I I (Ja (ah ⟨I,I⟩))) ?_))));refine bn I I I (Jp (Hc:=U) (F:=_::_::_::_::Hp _ _) I I I (aN (l₁:=_::_::_::_::Hp _ _)) (zn2 x hno u U hT _ (by cases nb<;>rfl)) fun v H' hv=>by
  obtain⟨rfl,F,rfl⟩:=hv;exact Jl (H':=F++(U++_)) (by rw[aI]) (Js F (AOps.freezeT (t:=41) I hT (ar _) (AOps.sub (zda 41 _ _ _) (Ja (ah ⟨I,I⟩)))))) ?_
 (repeat (refine bn I I I (J8 okL I I I (zab I) I I I .here I I I (Ja (ah ⟨I,I⟩))) ?_))
 refine aF ?_;have hvl:=zdG x;rw[hval] at hvl;refine ae (ag 3 I (O (J1 okL I (.head _) I I I I (ab (O (J9 I I I (hvl) (ab (ag 22 I (O (J1 okL I (.tail _ (.tail _ (.tail _ (.tail _ (.head _))))) I I I I (ab (ag 6 I (O (J1 okL I (.head _) I I I I (ab (O (J8 okL I I I (zab I) I I I (.there (.there (.there .here))) I I I (ab (O (J8 okL I I I (zab I) I I I (.there (.there .here)) I I I (ab (O (J8 okL I I I (zab I) I I I (.there .here) I I I (ab (ag 5 I (J ?_))))))))))))))))))))))))));exact⟨_,zh5 _ _ _ _,fun u' H' ⟨h1,h2⟩=>by
  subst h1 h2;exact⟨I,_,zac.cell3 okL I I (.tail _ (.tail _ (.tail _ (.head _)))) I I I (.tail _ (.tail _ (.head _))) I I I (.tail _ (.head _)) I I,_,I,I⟩⟩
def plnB(c:UInt8):Bool:=((c.toNat:Int)==40)==false&&(((c.toNat:Int)==91)==false&&(((c.toNat:Int)==92)==false&&(((c.toNat:Int)==46)==false&&(((c.toNat:Int)==94)==false&&(((c.toNat:Int)==36)==false&&(decide ((c.toNat:Int)<32)==false&&(decide ((c.toNat:Int)>126)==false&&decide (Lib.indexByte [42,43,63,123,125,93] c≥0)==false)))))))
theorem zpp{c:UInt8}(h:plnB c=true):Pln c:=by
 simp only[plnB,aO] at h;obtain⟨a,b,d,e,f,g,l,m,n⟩:=h;exact⟨eq_of_beq a,eq_of_beq b,eq_of_beq d,eq_of_beq e,eq_of_beq f,eq_of_beq g,eq_of_beq l,eq_of_beq m,eq_of_beq n⟩
def nxB(s:List UInt8)(k:Nat)(l:List UInt8):Bool:=decide (k<s.length)&&l.contains (cur s k)
section
variable{R:Rdr}{s:List UInt8}(hs:R.s=s)(hl:s.length≤1000){gr:Int}{nm:List (List UInt8)}
include hs hl
theorem zr9(k:Nat)(c:UInt8)(hk:k<s.length)(hc:cur s k=c)(hp:plnB c=true)(hn:nxB s (k+1) [42,43,63,123]=false):Yld 201 [] R ⟨k,gr,nm⟩ (zkR c) ⟨k+1,gr,nm⟩:=by
 subst hs hc;exact zbM R _ ⟨k+1,gr,nm⟩ _ hk hl (zfy R ⟨k,gr,nm⟩ hk hl (zpp hp)) hn
theorem zlV(k:Nat){k':Nat}{gr':Int}{nm':List (List UInt8)}{y:Pat}(hk:k+1<s.length)(hc:cur s k=40)(h1:nxB s (k+1) [42]=false)(h2:nxB s (k+1) [63]=false)(hg:0≤gr∧gr≤1000)(hm:nm.length≤1000)
  (hk':k'<s.length) (hc':cur s k'=41) (hn:nxB s (k'+1) [42,43,63,123]=false) (hy:Yld 98 [] R ⟨k+1,gr+1,nm++[[]]⟩ y ⟨k',gr',nm'⟩):Yld 201 [] R ⟨k,gr,nm⟩ (.mk 7 (gr+1) 0 0 [] [] [y]) ⟨k'+1,gr',nm'⟩:=by
 subst hs;exact zbM R _ ⟨k'+1,gr',nm'⟩ _ hk' hl (zeG R ⟨k,gr,nm⟩ _ _ (by show k<_;omega) hl hc (zly R ⟨k+1,gr,nm⟩ _ _ (bH hk) hl h1 h2 (ziO R ⟨k+1,gr,nm⟩ ⟨k',gr',nm'⟩ y hl hg hm hy hk' hc'))) hn
theorem catE(k:Nat)(h:k=s.length∨(k<s.length∧(cur s k=124∨cur s k=41))):CatR R ⟨k,gr,nm⟩ [] ⟨k,gr,nm⟩:=by
 subst hs;exact .nil _ h
theorem catC{k:Nat}{q1 q':PQ}{x:Pat}{l:List Pat}(hy:Yld 201 [] R ⟨k,gr,nm⟩ x q1)(hk:k<s.length)(h1:cur s k≠124)(h2:cur s k≠41)(t:CatR R q1 l q'):CatR R ⟨k,gr,nm⟩ (x::l) q':=by
 subst hs;exact .cons _ _ _ _ _ hk h1 h2 hy t
theorem catT{q q':PQ}{l:List Pat}(h:l.length≤100)(hne:l.all (fun y=>y.op !=4&&y.op !=0)=true)(hc:CatR R q l q'):Yld 145 [] R q (zea 4 l) q':=by
 subst hs;exact zrX R q q' l hl h (fun y hy=>by
  have:=List.all_eq_true.1 hne y hy;simpa using this) hc
theorem altE(k:Nat)(hk:k≤s.length)(h:nxB s k [124]=false):AltL R ⟨k,gr,nm⟩ [] ⟨k,gr,nm⟩:=by
 subst hs;exact .nil _ hk h
theorem altC{k:Nat}{q1 q':PQ}{x:Pat}{l:List Pat}(hk:k<s.length)(h1:cur s k=124)(hy:Yld 145 [] R ⟨k+1,gr,nm⟩ x q1)(t:AltL R q1 l q'):AltL R ⟨k,gr,nm⟩ (x::l) q':=by
 subst hs;exact .cons _ _ _ _ _ hk h1 hy t
theorem altT{q q1 q':PQ}{x:Pat}{l:List Pat}(h:(x::l).length≤100)(hne:(x::l).all (fun y=>y.op !=5)=true)(hx:Yld 145 [] R q x q1)(hc:AltL R q1 l q'):Yld 98 [] R q (zea 5 (x::l)) q':=by
 subst hs;exact zsk R q q1 q' x l hl h (fun y hy=>by
  have:=List.all_eq_true.1 hne y hy;simpa using this) hx hc
end
end Go.Proofs.YtpopmiodjibljaaGreatDoor

