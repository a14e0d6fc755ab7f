/- A part of the proof. -/
import Derived.Deep.AppendSrc
import Derived.DeepKeys3
import Derived.Recover
import Derived.Lib.DecodeNEq
import Derived.Laws.BytesArg
import Derived.Lib.Bytealg
import Derived.Lib.ReflectliteSwap
import Derived.Lib.IndexAny
import Derived.Test.YtpopmiodjibljaaGreatDoorBwyA
set_option linter.unusedVariables false
set_option linter.unusedSimpArgs false

namespace Go.Abs
open Go
section
variable{P:Program}{N:NN}{L:Lay}{ops:Array Oper}{late uni hv:Oper→Bool}{bv:Nat→A}{nv:Nat→(Nat→A)×Blk}{B:Heap}{Q:Exit→Env→Heap→Prop}
theorem Ext.permR{H H' K:Heap}{w w':World}(h:K.Perm H')(e:Ext H w K w'):Ext H w H' w' where
 os:=e.os
 tape:=e.tape
 output:=e.output
 size:=e.size
 same:=e.same
 keys k hk:=e.keys k ((h.map _).mem_iff.2 hk)
 shape:=e.shape
theorem AOp.perm{o:Oper}{R:A→Heap→Prop}{T:Env}{H K:Heap}(hp:K.Perm H)(h:AOp P N [] o [] (Qn o T R) T H):AOp P N [] o [] (Qn o T R) T K:=by
 refine⟨fun fr w a s st=>?_⟩;have s1:=s.perm hp;rw[zaS hp] at st;have hm:∀e a' w',Post N fr H w (Qn o T R) e a' w'→Post N fr K w (Qn o T R) e a' w':=fun e a' w' ⟨T',H',q,s',st',x'⟩=>⟨T',H',q,s',st',x'.perm hp⟩;have h0:=h.out _ w a s1 st;refine zgY (fun e a' w' _ hq=>hm e a' w' hq) (fun u w' hk=>hm _ _ _ hk) (fun d w' hk=>?_) h0;obtain⟨T',H',_,_,st',_⟩:=hk;have h3:=ai List.length st'.defers;rw[←st.defers] at h3;cases hdo:o.dst<;>rw[hdo] at h3<;>simp[Act.put] at h3
theorem AOp.frameR{o:Oper}{R:A→Heap→Prop}{T:Env}{H:Heap}(F:Heap)(h:AOp P N [] o [] (Qn o T R) T H):AOp P N [] o [] (Qn o T fun v K=>∃H',R v H'∧K=H'++F∧(keys K).Nodup) T (H++F):=by
 refine⟨fun fr w a s st=>?_⟩;rw[zcR] at st;have hm:∀e a' w',Post N (fun k=>fr k∨k∈keys F) H w (Qn o T R) e a' w'→Post N fr (H++F) w (Qn o T fun v K=>∃H',R v H'∧K=H'++F∧(keys K).Nodup) e a' w':=by
  rintro e a' w' ⟨T',H',q,s',st',x'⟩;cases e<;>first|exact q.elim|skip
  obtain⟨u,hR,rfl⟩:=q;have sj:=s.join s' x';refine⟨_,H'++F,⟨u,⟨H',hR,I,sj.nodup⟩,I⟩,sj,?_,x'.frame⟩;rw[zcR];exact st'
 have h0:=h.out _ w a s.split st;refine zgY (fun e a' w' _ hq=>hm e a' w' hq) (fun u w' hk=>hm _ _ _ hk) (fun d w' hk=>?_) h0;obtain⟨T',H',_,_,st',_⟩:=hk;have h3:=ai List.length st'.defers;rw[←st.defers] at h3;cases hdo:o.dst<;>rw[hdo] at h3<;>simp[Act.put] at h3
end
section
variable{P:Program}{N:NN}{Q:Exit→Env→Heap→Prop}{T:Env}{H:Heap}{ops rest:List Oper}{dst:Option Nat}{ty:TypeId}{pos:String}{after:Array Edge}{guard:Option (Nat×Bool)}{L:Lay}
theorem zb4(w:World)(t tx ty e:TypeId)(i:TypeInfo)(ht:P.underlying t=some (.slice e))(hi:P.info? e=some i)
  (g sLen sCap:Nat) (cur:Array Value) (hg:w.heap[g]?=some (.cells cur e (0,0))) (x:Value) (n:Nat) (news:List Value) (hs:Src P i.size tx x n news w)
  (hroom:sLen+n≤sCap) (hfit:sLen*i.size+news.length≤cur.size):
  (Builtin.append_ #[t,tx] ty #[.slice (some ⟨g,0,none⟩) sLen sCap,x]).run P w=
   .ok (.slice (some ⟨g,0,none⟩) (sLen+n) sCap) (w.setRow g (cur.toList.take (sLen*i.size)++news++cur.toList.drop (sLen*i.size+news.length)).toArray):=by
 have hst:=run_storeCells_at P g (sLen*i.size) e news 0 cur w hg (by simpa using hfit) hs.one;simp only[bG] at hst;rcases hs.kind with ⟨e',hk⟩|hk<;>simp[Builtin.append_,run_underlying ht,run_underlying hk,sizeOf,typeInfo,hi,hs.len,hroom,hs.cells,Addr.add_lit,hst]
theorem zi9(w:World)(r:Nat)(cur:Array Value)(e:TypeId)(hg:w.heap[r]?=some (.cells cur e (0,0))):w.setRow r cur=w:=by
 have h:(w.setRow r cur).heap=w.heap:=by
  simp only[World.setRow];refine Array.ext (by simp) fun i h1 h2=>?_;rw[Array.getElem_modify];split
  ·rename_i hr
   subst hr;obtain⟨_,hg⟩:=Array.getElem?_eq_some_iff.1 hg;rw[hg]
  ·rfl
 have h2:w.setRow r cur={w with heap:=(w.setRow r cur).heap}:=rfl
 rw[h2,h]
def zeW(P:Program)(N:NN)(H:Heap)(T:Env)(sz t':Nat)(y:Operand)(news:List (List A)):Prop:=
 ∀(fr:Nat→Prop) (w:World) (act:Act),Sim fr H w→St N w (own fr H) T act→∃news',Src P sz t' (act.eval y) news.length news' w∧RepL w (own fr H) news.flatten news'
theorem zfP{t t' e:Nat}{x y:Operand}{r:Nat}{elems news:List (List A)}{sv:A}{ti ei:TI}{Hr:Heap}(hL:zaq P L)(hx:ev T x=some sv)(ht:lay L t=some ti)(he:ti.td=.slice e)
  (hei:lay L e=some ei) (hpos:0<ei.size)
  (hs:(sv=.nils∧elems=[]∧H.Perm Hr)∨(sv=.os r ei.size 0 elems.length∧∃all,elems=all.take elems.length∧H.Perm ((r,.row e ei.size all)::Hr)))
  (hy':zeW P N H T ei.size t' y news) (hnl:∀i (hi:i<news.length),news[i].length=ei.size) (hnf:∀c∈news,zan c=true) (hne:sv=.nils→news≠[])
  (hb1:elems.length+news.length≤maxLen) (hb2:(elems.length+news.length)*ei.bytes≤140737488355328):
  zky P N ⟨dst,.call {callee:=.builtin .append,args:=[x,y].toArray,argTypes:=[t,t'].toArray},ty,pos,after,guard⟩ T H
   fun v H'=>∃r',r'∉keys Hr∧v=.os r' ei.size 0 (elems.length+news.length)∧H'=(r',.row e ei.size (elems++news))::Hr:=by
 intro fr w act s st;obtain⟨info,zv,hinfo,hi1,hi2,hi3,hzs,hzr,_⟩:=(hL _ _ hei).info;have hund:=zaW (hL _ _ ht) he;obtain⟨news',hsrc,e4⟩:=hy' fr w act s st;by_cases hnil:news=[]
 ·-- nothing is appended
  subst hnil;have e4':news'=[]:=by cases e4;rfl
  subst e4';rcases hs with ⟨rfl,rfl,hp⟩|⟨rfl,all,hall,hp⟩
  ·exact absurd I (hne I)
  have hu:=zag st hx
  generalize h1:act.eval x=u at hu
  have sp:=s.perm hp;have hnd:=List.nodup_cons.1 (show(r::keys Hr).Nodup from sp.nodup)
  cases hu with
  |os _ _ _ _ cap hrr hcap hmax hroom=>
  have hb:=zcK (sp.ok _ aE);obtain⟨cur,g1,g3,g2,g4,g5⟩:=hb;have hle:elems.length≤all.length:=by
   have:=ai List.length hall;rw[be] at this;omega
  have hown:=zaS (fr:=fr) hp;have hat:At ((r,Blk.row e ei.size all)::Hr) r (.row e ei.size all) (.row e ei.size (elems++[])) ((r,.row e ei.size (elems++[]))::Hr):=.here;refine⟨w,.os r ei.size 0 (elems.length+[].length),act.eval x,(r,.row e ei.size (elems++[]))::Hr,.inl ?_,⟨r,hnd.1,I,I⟩,⟨sp.nodup,sp.apart,sp.old,fun p hp'=>?_⟩,?_,?_⟩
  ·have hr:=zb4 (P:=P) w t t' ty e info hund hinfo r elems.length cap cur g1 (act.eval y) 0 [] (by rw[hi1];exact hsrc) (by simpa using hcap) (by
    have h5:=hroom _ _ _ g1;have:=bJ ei.size hcap;rw[hi1];simp at*;omega)
   have e9:(cur.toList.take (elems.length*info.size)++[]++cur.toList.drop (elems.length*info.size+([]:List Value).length)).toArray=cur:=by simp
   rw[e9,zi9 w r cur e g1] at hr;simp only[ce] at h1 ⊢;simp only[execOp,resolve,invoke,builtin,Sem.run_bind,Sem.run_pure,Result.andThen_ok,bq,aU,bk,h1,hr];rfl
  ·rcases hat.cases' sp.nodup p hp' with rfl|⟨h2,_⟩
   ·refine za4 (vs:=(cur.toList.take (all.length*ei.size)).take (elems.length*ei.size)) g1 (fun i hi=>?_) ?_ ?_ (fun j u hj=>?_)
    ·simp only[aQ] at hi ⊢
     have:elems[i]=all[i]'(by omega):=by
      have h2:elems[i]?=(all.take elems.length)[i]?:=by rw[←hall]
      rw[List.getElem?_eq_getElem hi,List.getElem?_take,af hi,List.getElem?_eq_getElem (show i<all.length by omega)] at h2
      exact bU h2
     rw[this];exact g3 _ _
    ·rw[aQ]
     have e1:elems.flatten=all.flatten.take (elems.length*ei.size):=by
      have:=zcB (sz:=ei.size) all elems.length g3;rw[←hall] at this;exact this
     rw[e1];exact g4.take _
    ·rw[aQ,zay]
     intro q hq;rw[hall] at hq;obtain⟨l,hl1,hl2⟩:=List.mem_flatten.1 hq;exact zay.1 g5 q (List.mem_flatten.2 ⟨l,d8 hl1,hl2⟩)
    ·rw[List.getElem?_take] at hj
     split at hj
     ·rw[List.getElem?_take] at hj
      split at hj
      ·rw[Array.getElem?_toList] at hj;exact hj
      ·cases hj
     ·cases hj
   ·exact sp.ok p h2
  ·rw[h1]
   exact .os _ _ _ _ cap hrr (by simpa using hcap) hmax hroom
  ·refine⟨I,I,I,au _,fun _ _ _=>rfl,fun k hk=>.inl ?_,fun _ _ c _ f h=>⟨c,f,h,I⟩⟩
   exact(hp.map _).mem_iff.2 hk
 have e3:news'.length=news.length*info.size:=by rw[hsrc.newsLen,hi1]
 have hsrc':Src P info.size t' (act.eval y) news.length news' w:=by rw[hi1];exact hsrc
 have hnl1:news'.length=news.length*ei.size:=hsrc.newsLen;have hexec:∀u,act.eval x=u→(execOp act.eval ⟨dst,.call {callee:=.builtin .append,args:=[x,y].toArray,argTypes:=[t,t'].toArray},ty,pos,after,guard⟩).run P w=
   ((Builtin.append_ #[t,t'] ty #[u,act.eval y]).run P w).andThen fun v w'=>.ok (.value v) w':=by
  intro u hu;simp only[execOp,resolve,invoke,builtin,Sem.run_bind,Sem.run_pure,Result.andThen_ok,bq,aU,bk,hu]
 -- the new block's state
 have fresh:∀(olds:List Value) (old:Nat),RepL w (own fr H) elems.flatten olds→olds.length=elems.length*ei.size→zan elems.flatten=true→(∀i (hi:i<elems.length),elems[i].length=ei.size)→keys Hr ⊆ keys H→(∀p∈Hr,p∈H)→
   ∀(wn:World),wn=w.drew.alloc (.cells (olds.toArray++news'.toArray++Builtin.zeroCells zv.cells (grownCap w (elems.length+news.length) old e - (elems.length+news.length))) e)→
    (keys Hr).Nodup→Sim fr ((w.heap.size,.row e ei.size (elems++news))::Hr) wn∧Rep wn (own fr ((w.heap.size,.row e ei.size (elems++news))::Hr)) (.os w.heap.size ei.size 0 (elems.length+news.length)) (.slice (some ⟨w.heap.size,0,none⟩) (elems.length+news.length) (grownCap w (elems.length+news.length) old e))∧
    Ext H w ((w.heap.size,.row e ei.size (elems++news))::Hr) wn:=by
  intro olds old ho hol hlf helen hsub hmem wn hwn hnd;subst hwn;have hge:=grownCap_ge w (elems.length+news.length) old e;have hcm:=grownCap_le_maxLen w (elems.length+news.length) old e hb1;have hstay:Stays w (own fr H) (w.drew.alloc (.cells (olds.toArray++news'.toArray++Builtin.zeroCells zv.cells (grownCap w (elems.length+news.length) old e - (elems.length+news.length))) e)) (own fr ((w.heap.size,.row e ei.size (elems++news))::Hr)):=by
   refine⟨by simp,fun k hk _=>za3 w.drew _ k hk,fun k hk hn h=>?_,fun k hk c' T' f h=>?_⟩
   ·rcases h with h|h
    ·exact hn (.inl h)
    ·simp only[keys,aU,bx] at h
     rcases h with h|h
     ·omega
     ·exact hn (.inr (hsub h))
   ·have:=za3 w.drew (.cells (olds.toArray++news'.toArray++Builtin.zeroCells zv.cells (grownCap w (elems.length+news.length) old e - (elems.length+news.length))) e) k hk
    rw[this] at h;exact⟨c',f,h,I⟩
  have hsize:(olds.toArray++news'.toArray++Builtin.zeroCells zv.cells (grownCap w (elems.length+news.length) old e - (elems.length+news.length))).size=grownCap w (elems.length+news.length) old e*ei.size:=by
   simp only[Array.size_append,bR,zef,hzs,hol,hnl1,←b9];congr 1;omega
  refine⟨⟨?_,?_,?_,?_⟩,?_,?_⟩
  ·exact List.nodup_cons.2 ⟨fun h=>(zba s).1 (hsub h),hnd⟩
  ·intro k hk
   simp only[keys,aU,bx] at hk;rcases hk with rfl|hk
   ·exact(zba s).2
   ·exact s.apart k (hsub hk)
  ·intro k hk;have:=s.old k hk;simp;omega
  ·intro p hp
   rcases List.mem_cons.1 hp with rfl|hp
   ·refine za4 (vs:=olds++news') (heap_alloc_new w.drew _) (fun i hi=>?_) (by rw[zbo];exact(ho.append e4).mono hstay) (by rw[zbo];exact zbS hlf (RepL.flatLeaf hnf)) (fun j u hj=>?_)
    ·rw[db];split
     ·exact helen _ _
     ·exact hnl _ _
    ·have hlt:=(List.getElem?_eq_some_iff.1 hj).1
     rw[Array.getElem?_append_left (by simpa using hlt)];rw[←Array.getElem?_toList];simpa using hj
   ·exact(s.ok p (hmem p hp)).mono hstay (za3 w.drew _ _ (s.ok p (hmem p hp)).lt)
  ·have:=Rep.os (w:=w.drew.alloc (.cells (olds.toArray++news'.toArray++Builtin.zeroCells zv.cells (grownCap w (elems.length+news.length) old e - (elems.length+news.length))) e)) (own:=own fr ((w.heap.size,.row e ei.size (elems++news))::Hr))
    w.heap.size ei.size 0 (elems.length+news.length) (grownCap w (elems.length+news.length) old e) (by simp) hge hcm (fun c' T' f h=>by
     have hh:=heap_alloc_new w.drew (.cells (olds.toArray++news'.toArray++Builtin.zeroCells zv.cells (grownCap w (elems.length+news.length) old e - (elems.length+news.length))) e);have hh':(w.drew.alloc (.cells (olds.toArray++news'.toArray++Builtin.zeroCells zv.cells (grownCap w (elems.length+news.length) old e - (elems.length+news.length))) e)).heap[w.heap.size]?=some (.cells (olds.toArray++news'.toArray++Builtin.zeroCells zv.cells (grownCap w (elems.length+news.length) old e - (elems.length+news.length))) e):=hh;rw[hh'] at h;cases h;rw[aS,hsize])
   simpa using this
  ·refine⟨I,I,I,by simp,fun k hk _=>za3 w.drew _ k hk,fun k hk=>?_,hstay.shape⟩
   simp only[keys,aU,bx] at hk;rcases hk with rfl|hk
   ·exact .inr (au _)
   ·exact .inl (hsub hk)
 have hfitting:∀old,old<elems.length+news.length→Builtin.nextslicecap (elems.length+news.length) old*info.bytes≤281474976710656:=fun old ho=>by rw[hi2];exact growslice_fits ho hb2
 have h63:((elems.length+news.length:Nat):Int)≤9223372036854775807:=by simp only[maxLen] at hb1;omega
 rcases hs with ⟨rfl,rfl,hp⟩|⟨rfl,all,hall,hp⟩
 ·-- nil
  have hu:=zag st hx
  generalize h1:act.eval x=u at hu
  cases hu;have hn0:0<news.length:=List.length_pos_iff.2 hnil;have hr:=run_append_grow_src (P:=P) w t t' ty e info zv hund hinfo hi3 none 0 0 [] (run_firstCells_none _ _ _ _ _) (act.eval y) news.length news' hsrc' (by simpa using hn0) (by simpa using h63) (by have:=hfitting 0 (by simpa using hn0);simpa using this);obtain⟨f1,f2,f3⟩:=fresh [] 0 .nil (by simp) rfl (fun i hi=>by simp at hi) (fun k hk=>(hp.map _).mem_iff.2 hk) (fun p h=>hp.mem_iff.2 h) _ rfl (by have:=(s.perm hp).nodup;exact this)
  refine⟨_,_,_,_,.inl ?_,⟨w.heap.size,fun h=>(zba s).1 ((hp.map _).mem_iff.2 h),I,I⟩,f1,f2,f3⟩;rw[hexec _ h1,hr];simp
 ·-- a block of the call's own
  have hu:=zag st hx
  generalize h1:act.eval x=u at hu
  have hmemr:(r,Blk.row e ei.size all)∈H:=hp.mem_iff.2 aE;have sp:=s.perm hp;have hnd:=List.nodup_cons.1 (show(r::keys Hr).Nodup from sp.nodup)
  cases hu with
  |os _ _ _ _ cap hrr hcap hmax hroom=>
  obtain⟨cur,g1,g3,g2,g4,g5⟩:=zcK (s.ok _ hmemr);have hcs:=hroom _ _ _ g1;rw[aS] at hcs;have hle:elems.length≤all.length:=by
   have:=ai List.length hall;rw[be] at this;omega
  have helen:∀i (hi:i<elems.length),elems[i].length=ei.size:=by
   intro i hi;have:elems[i]=all[i]'(by omega):=by
    have h2:elems[i]?=(all.take elems.length)[i]?:=by rw[←hall]
    rw[List.getElem?_eq_getElem hi,List.getElem?_take,af hi,List.getElem?_eq_getElem (show i<all.length by omega)] at h2
    exact bU h2
   rw[this];exact g3 _ _
  have heflat:elems.flatten=all.flatten.take (elems.length*ei.size):=by
   have:=zcB (sz:=ei.size) all elems.length g3;rw[←hall] at this;exact this
  have hin:elems.length*ei.size≤all.length*ei.size:=bJ _ hle;have holds:RepL w (own fr H) elems.flatten (cur.toList.take (elems.length*ei.size)):=by
   rw[heflat];have:=g4.take (elems.length*ei.size);rw[List.take_take,Nat.min_eq_left hin] at this;exact this
  have hol:(cur.toList.take (elems.length*ei.size)).length=elems.length*ei.size:=by simp;omega
  have hlf:zan elems.flatten=true:=by
   rw[zay] at g5 ⊢;intro q hq;rw[heflat] at hq;exact g5 q (d8 hq)
  have hpk:keys Hr ⊆ keys H:=fun k hk=>(hp.map _).mem_iff.2 (aB _ hk);have hpm:∀p∈Hr,p∈H:=fun p h=>hp.mem_iff.2 (aB _ h);simp only[ce] at h1;by_cases hroom2:elems.length+news.length≤cap
  ·-- room
   have hfit:elems.length*info.size+news'.length≤cur.size:=by
    rw[hnl1,hi1,←b9,←hcs];exact bJ _ hroom2
   have hr:=zb4 (P:=P) w t t' ty e info hund hinfo r elems.length cap cur g1 (act.eval y) news.length news' hsrc' hroom2 hfit;have hsz:((cur.toList.take (elems.length*info.size)++news'++cur.toList.drop (elems.length*info.size+news'.length)).toArray).size=cur.size:=by
    simp only[bR,aT,be,ba,cQ];omega
   have hat:At ((r,Blk.row e ei.size all)::Hr) r (.row e ei.size all) (.row e ei.size (elems++news)) ((r,.row e ei.size (elems++news))::Hr):=.here;have hext:=Ext.write (c':=(cur.toList.take (elems.length*info.size)++news'++cur.toList.drop (elems.length*info.size+news'.length)).toArray) hat g1 hsz;have hstay:=hext.stays (fr:=fr);have hown:=zaS (fr:=fr) hp;refine⟨_,.os r ei.size 0 (elems.length+news.length),_,(r,.row e ei.size (elems++news))::Hr,.inl (by rw[hexec _ h1,hr];rfl),⟨r,hnd.1,I,I⟩,sp.write hat g1 hsz ?_,?_,hext.perm hp⟩
   ·refine za4 (vs:=cur.toList.take (elems.length*ei.size)++news') (setRow_heap w r cur _ e (0,0) g1) (fun i hi=>?_) ?_ (by rw[zbo];exact zbS hlf (RepL.flatLeaf hnf)) (fun j u hj=>?_)
    ·rw[db];split
     ·exact helen _ _
     ·exact hnl _ _
    ·rw[zbo]
     have:=holds.append e4;rw[hown] at this;exact this.mono hstay
    ·rw[List.getElem?_toArray,hi1,List.getElem?_append_left (by exact(List.getElem?_eq_some_iff.1 hj).1)]
     exact hj
   ·have:=Rep.os (w:=w.setRow r (cur.toList.take (elems.length*info.size)++news'++cur.toList.drop (elems.length*info.size+news'.length)).toArray) (own:=own fr ((r,.row e ei.size (elems++news))::Hr)) r ei.size 0 (elems.length+news.length) cap (by simpa using hrr) hroom2 hmax (fun c' T' f h=>by
     rw[setRow_heap w r cur _ e (0,0) g1] at h;cases h;rw[aS,hsz,hcs])
    simpa using this
  ·-- it grows
   have hcell:∀(j:Nat) (v:Value),(cur.toList.take (elems.length*ei.size))[j]?=some v→w.cell? ((⟨r,0,none⟩:Addr).add j)=some v:=by
    intro j v hj;rw[List.getElem?_take] at hj;split at hj
    ·rw[add_plain,aS,cell_of_row w r _ cur e (0,0) g1,←Array.getElem?_toList];exact hj
    ·cases hj
   have hr:=run_append_grow_src (P:=P) w t t' ty e info zv hund hinfo hi3 (some ⟨r,0,none⟩) elems.length cap (cur.toList.take (elems.length*ei.size)) (run_firstCells_some _ _ _ _ _ _ _ (by rw[hol,hi1]) (by simpa using hcell)) (act.eval y) news.length news' hsrc' (by omega) h63 (hfitting cap (by omega));obtain⟨f1,f2,f3⟩:=fresh _ cap holds hol hlf helen hpk hpm _ rfl hnd.2;refine⟨_,_,_,_,.inl ?_,⟨w.heap.size,fun h=>(zba s).1 (hpk h),I,I⟩,f1,f2,f3⟩;rw[hexec _ h1,hr];have e9:(cur.toList.take (elems.length*ei.size)++news').toArray=(cur.toList.take (elems.length*ei.size)).toArray++news'.toArray:=by simp
   rw[e9];rfl
theorem zgs:∀s:List UInt8,(s.map zaM).flatten=s.map fun b=>A.int .u8 b.toNat
 |[]=>rfl
 |b::s=>by simp only[aU,cn,zgs s];rfl
theorem zeX{w:World}{o:Nat→Prop}:∀s:List UInt8,RepL w o (s.map fun b=>A.int .u8 b.toNat) (s.map fun b=>Value.int .u8 b.toNat)
 |[]=>.nil
 |b::s=>.cons (.int _ _ (zhV.2 ⟨by omega,by have:=b.toNat_lt;omega⟩)) (zeX s)
theorem zeW.str{t':Nat}{y:Operand}{s:List UInt8}{ti:TI}(hL:zaq P L)(ht:lay L t'=some ti)(he:ti.td=.string)(hy:ev T y=some (.str s)):zeW P N H T 1 t' y (s.map zaM):=fun fr w act sm st=>by
 have hund:=zbf (hL _ _ ht) he;have hu:=zag st hy
 generalize h1:act.eval y=u at hu
 cases hu;have hb:byteCells ⟨s.toArray⟩=s.map fun b=>Value.int .u8 b.toNat:=by simp[byteCells]
 have hf:=zgs s;refine⟨_,by rw[ak];exact Src.ofString w hund ⟨s.toArray⟩,?_⟩
 rw[hb,hf];exact zeX s
theorem AOp.appendNilS{t t' e:Nat}{x y:Operand}{news:List (List A)}{ti ei:TI}{Hr:Heap}(hL:zaq P L)(hx:ev T x=some .nils)(ht:lay L t=some ti)(he:ti.td=.slice e)
  (hei:lay L e=some ei) (hpos:Nat.ble 1 ei.size=true) (hy':zeW P N H T ei.size t' y news) (hp:H.Perm Hr∨∃p,H.Perm (p::Hr)) (hnl:∀i (hi:i<news.length),news[i].length=ei.size) (hnf:∀c∈news,zan c=true) (hne:news≠[])
  (hb1:news.length≤maxLen) (hb2:news.length*ei.bytes≤140737488355328) (hd:zah N dst=true)
  (k:∀r,r∉keys Hr→AOps P N ops rest Q (put dst (.os r ei.size 0 news.length) T) ((r,.row e ei.size news)::Hr)):
  AOp P N ops ⟨dst,.call {callee:=.builtin .append,args:=[x,y].toArray,argTypes:=[t,t'].toArray},ty,pos,after,guard⟩ rest Q T H:=by
 have hs:=zfP (dst:=dst) (ty:=ty) (pos:=pos) (after:=after) (guard:=guard) (N:=N) (r:=0) (elems:=[]) (Hr:=H) hL hx ht he hei (bi hpos) (.inl ⟨I,I,ar _⟩) hy' hnl hnf (fun _=>hne) (by simpa using hb1) (by simpa using hb2);refine AOp.sem hs hd ?_;rintro v H' ⟨r',h1,rfl,rfl⟩;simp only[br,aS,b7];rcases hp with hr|⟨p,hr⟩
 ·exact AOps.perm (hr.cons _) (k r' (fun h=>h1 ((hr.map _).mem_iff.2 h)))
 ·refine AOps.perm ((hr.cons _).trans (bX _ _ _)) (AOps.drop (k r' (fun h=>h1 ((hr.map _).mem_iff.2 (aB _ h)))))
theorem AOp.appendS{t t' e:Nat}{x y:Operand}{r n:Nat}{all news:List (List A)}{ti ei:TI}{H1 Hr:Heap}(hL:zaq P L)(hx:ev T x=some (.os r ei.size 0 n))(ht:lay L t=some ti)(he:ti.td=.slice e)
  (hei:lay L e=some ei) (hpos:Nat.ble 1 ei.size=true) (hp:H.Perm ((r,.row e ei.size all)::H1)) (hn:n≤all.length) (hy':zeW P N H T ei.size t' y news) (hr:H1.Perm Hr∨∃p,H1.Perm (p::Hr))
  (hnl:∀i (hi:i<news.length),news[i].length=ei.size) (hnf:∀c∈news,zan c=true)
  (hb1:n+news.length≤maxLen) (hb2:(n+news.length)*ei.bytes≤140737488355328) (hd:zah N dst=true)
  (k:∀r',r'∉keys Hr→AOps P N ops rest Q (put dst (.os r' ei.size 0 (n+news.length)) T) ((r',.row e ei.size (all.take n++news))::Hr)):
  AOp P N ops ⟨dst,.call {callee:=.builtin .append,args:=[x,y].toArray,argTypes:=[t,t'].toArray},ty,pos,after,guard⟩ rest Q T H:=by
 have hlen:(all.take n).length=n:=by simp;omega
 have hs:=zfP (dst:=dst) (ty:=ty) (pos:=pos) (after:=after) (guard:=guard) (N:=N) (r:=r) (elems:=all.take n) (Hr:=H1) hL hx ht he hei (bi hpos)
  (.inr ⟨by rw[hlen],all,by rw[hlen],hp⟩) hy' hnl hnf (fun h=>by cases h) (by rw[hlen];exact hb1) (by rw[hlen];exact hb2)
 refine AOp.sem hs hd ?_;rintro v H' ⟨r',h1,rfl,rfl⟩;rw[hlen];rcases hr with hr|⟨p,hr⟩
 ·exact AOps.perm (hr.cons _) (k r' (fun h=>h1 ((hr.map _).mem_iff.2 h)))
 ·refine AOps.perm ((hr.cons _).trans (bX _ _ _)) (AOps.drop (k r' (fun h=>h1 ((hr.map _).mem_iff.2 (aB _ h)))))
theorem AOp.appendEmptyS{t t' e:TypeId}{x y:Operand}{ti ei:TI}(hL:zaq P L)(hx:ev T x=some .nils)(hy':zeW P N H T ei.size t' y [])(ht:lay L t=some ti)(he:ti.td=.slice e)(hei:lay L e=some ei)(hd:zah N dst=true)
  (kk:AOps P N ops rest Q (put dst .nils T) H):
  AOp P N ops ⟨dst,.call {callee:=.builtin .append,args:=[x,y].toArray,argTypes:=[t,t'].toArray},ty,pos,after,guard⟩ rest Q T H:=
 AOp.pure (fun fr w act s st=>by
  obtain⟨info,zv,hinfo,hi1,_⟩:=(hL _ _ hei).info;have hund:=zaW (hL _ _ ht) he;have hu:=zag st hx
  generalize h1:act.eval x=u at hu
  cases hu;obtain⟨news',hs,e4⟩:=hy' fr w act s st;have e4':news'=[]:=by cases e4;rfl
  subst e4';refine⟨.slice none 0 0,?_,.nils⟩;have h2:(Builtin.append_ #[t,t'] ty #[.slice none 0 0,act.eval y]).run P w=.ok (.slice none 0 0) w:=by
   rcases hs.kind with ⟨e',hk⟩|hk<;>simp[Builtin.append_,run_underlying hund,run_underlying hk,sizeOf,typeInfo,hinfo,hi1,hs.len,show(Builtin.firstCells ei.size 0 (act.eval y)).run P w=.ok #[] w from hs.cells]
  simp only[execOp,resolve,invoke,builtin,Sem.run_bind,Sem.run_pure,Result.andThen_ok,bq,aU,bk,h1,h2]) hd kk
theorem AOp.appendGS{t t' e:TypeId}{x y:Operand}{g:Option Nat}{elems news:List (List A)}{pre:Heap}{ti ei:TI}(hL:zaq P L)(hx:ev T x=some (outV ei.size g elems.length))(hg:g=none→elems=[])(hH:H=pre++outH e ei.size g elems)(hy':zeW P N H T ei.size t' y news)
  (ht:lay L t=some ti) (he:ti.td=.slice e) (hei:lay L e=some ei) (hpos:Nat.ble 1 ei.size=true) (hnl:∀c∈news,c.length=ei.size) (hnf:∀c∈news,zan c=true)
  (hb1:elems.length+news.length≤maxLen) (hb2:(elems.length+news.length)*ei.bytes≤140737488355328) (hd:zah N dst=true)
  (k:∀g',(g'=none→elems++news=[])→AOps P N ops rest Q (put dst (outV ei.size g' (elems++news).length) T) (pre++outH e ei.size g' (elems++news))):
  AOp P N ops ⟨dst,.call {callee:=.builtin .append,args:=[x,y].toArray,argTypes:=[t,t'].toArray},ty,pos,after,guard⟩ rest Q T H:=by
 subst hH;have hnl':∀i (hi:i<news.length),news[i].length=ei.size:=fun i hi=>hnl _ (bz hi);cases g with
 |none=>
  have:=hg I;subst this;simp only[outV] at hx;by_cases hne:news=[]
  ·subst hne
   refine AOp.appendEmptyS hL hx hy' ht he hei hd ?_;have:=k none (fun _=>rfl);simpa only [outV,outH] using this
  ·have hp:(pre++outH e ei.size none []).Perm pre:=by simp[outH]
   refine AOp.appendNilS hL hx ht he hei hpos hy' (.inl hp) hnl' hnf hne (by simpa using hb1) (by simpa using hb2) hd fun r hr=>?_;have:=k (some r) (fun h=>by cases h)
   simp only[outV,outH,b7] at this;exact AOps.perm (aN (l₁:=[_])) this
 |some r=>
  simp only[outV] at hx;simp only[outH] at*;refine AOp.appendS hL hx ht he hei hpos (aN (l₂:=[_])) (au _) hy' (.inl (ar _)) hnl' hnf hb1 hb2 hd fun r' hr'=>?_;have:=k (some r') (fun h=>by cases h)
  simp only[outV,aT] at this;rw[bM];exact AOps.perm (aN (l₁:=[_])) this
end
def zs1(L:Lay)(t:TypeId):Option (TypeId×TI):=match lay L t with
 |some ⟨.slice e,_,_,_⟩=>match lay L e with
  |some ei=>some (e,ei)
  |none=>none
 |_=>none
def eqTC(P:Program)(t:TypeId):Bool:=match P.underlying t with
 | some (.struct fs) => (!P.stoodInHeld t) && (!P.eqGuardType P.depth t) && fs.toList.all fun f => !(f.name == "_")
 |_=>false
def eqGC(P:Program)(t:TypeId):Bool:=!P.eqGuardType P.depth t
theorem zpW{P:Program}{t:TypeId}(h:eqGC P t=true):EqG P t:=by
 unfold eqGC at h;simpa [EqG] using h
theorem zqj{P:Program}{t:TypeId}(h:eqTC P t=true):EqT P t:=by
 unfold eqTC at h;split at h
 ·rename_i fs hu
  simp only[aO,bL,cE] at h;have hf:P.fieldsOf t=fs:=by simp[Program.fieldsOf,hu]
  exact⟨by rw[hf];exact hu,h.1.1,h.1.2,fun f hm=>by rw[hf] at hm;simpa using h.2 f hm⟩
 ·cases h
def zrk:Op→Op
 |.insert t m k x=>.mapUpdate t m k x
 |op=>op
theorem zjk(ev:Operand→Value)(o:Oper):execOp ev {o with op:=zrk o.op}=execOp ev o:=by
 obtain⟨dst,op,ty,pos,after,guard⟩:=o;cases op<;>rfl
theorem AOp.congrOp{P:Program}{N:NN}{Q:Exit→Env→Heap→Prop}{T:Env}{H:Heap}{ops rest:List Oper}{o1 o2:Oper}(hd:o1.dst=o2.dst)(he:∀ev,execOp ev o1=execOp ev o2)(h:AOp P N ops o1 rest Q T H):AOp P N ops o2 rest Q T H:=by
 refine⟨fun fr w a s st=>?_⟩;have:=h.out fr w a s st;unfold Oper.wp Oper.upon at this ⊢;rw[he,hd] at this;exact this
inductive Fin where
 |ret (v:A)
 |pan (u:Value)
def zrY(w:World)(o:Nat→Prop):Fin→Ending→Prop
 |.ret r,e=>∃v,e=.returned v∧Rep w o r v
 |.pan u,e=>e=.panicked [{v:=u,recovered:=false}]
structure TrF(P:Program)(f:FuncId)(args:List A)(H:Heap)(R:Fin→Heap→Prop):Prop where
 can:zcq P f
 run:∀(fr:Nat→Prop) (w:World) (vs:List Value),Sim fr H w→RepL w (own fr H) args vs→
  Calls P f vs.toArray w fun e w'=>∃x H',R x H'∧zrY w' (own fr H') x e∧Sim fr H' w'∧Ext H w H' w'
section
variable{P:Program}{N:NN}{Q:Exit→Env→Heap→Prop}{T:Env}{H:Heap}
theorem TrF.toTr{f:FuncId}{args:List A}{R:A→Heap→Prop}(h:TrF P f args H fun x H'=>∃r,x=.ret r∧R r H'):Tr P f args H R:=
 ⟨h.can,fun fr w vs s a=>(h.run fr w vs s a).mono fun _ _ ⟨x,H',⟨r,hx,hR⟩,hf,s',xx⟩=>by
  subst hx;obtain⟨v,he,hv⟩:=hf;exact⟨r,H',v,he,hR,s',hv,xx⟩⟩
def zrl(P:Program)(fn:Func)(N:NN)(R:Fin→Heap→Prop):Exit→Env→Heap→Prop
 |.ret,T,H|.normal,T,H=>∃r,zac P fn N T H r∧R (.ret r) H
 |.panic ch,T,H=>∃u,ch=[{v:=u,recovered:=false}]∧R (.pan u) H
 |_,_,_=>False
theorem zjj{N:Nat}{fn:Func}{args:List A}(hN:args.length+(fn.ntmps - args.length)=N){w:World}{o:Nat→Prop}{vs:List Value}(as:RepL w o args vs):St ⟨N,[],[]⟩ w o (zc9 0 args) {tmps:=vs.toArray++Array.replicate (fn.ntmps - vs.toArray.size) undef,defers:=[]}:=by
 refine⟨?_,I,GOk.nil,fun t x hx=>?_⟩
 ·simp[as.length,hN]
 ·obtain⟨_,h2⟩:=zeH args 0 t x hx
  obtain⟨v,hv,hr⟩:=as.get t x (by simpa using h2);refine⟨v,?_,hr⟩;have hlt:t<vs.length:=(List.getElem?_eq_some_iff.1 hv).1;rw[Array.getElem?_append_left (by simpa using hlt)];simpa using hv
end
structure TrG(G:List (Nat×List A))(P:Program)(f:FuncId)(args:List A)(H:Heap)(R:A→Heap→Prop):Prop where
 can:zcq P f
 run:∀(fr:Nat→Prop) (w:World) (vs:List Value),Sim fr H w→GOk G w (own fr H)→RepL w (own fr H) args vs→
  Calls P f vs.toArray w fun e w'=>∃r H' v,e=.returned v∧R r H'∧Sim fr H' w'∧Rep w' (own fr H') r v∧Ext H w H' w'
section
variable{G:List (Nat×List A)}{P:Program}{f:FuncId}{args:List A}{H:Heap}{R:A→Heap→Prop}
theorem Tr.g(h:Tr P f args H R):TrG G P f args H R:=⟨h.can,fun fr w vs s _ a=>h.run fr w vs s a⟩
theorem TrG.mono{R':A→Heap→Prop}(h:TrG G P f args H R)(hr:∀r H',R r H'→R' r H'):TrG G P f args H R':=
 ⟨h.can,fun fr w vs s g a=>(h.run fr w vs s g a).mono fun _ _ ⟨r,H',v,he,hR,rest⟩=>⟨r,H',v,he,hr _ _ hR,rest⟩⟩
theorem TrG.frame(F:Heap)(h:TrG G P f args H R):TrG G P f args (H++F) fun r H'=>∃H0,R r H0∧H'=H0++F:=by
 refine⟨h.can,fun fr w vs s g as=>?_⟩;rw[zcR] at as g;refine(h.run _ w vs s.split g as).mono ?_;rintro e w' ⟨r,H',v,rfl,hR,s',hr,x⟩;exact⟨r,H'++F,v,I,⟨H',hR,I⟩,s.join s' x,by rw[zcR];exact hr,x.frame⟩
theorem TrG.of_body {N : Nat} {fn : Func} {c : Code} (hf : P.funcs[f]? = some fn) (hb : fn.body = some c) (hn : (fn.name == "runtime.NumGoroutine") = false)
  (hN:args.length+(fn.ntmps - args.length)=N) (h:AWp P ⟨N,[],G⟩ c (zkT P fn ⟨N,[],G⟩ R) (zc9 0 args) H):TrG G P f args H R:=by
 refine⟨⟨fn,hf,by simp[hb],hn⟩,fun fr w vs s g as=>?_⟩
 have st:=zjj hN as;refine calls_of_wp hf hb (wp_mono (h.out fr w _ s ⟨st.size,st.defers,g,st.at_⟩) ?_)
 rintro e a w' ⟨T',H',q,s',st',x'⟩;cases e with
 |normal=>
  obtain⟨r,hr,hR⟩:=q;obtain⟨v,h1,h2⟩:=hr fr w' a s' st';exact⟨st'.defers,v,h1,r,H',v,I,hR,s',h2,x'⟩
 |ret=>
  obtain⟨r,hr,hR⟩:=q;obtain⟨v,h1,h2⟩:=hr fr w' a s' st';exact⟨st'.defers,v,h1,r,H',v,I,hR,s',h2,x'⟩
 |_=>exact q.elim
def PTrG(G:List (Nat×List A))(P:Program)(f:FuncId)(args:List A)(v:A):Prop:=TrG G P f args [] fun r _=>r=v
theorem PTr.g{v:A}(h:PTr P f args v):PTrG G P f args v:=Tr.g h
theorem PTrG.of_body {N : Nat} {fn : Func} {c : Code} {v : A} (hf : P.funcs[f]? = some fn) (hb : fn.body = some c) (hn : (fn.name == "runtime.NumGoroutine") = false)
  (hN:args.length+(fn.ntmps - args.length)=N) (h:AWp P ⟨N,[],G⟩ c (zkT P fn ⟨N,[],G⟩ fun r _=>r=v) (zc9 0 args) []):PTrG G P f args v:=TrG.of_body hf hb hn hN h
theorem PTrG.sub{args':List A}{v:A}(h:PTrG G P f args v)(hs:∀(w:World) (o:Nat→Prop) (vs:List Value),RepL w o args' vs→RepL w o args vs):PTrG G P f args' v:=
 ⟨h.can,fun fr w vs s g a=>h.run fr w vs s g (hs w _ vs a)⟩
variable{N:NN}{Q:Exit→Env→Heap→Prop}{T:Env}{ops rest:List Oper}{dst:Option Nat}{ty:TypeId}{pos:String}{after:Array Edge}{guard:Option (Nat×Bool)}
theorem AOp.callG{callee:Operand}{l:List Operand}{ats:Array TypeId}{first cap as:List A}{Hc F:Heap}(hf:ev T callee=some (.fn f first cap))(ha:evs T l=some as)(hd:zah N dst=true)
  (hH:H.Perm (Hc++F)) (ht:TrG N.g P f (first++as++cap) Hc R) (k:∀r H',R r H'→AOps P N ops rest Q (put dst r T) (H'++F)):
  AOp P N ops ⟨dst,.call {callee:=.value callee,args:=l.toArray,argTypes:=ats},ty,pos,after,guard⟩ rest Q T H:=by
 refine⟨fun fr w a s st=>?_⟩;have s1:=s.perm hH;have e1:own fr H=own fr (Hc++F):=zaS hH;rw[e1] at st;obtain⟨fs,cs,hv,r1,r2⟩:=(zag st hf).fn_inv;have r3:=zeA st ha;have hargs:=(r1.append r3).append r2;have hcall:=(ht.frame F).run fr w _ s1 st.glob hargs;unfold Oper.wp execOp;simp only[resolve,Deferred.ofValue,hv,Sem.run_bind,Sem.run_pure,Result.andThen_ok,invoke,zc5 ht.can,Oper.upon_enter];have e2:((fs.toList++l.map a.eval)++cs.toList).toArray=fs++l.toArray.map a.eval++cs:=by simp
 rw[e2] at hcall;refine hcall.mono ?_;rintro e w' ⟨r,H',v,rfl,⟨H0,hR,rfl⟩,s',hr,x⟩;have x':Ext H w (H0++F) w':=x.perm hH;exact AOps.ext x' ((k r H0 hR).out fr w' (a.put dst v) s' ((st.mono x.stays).put hd hr))
theorem AOp.callPG{callee:Operand}{l:List Operand}{ats:Array TypeId}{first cap as:List A}{v:A}(hf:ev T callee=some (.fn f first cap))(ha:evs T l=some as)(hd:zah N dst=true)
  (ht:PTrG N.g P f (first++as++cap) v) (k:AOps P N ops rest Q (put dst v T) H):
  AOp P N ops ⟨dst,.call {callee:=.value callee,args:=l.toArray,argTypes:=ats},ty,pos,after,guard⟩ rest Q T H:=
 AOp.callG hf ha hd (ar ([]++H)) ht fun r H' h1=>by subst h1;exact AOps.dropL H' k
theorem PTrG.of_below{f:FuncId}{args:List A}{r:A}(hc:zcq P f)(h:∀(w:World) (o:Nat→Prop) (vs:List Value),GOk G w o→RepL w o args vs→∃v,(∀w' o',Rep w' o' r v)∧Calls P f vs.toArray w fun e w'=>e=.returned v∧Go.RowKit.Below w.heap.size w w'):PTrG G P f args r:=by
 refine⟨hc,fun fr w vs s g a=>?_⟩;obtain⟨v,hv,hcall⟩:=h w _ vs g a;refine hcall.mono ?_;rintro e w' ⟨rfl,b⟩;have hsame:∀k,k<w.heap.size→w'.heap[k]?=w.heap[k]?:=b.block;exact⟨r,[],v,I,I,⟨dn,fun r hr=>(by cases hr),fun k hk=>cy (s.old k hk) b.size,fun p hp=>(by cases hp)⟩,hv _ _,
  ⟨b.os,b.tape,b.output,b.size,fun k hk _=>hsame k hk,fun k hk=>(by cases hk),fun k hk c T f hh=>⟨c,f,by rw[←hsame k hk];exact hh,I⟩⟩⟩
theorem GOk.cell{g:List (Nat×List A)}{w:World}{o:Nat→Prop}(h:GOk g w o){b:Nat}{cells:List A}(hm:(b,cells)∈g)(j:Nat)(hj:j<cells.length):∃v,w.cell? ⟨b,j,none⟩=some v∧Rep w o cells[j] v:=by
 have hr:=h _ hm;cases hr with
 |dp _ _ vs hc hh=>
  refine⟨vs j,?_,hh j hj⟩;have:=(hc j hj).2;rw[add_plain] at this;simpa using this
end
inductive Fr where
 |seq (y:Code)
 |block (id:Nat)
inductive Foc where
 |code (c:Code)
 |ops (all rest:List Oper)
 |pl (ops:Array Oper) (rest:List Oper)
 |ex (e:Exit)
def kQ(P:Program)(N:NN):List Fr→(Exit→Env→Heap→Prop)→Exit→Env→Heap→Prop
 |[],Q=>Q
 |.seq y::k,Q=>seqQ (AWp P N y (kQ P N k Q)) (kQ P N k Q)
 |.block id::k,Q=>zeS id (kQ P N k Q)
def ACd(P:Program)(N:NN)(L:Lay)(f:Foc)(k:List Fr)(Q:Exit→Env→Heap→Prop)(T:Env)(H:Heap):Prop:=
 match f with
 |.code c=>AWp P N c (kQ P N k Q) T H
 |.ops all rest=>AOps P N all rest (kQ P N k Q) T H
 |.pl ops rest=>Pl P N L ops (kQ P N k Q .normal) rest T H
 |.ex e=>kQ P N k Q e T H
structure AC(P:Program)(N:NN)(L:Lay)(f:Foc)(k:List Fr)(Q:Exit→Env→Heap→Prop)(T:Env)(H:Heap):Prop where
 out:ACd P N L f k Q T H
abbrev Pos:=Foc×List Fr×Env
noncomputable def stOp(L:Lay)(all rest:List Oper)(o:Oper)(k:List Fr)(T:Env):Option Pos:=
 match sOp L T o.op with
 |some v=>some (.ops all rest,k,put o.dst v T)
 |none=>none
noncomputable def zpV(L:Lay)(all rest:List Oper)(o:Oper)(k:List Fr)(T:Env):Option Pos:=
 match o.guard with
 |none=>stOp L all rest o k T
 |some (j,b)=>match (all[j]?).bind (·.dst) with
  |some d=>match get T d with
   |some (.bool b')=>match Bool.xor b b' with
    |true=>some (.ops all rest,k,put o.dst (.tup []) T)
    |false=>stOp L all rest o k T
   |some (.tup _)=>some (.ops all rest,k,put o.dst (.tup []) T)
   |_=>none
  |none=>none
noncomputable def stPl(L:Lay)(ops:Array Oper)(rest:List Oper)(o:Oper)(k:List Fr)(T:Env):Option Pos:=
 match za6 ops (zaj T (o.looksAt ops)) o with
 |some true=>match sOp L (zaj T (o.looksAt ops)) o.op with
  |some v=>some (.pl ops rest,k,put o.dst v T)
  |none=>none
 |some false=>some (.pl ops rest,k,put o.dst (.tup []) T)
 |none=>none
def stEx(e:Exit):List Fr→Env→Option Pos
 |.seq y::k,T=>match e with
  |.normal=>some (.code y,k,T)
  |_=>some (.ex e,k,T)
 |.block id::k,T=>match e with
  |.exit id'=>match Nat.beq id' id with
   |true=>some (.ex .normal,k,T)
   |false=>some (.ex (.exit id'),k,T)
  |_=>some (.ex e,k,T)
 |[],_=>none
def zlO(bl:Bool)(c:Code)(k:List Fr)(T:Env):Option Pos:=
 match c with
 |.seq x y=>some (.code x,.seq y::k,T)
 |.region _ ops d=>match d with
  |false=>some (.ops ops.toList ops.toList,k,T)
  |true=>none
 |.skip=>some (.ex .normal,k,T)
 |.exit id=>some (.ex (.exit id),k,T)
 |.ret=>some (.ex .ret,k,T)
 |.block id c=>match bl with
  |true=>some (.code c,.block id::k,T)
  |false=>none
 |.cond c x y=>match ev T c with
  |some (.bool b)=>match b with
   |true=>some (.code x,k,T)
   |false=>some (.code y,k,T)
  |_=>none
 |_=>none
noncomputable def st1(L:Lay)(N:NN)(bl:Bool)(f:Foc)(k:List Fr)(T:Env):Option Pos:=
 match f with
 |.code c=>zlO bl c k T
 |.ops all l=>match l with
  |[]=>some (.ex .normal,k,T)
  |o::rest=>match zah N o.dst with
   |true=>zpV L all rest o k T
   |false=>none
 |.pl ops l=>match l with
  |[]=>some (.ex .normal,k,T)
  |o::rest=>match zah N o.dst with
   |true=>stPl L ops rest o k T
   |false=>none
 |.ex e=>stEx e k T
noncomputable def stN(L:Lay)(N:NN)(bl:Bool):Nat→Foc→List Fr→Env→Option Pos
 |0,f,k,T=>some (f,k,T)
 |n+1,f,k,T=>match st1 L N bl f k T with
  |some (f',k',T')=>stN L N bl n f' k' T'
  |none=>none
section
variable{P:Program}{N:NN}{L:Lay}{Q:Exit→Env→Heap→Prop}{H:Heap}
theorem zlS(hL:zaq P L){all rest:List Oper}{o:Oper}{k k':List Fr}{f':Foc}{T T':Env}(hd:zah N o.dst=true)(h:stOp L all rest o k T=some (f',k',T'))(c:ACd P N L f' k' Q T' H):AOp P N all o rest (kQ P N k Q) T H:=by
 unfold stOp at h;split at h
 ·rename_i v hv
  cases h;exact AOp.simple hL hv hd c
 ·cases h
theorem zn6(hL:zaq P L){all rest:List Oper}{o:Oper}{k k':List Fr}{f':Foc}{T T':Env}(hd:zah N o.dst=true)(h:zpV L all rest o k T=some (f',k',T'))(c:ACd P N L f' k' Q T' H):AOps P N all (o::rest) (kQ P N k Q) T H:=by
 unfold zpV at h;split at h
 ·rename_i hg
  exact AOps.plain hg (zlS hL hd h c)
 ·rename_i j b hg
  split at h
  ·rename_i d hj
   split at h
   ·rename_i b' ht
    split at h
    ·rename_i hx
     cases h;exact AOps.unwanted hg hj ht hx hd c
    ·rename_i hx
     have e:b'=b:=by cases b<;>cases b'<;>first|rfl|cases hx
     subst e;exact AOps.wanted hg hj ht hd (zlS hL hd h c)
   ·rename_i l ht
    cases h;exact AOps.unwantedU hg hj ht hd c
   ·cases h
  ·cases h
theorem zpD{ops:Array Oper}{rest:List Oper}{o:Oper}{k k':List Fr}{f':Foc}{T T':Env}(hd:zah N o.dst=true)(h:stPl L ops rest o k T=some (f',k',T'))(c:ACd P N L f' k' Q T' H):Pl P N L ops (kQ P N k Q .normal) (o::rest) T H:=by
 unfold stPl at h;split at h
 ·rename_i hw
  split at h
  ·rename_i v hv
   cases h;exact⟨Plan.pure hd hw hv c.out⟩
  ·cases h
 ·rename_i hw
  cases h;exact⟨Plan.skip hd hw c.out⟩
 ·cases h
theorem zqx{e:Exit}{k k':List Fr}{f':Foc}{T T':Env}(h:stEx e k T=some (f',k',T'))(c:ACd P N L f' k' Q T' H):kQ P N k Q e T H:=by
 unfold stEx at h;split at h
 ·cases e<;>cases h<;>exact c
 ·rename_i id k0 T0
  cases e with
  |exit id'=>
   simp only at h;split at h
   ·rename_i hb
    cases h;exact zoq hb c
   ·rename_i hb
    cases h;exact znp hb c
  |_=>cases h;exact c
 ·cases h
theorem zlM{bl:Bool}{x:Code}{k k':List Fr}{f':Foc}{T T':Env}(h:zlO bl x k T=some (f',k',T'))(c:ACd P N L f' k' Q T' H):AWp P N x (kQ P N k Q) T H:=by
 unfold zlO at h;split at h
 ·cases h;exact AWp.seq c
 ·rename_i id ops d
  split at h
  ·cases h
   have:AWp P N (.region id ops.toList.toArray false) (kQ P N k Q) T H:=AWp.region c;simpa using this
  ·cases h
 ·cases h;exact AWp.skip c
 ·cases h;exact AWp.exit c
 ·cases h;exact AWp.ret c
 ·split at h
  ·cases h;exact AWp.block c
  ·cases h
 ·split at h
  ·rename_i b hb
   split at h
   ·cases h;exact AWp.condT hb c
   ·cases h;exact AWp.condF hb c
  ·cases h
 ·cases h
theorem zq7(hL:zaq P L){bl:Bool}{f f':Foc}{k k':List Fr}{T T':Env}(h:st1 L N bl f k T=some (f',k',T'))(c:ACd P N L f' k' Q T' H):ACd P N L f k Q T H:=by
 unfold st1 at h;split at h
 ·exact zlM h c
 ·split at h
  ·cases h;exact AOps.nil c
  ·split at h
   ·rename_i hd
    exact zn6 hL hd h c
   ·cases h
 ·split at h
  ·cases h;exact Pl.nil c
  ·split at h
   ·rename_i hd
    exact zpD hd h c
   ·cases h
 ·exact zqx h c
theorem AC.g(n:Nat)(hL:zaq P L){f f':Foc}{k k':List Fr}{T T':Env}(h:stN L N true n f k T=some (f',k',T'))(c:AC P N L f' k' Q T' H):AC P N L f k Q T H:=by
 induction n generalizing f k T with
 |zero=>cases h;exact c
 |succ n ih=>
  unfold stN at h;split at h
  ·rename_i f1 k1 T1 h1
   exact⟨zq7 hL h1 (ih h).out⟩
  ·cases h
variable{T:Env}{k:List Fr}
theorem AC.nilE{e:Exit}(h:Q e T H):AC P N L (.ex e) [] Q T H:=⟨h⟩
theorem AC.toOps{all rest:List Oper}(h:AOps P N all rest (kQ P N k Q) T H):AC P N L (.ops all rest) k Q T H:=⟨h⟩
theorem AC.toPl{ops:Array Oper}{rest:List Oper}(h:Pl P N L ops (kQ P N k Q .normal) rest T H):AC P N L (.pl ops rest) k Q T H:=⟨h⟩
theorem AC.toCode{c:Code}(h:AWp P N c (kQ P N k Q) T H):AC P N L (.code c) k Q T H:=⟨h⟩
theorem AC.pln{all rest:List Oper}{dst:Option Nat}{op:Op}{ty:TypeId}{pos:String}{after:Array Edge}(h:AOp P N all {dst:=dst,op:=op,type:=ty,pos:=pos,after:=after,guard:=none} rest (kQ P N k Q) T H):AC P N L (.ops all ({dst:=dst,op:=op,type:=ty,pos:=pos,after:=after,guard:=none}::rest)) k Q T H:=⟨AOps.pln h⟩
theorem AC.wtd{all rest:List Oper}{dst:Option Nat}{op:Op}{ty:TypeId}{pos:String}{after:Array Edge}{j d:Nat}{b:Bool}(hdj:(all[j]?).bind (·.dst)=some d)(ht:get T d=some (.bool b))(hd:zah N dst=true)(h:AOp P N all {dst:=dst,op:=op,type:=ty,pos:=pos,after:=after,guard:=some (j,b)} rest (kQ P N k Q) T H):AC P N L (.ops all ({dst:=dst,op:=op,type:=ty,pos:=pos,after:=after,guard:=some (j,b)}::rest)) k Q T H:=⟨AOps.wtd hdj ht hd h⟩
theorem AC.drawn{ops:List Oper}{id:Nat}(hL:zaq P L)(hm:P.follows .mixedOrders=true)(hc:chk ops=true)(h:AC P N L (.pl ops.toArray ops) k Q T H):AC P N L (.code (.region id ops.toArray true)) k Q T H:=⟨AWp.drawn hL hm hc h.out⟩
theorem AC.sim{all rest:List Oper}{dst:Option Nat}{op:Op}{ty:TypeId}{pos:String}{after:Array Edge}{v:A}(hL:zaq P L)(h:sOp L T op=some v)(hd:zah N dst=true)(c:AC P N L (.ops all rest) k Q (put dst v T) H):AC P N L (.ops all ({dst:=dst,op:=op,type:=ty,pos:=pos,after:=after,guard:=none}::rest)) k Q T H:=⟨AOps.sim hL h hd c.out⟩
theorem AC.simW{all rest:List Oper}{dst:Option Nat}{op:Op}{ty:TypeId}{pos:String}{after:Array Edge}{v:A}{j d:Nat}{b:Bool}(hL:zaq P L)(hdj:(all[j]?).bind (·.dst)=some d)(ht:get T d=some (.bool b))(h:sOp L T op=some v)(hd:zah N dst=true)(c:AC P N L (.ops all rest) k Q (put dst v T) H):AC P N L (.ops all ({dst:=dst,op:=op,type:=ty,pos:=pos,after:=after,guard:=some (j,b)}::rest)) k Q T H:=⟨AOps.simW hL hdj ht h hd c.out⟩
end
section
variable{P:Program}{N:NN}{Q:Exit→Env→Heap→Prop}{T:Env}{H:Heap}{ops rest:List Oper}{L:Lay}{dst:Option Nat}{ty:TypeId}{pos:String}{after:Array Edge}{guard:Option (Nat×Bool)}
theorem AOp.pushM{α:Type}(f:α→List A)(g:Option Nat)(l:List α)(a:α)(pre:Heap){t e:TypeId}{x y:Operand}{rb:Nat}{ti ei:TI}(hL:zaq P L)(hg:g=none→l=[])(hx:ev T x=some (outV ei.size g l.length))
  (hH:H=(rb,.row e ei.size [f a])::(pre++outH e ei.size g (l.map f))) (hy:ev T y=some (.os rb ei.size 0 1))
  (ht:lay L t=some ti) (he:ti.td=.slice e) (hei:lay L e=some ei) (hpos:Nat.ble 1 ei.size=true) (hnl:(f a).length=ei.size) (hnf:zan (f a)=true)
  (hb:l.length≤100000000) (hb2:Nat.ble ei.bytes 10000=true) (hd:zah N dst=true)
  (k:∀r',AOps P N ops rest Q (put dst (outV ei.size (some r') (l++[a]).length) T) (pre++outH e ei.size (some r') ((l++[a]).map f))):
  AOp P N ops ⟨dst,.call {callee:=.builtin .append,args:=[x,y].toArray,argTypes:=[t,t].toArray},ty,pos,after,guard⟩ rest Q T H:=by
 have hbb:=bi hb2;have hm:(l.length+1)*ei.bytes≤140737488355328:=by
  calc (l.length+1)*ei.bytes≤100000001*10000:=cG (by omega) hbb
   _≤140737488355328:=by decide
 refine AOp.appendG (g:=g) (elems:=l.map f) (news:=[f a]) (pre:=(rb,.row e ei.size [f a])::pre) hL (by rw[ak];exact hx) (fun h=>by rw[hg h];rfl) (by rw[hH];rfl) hy (by rw[hH];exact RowOf.os (off:=0) (len:=1) aE (au _)) ht he hei hpos
  (fun c hc=>by rw[List.mem_singleton.1 hc];exact hnl) (fun c hc=>by rw[List.mem_singleton.1 hc];exact hnf) (by simp only[ak,bc,maxLen];omega) (by simp only[ak,bc];exact hm) hd fun g' hg'=>?_
 cases g' with
 |none=>have:=hg' I;simp at this
 |some r'=>
  have h:=k r';have e1:(l.map f++[f a]).length=(l++[a]).length:=by simp
  have e2:(l++[a]).map f=l.map f++[f a]:=by simp
  rw[e1,←e2];exact AOps.dropL [_] h
theorem AWp.freezeM{α:Type}{f:α→List A}{g:Option Nat}{l:List α}{pre:Heap}{c:Code}{t e sz:Nat}(ht:get T t=some (outV sz g l.length))(hH:H=pre++outH e sz g (l.map f))(hg:g=none→l=[])(k:AWp P N c Q ((t,.ds (l.map f))::T) pre):AWp P N c Q T H:=
 AWp.freezeG (g:=g) (elems:=l.map f) (by rw[ak];exact ht) (fun h=>by rw[hg h];rfl) hH k
theorem AOps.freezeM{α:Type}{f:α→List A}{g:Option Nat}{l:List α}{pre:Heap}{t e sz:Nat}(ht:get T t=some (outV sz g l.length))(hH:H=pre++outH e sz g (l.map f))(hg:g=none→l=[])(k:AOps P N ops rest Q ((t,.ds (l.map f))::T) pre):AOps P N ops rest Q T H:=
 AOps.freezeG (g:=g) (elems:=l.map f) (by rw[ak];exact ht) (fun h=>by rw[hg h];rfl) hH k
end
section
variable{P:Program}{N:NN}{Q:Exit→Env→Heap→Prop}{T:Env}{H:Heap}{ops rest:List Oper}{L:Lay}{dst:Option Nat}{ty:TypeId}{pos:String}{after:Array Edge}{guard:Option (Nat×Bool)}
theorem AOp.pushL{α:Type}(f:α→List A)(g:Option Nat)(l news:List α)(pre:Heap){t e:TypeId}{x y:Operand}{rb:Nat}{ti ei:TI}(hL:zaq P L)(hg:g=none→l=[])(hx:ev T x=some (outV ei.size g l.length))
  (hH:H=(rb,.row e ei.size (news.map f))::(pre++outH e ei.size g (l.map f))) (hy:ev T y=some (.os rb ei.size 0 news.length)) (hne:news≠[])
  (ht:lay L t=some ti) (he:ti.td=.slice e) (hei:lay L e=some ei) (hpos:Nat.ble 1 ei.size=true) (hnl:∀a∈news,(f a).length=ei.size) (hnf:∀a∈news,zan (f a)=true)
  (hb:l.length+news.length≤100000000) (hb2:Nat.ble ei.bytes 10000=true) (hd:zah N dst=true)
  (k:∀r',r'∉keys pre→AOps P N ops rest Q (put dst (outV ei.size (some r') (l++news).length) T) (pre++outH e ei.size (some r') ((l++news).map f))):
  AOp P N ops ⟨dst,.call {callee:=.builtin .append,args:=[x,y].toArray,argTypes:=[t,t].toArray},ty,pos,after,guard⟩ rest Q T H:=by
 have hbb:=bi hb2;have hrow:RowOf H (.os rb ei.size 0 news.length) (news.map f):=by
  have:=RowOf.os (H:=H) (r:=rb) (Te:=e) (sz:=ei.size) (off:=0) (len:=news.length) (elems:=news.map f) (by rw[hH];exact aE) (by simp);rw[List.drop_zero,bF (by simp)] at this;exact this
 have hnl':∀i (hi:i<(news.map f).length),(news.map f)[i].length=ei.size:=fun i hi=>by
  rw[co];exact hnl _ (bz _)
 have hnf':∀c∈news.map f,zan c=true:=fun c hc=>by
  obtain⟨a,ha,rfl⟩:=List.mem_map.1 hc;exact hnf a ha
 have hmul:∀n:Nat,n≤100000000→n*ei.bytes≤140737488355328:=fun n hn=>by
  have:=cG hn hbb;omega
 cases g with
 |none=>
  have:=hg I;subst this;simp only[outV] at hx;refine AOp.appendNil (news:=news.map f) (Hr:=pre) hL hx hy ht he hei hpos hrow (.inr ⟨_,by rw[hH];simp only[outH,aQ];exact ar _⟩) hnl' hnf' (by simpa using hne) (by rw[ak];unfold maxLen;simp at hb;omega) (by rw[ak];exact hmul _ (by simpa using hb)) hd fun r hr=>?_
  have:=k r hr;simp only[outV,outH,b7] at this;rw[ak];exact AOps.perm (aN (l₁:=[_])) this
 |some r=>
  simp only[outV] at hx;simp only[outH] at hH k;refine AOp.append (all:=l.map f) (news:=news.map f) (H1:=(rb,.row e ei.size (news.map f))::pre) (Hr:=pre) hL hx hy ht he hei hpos (by rw[hH,←az];exact aN (l₂:=[_])) (by rw[ak];exact au _) hrow (.inr ⟨_,ar _⟩) hnl' hnf' (by rw[ak];unfold maxLen;omega) (by rw[ak];exact hmul _ hb) hd fun r' hr'=>?_;have:=k r' hr';simp only[outV,aT,bd] at this;rw[ak,←ak (f:=f) (as:=l),bM];refine AOps.perm (aN (l₁:=[_])) ?_;rw[ak];exact this
end
theorem Ext.fresh(H:Heap)(w:World)(o:Obj):Ext H w H (w.alloc o) where
 os:=rfl
 tape:=rfl
 output:=rfl
 size:=by simp
 same k hk _:=za3 w o k hk
 keys k hk:=.inl hk
 shape k hk c T f h:=by rw[za3 w o k hk] at h;exact⟨c,f,h,I⟩
theorem Sim.fresh{fr:Nat→Prop}{H:Heap}{w:World}(s:Sim fr H w)(o:Obj):Sim fr H (w.alloc o) where
 nodup:=s.nodup
 apart:=s.apart
 old k h:=by have:=s.old k h;simp;omega
 ok p hp:=by
  have h:=s.ok p hp;exact h.mono (Ext.fresh H w o).stays (za3 w o _ h.lt)
section
variable{P:Program}{N:NN}{Q:Exit→Env→Heap→Prop}{T:Env}{H:Heap}{ops rest:List Oper}{L:Lay}{ty:TypeId}{pos:String}{after:Array Edge}{guard:Option (Nat×Bool)}
theorem AOp.boxD(d:Nat){t:TypeId}{x:Operand}{v:A}{cells:List A}(hx:ev T x=some v)(hc:v.cells=cells)(hv:v.leaf=true∨∃l,v=.agg l)(hd:zah N (some d)=true)
  (k:AOps P N ops rest Q (put (some d) (.dp cells) T) H):
  AOp P N ops ⟨some d,.box t x,ty,pos,after,guard⟩ rest Q T H:=by
 subst hc;refine AOp.sem (R:=fun v' H'=>v'=.dp v.cells∧H'=H) (fun fr w act s st=>?_) hd ?_
 ·have hr:=(zag st hx).cells hv
  have x':=Ext.fresh H w (.cells (act.eval x).cells t);refine⟨w.alloc (.cells (act.eval x).cells t),_,.pointer (some ⟨w.heap.size,0,none⟩),_,.inl ?_,⟨I,I⟩,s.fresh _,?_,x'⟩
  ·simp only[execOp,Instr.box,newVar,newRow,Sem.run_bind,run_newObj,Result.andThen_ok,Sem.run_pure];rfl
  ·refine Rep.dp_of (hr.mono x'.stays) (fun j u hu=>?_) (fun h=>?_)
   ·rw[add_plain]
    simp only[World.cell?,heap_alloc_new];simpa using hu
   ·rcases h with h|h
    ·exact(zba s).2 h
    ·exact(zba s).1 h
 ·rintro v' H' ⟨rfl,rfl⟩
  exact k
def Fz(r sz:Nat)(cells:List A)(x x':A):Prop:=∀(fr:Nat→Prop) (Te:Nat) (Hr:Heap) (w:World) (v:Value),Sim fr ((r,.row Te sz [cells])::Hr) w→Rep w (own fr ((r,.row Te sz [cells])::Hr)) x v→Rep w (own fr Hr) x' v
theorem Fz.same(r sz:Nat)(cells:List A)(x:A):Fz r sz cells x x:=fun fr Te Hr w v s h=>h.mono (Stays.less fun _ h=>h.imp id (aB _))
theorem Fz.ptr(r sz:Nat)(cells:List A):Fz r sz cells (.ptr r sz 0 0) (.dp cells):=fun fr Te Hr w v s h=>by
 have hst:Stays w (own fr ((r,.row Te sz [cells])::Hr)) w (own fr Hr):=Stays.less fun _ h=>h.imp id (aB _);cases h;obtain⟨vs,h1,h2,_,_⟩:=s.elem (i:=0) (e:=cells) aE rfl;refine Rep.dp_of (h1.mono hst) ?_ fun h=>?_
 ·simpa using h2
 ·rcases h with h|h
  ·exact s.apart r aE h
  ·exact(List.nodup_cons.1 (show(r::keys Hr).Nodup from s.nodup)).1 h
inductive FzL(r sz:Nat)(cells:List A):List A→List A→Prop
 |nil:FzL r sz cells [] []
 |cons {x y:A} {l m:List A} (h:Fz r sz cells x y) (t:FzL r sz cells l m):FzL r sz cells (x::l) (y::m)
theorem FzL.rep{r sz:Nat}{cells:List A}{fr:Nat→Prop}{Te:Nat}{Hr:Heap}{w:World}(s:Sim fr ((r,.row Te sz [cells])::Hr) w):∀{l m:List A} {vs:List Value},FzL r sz cells l m→RepL w (own fr ((r,.row Te sz [cells])::Hr)) l vs→RepL w (own fr Hr) m vs
 |_,_,_,.nil,h=>by cases h;exact .nil
 |_,_,_,.cons h t,k=>by cases k with|cons k1 k2=>exact .cons (h _ _ _ _ _ s k1) (FzL.rep s t k2)
theorem Fz.fn{r sz:Nat}{cells:List A}{f:FuncId}{l m:List A}(h:FzL r sz cells l m):Fz r sz cells (.fn f [] l) (.fn f [] m):=fun fr Te Hr w v s k=>by
 obtain⟨fs,cs,rfl,h1,h2⟩:=k.fn_inv;have:=Rep.fn_of (f:=f) (h1.mono (Stays.less fun _ h=>h.imp id (aB _)):RepL w (own fr Hr) [] fs.toList) (h.rep s h2);simpa using this
theorem AWp.freezeF{c:Code}(t:Nat){r Te sz:Nat}{cells:List A}{Hr:Heap}{x x':A}(hx:get T t=some x)(hp:H.Perm ((r,.row Te sz [cells])::Hr))(hz:Fz r sz cells x x')(k:AWp P N c Q ((t,x')::T) Hr):AWp P N c Q T H:=by
 refine AWp.perm hp ⟨fun fr w a s st=>?_⟩;have hst:Stays w (own fr ((r,.row Te sz [cells])::Hr)) w (own fr Hr):=Stays.less fun _ h=>h.imp id (aB _);have st':St N w (own fr Hr) ((t,x')::T) a:=⟨st.size,st.defers,st.glob.mono hst,fun u y hy=>by
  rw[zbc] at hy;by_cases htu:t=u
  ·subst htu
   rw[af I] at hy;cases hy;obtain⟨v,h1,h2⟩:=st.at_ t x hx;exact⟨v,h1,hz _ _ _ _ _ s h2⟩
  ·rw[ac htu] at hy
   obtain⟨v,h1,h2⟩:=st.at_ u y hy;exact⟨v,h1,h2.mono hst⟩⟩
 refine wp_mono (k.out fr w a s.drop st') ?_;rintro e a' w' ⟨T',H'',q,s',st',x'⟩;exact⟨T',H'',q,s',st',x'.drop⟩
theorem AOps.freezeF(t:Nat){r Te sz:Nat}{cells:List A}{Hr:Heap}{x x':A}(hx:get T t=some x)(hp:H.Perm ((r,.row Te sz [cells])::Hr))(hz:Fz r sz cells x x')(k:AOps P N ops rest Q ((t,x')::T) Hr):AOps P N ops rest Q T H:=by
 refine AOps.perm hp ⟨fun fr w a s st=>?_⟩;have hst:Stays w (own fr ((r,.row Te sz [cells])::Hr)) w (own fr Hr):=Stays.less fun _ h=>h.imp id (aB _);have st':St N w (own fr Hr) ((t,x')::T) a:=⟨st.size,st.defers,st.glob.mono hst,fun u y hy=>by
  rw[zbc] at hy;by_cases htu:t=u
  ·subst htu
   rw[af I] at hy;cases hy;obtain⟨v,h1,h2⟩:=st.at_ t x hx;exact⟨v,h1,hz _ _ _ _ _ s h2⟩
  ·rw[ac htu] at hy
   obtain⟨v,h1,h2⟩:=st.at_ u y hy;exact⟨v,h1,h2.mono hst⟩⟩
 refine zaT ?_ _ _ _ (k.out fr w a s.drop st');rintro e a' w' ⟨T',H'',q,s',st',x'⟩;exact⟨T',H'',q,s',st',x'.drop⟩
inductive Del:Heap→Nat→Blk→Heap→Prop
 |here {r:Nat} {b:Blk} {H:Heap}:Del ((r,b)::H) r b H
 |there {r:Nat} {b:Blk} {p:Nat×Blk} {H H':Heap} (h:Del H r b H'):Del (p::H) r b (p::H')
def zln(G:List (Nat×List A))(P:Program)(v:A)(args:List A)(H:Heap)(R:A→Heap→Prop):Prop:=∃f first cap,v=.fn f first cap∧TrG G P f (first++args++cap) H R
theorem AOp.callH{dst:Option Nat}{callee:Operand}{l:List Operand}{ats:Array TypeId}{f:FuncId}{first cap as:List A}{R:A→Heap→Prop}(hf:ev T callee=some (.fn f first cap))(ha:evs T l=some as)(hd:zah N dst=true)
  (ht:TrG N.g P f (first++as++cap) H R) (k:∀r H',R r H'→AOps P N ops rest Q (put dst r T) H'):
  AOp P N ops ⟨dst,.call {callee:=.value callee,args:=l.toArray,argTypes:=ats},ty,pos,after,guard⟩ rest Q T H:=
 AOp.callG (F:=[]) hf ha hd (by rw[aQ]) ht fun r H' h=>by rw[aQ];exact k r H' h
theorem AOp.callB{dst:Option Nat}{callee:Operand}{l:List Operand}{ats:Array TypeId}{f:FuncId}{first cap as:List A}{Hx Hc:Heap}{R:A→Heap→Prop}(hf:ev T callee=some (.fn f first cap))(ha:evs T l=some as)(hd:zah N dst=true)
  (hH:H=Hx++Hc) (ht:TrG N.g P f (first++as++cap) Hc R) (k:∀r H',R r H'→AOps P N ops rest Q (put dst r T) (H'++Hx)):
  AOp P N ops ⟨dst,.call {callee:=.value callee,args:=l.toArray,argTypes:=ats},ty,pos,after,guard⟩ rest Q T H:=
 AOp.callG (F:=Hx) hf ha hd (by rw[hH];exact aN) ht k
theorem AOp.callK(Hx:Heap){dst:Option Nat}{callee:Operand}{l:List Operand}{ats:Array TypeId}{f:FuncId}{first cap as:List A}{Hc:Heap}{R:A→Heap→Prop}(hf:ev T callee=some (.fn f first cap))(ha:evs T l=some as)(hd:zah N dst=true)
  (hH:H=Hx++Hc) (ht:TrG N.g P f (first++as++cap) Hc R) (k:∀r H',R r H'→AOps P N ops rest Q (put dst r T) (Hx++H')):
  AOp P N ops ⟨dst,.call {callee:=.value callee,args:=l.toArray,argTypes:=ats},ty,pos,after,guard⟩ rest Q T H:=
 AOp.callB hf ha hd hH ht fun r H' h=>AOps.perm aN (k r H' h)
end
end Go.Abs
namespace Go.Abs.Flex4
open Go Go.Abs
def zci(K:Oper→Nat)(x y:Oper):Bool:=match K x,K y with
 |3,_|_,3=>true
 |2,0|0,2|0,0|0,1|1,0|1,1|1,4|0,4|4,0|5,5|5,6|6,5|5,0|0,5|6,0|0,6=>true
 |_,_=>false
def chk(K:Oper→Nat)(ops:List Oper):Bool:=
 let b:=anc ops
 Region.noSelect ops.toArray&&
 ops.zipIdx.all fun(o,i)=>
  (o.after.toList.all fun e=>match Region.binds .any e with|true=>Nat.blt e.on i|false=>true)&&
  (ops.take i).zipIdx.all fun(x,j)=>(b.getD i 0).testBit j||(x.apart ops.toArray o&&zci K x o)
def Plan(P:Program)(N:NN)(L:Lay)(K:Oper→Nat)(bv:Nat→A)(B:Heap)(ops:Array Oper)(Q:Env→Heap→Prop):List Oper→Env→Heap→Prop
 |[],T,H=>∃T0,(∀t x,get T0 t=some x→get T t=some x)∧Q T0 H
 |o::rest,T,H=>zah N o.dst=true∧
   ((za6 ops (zaj T (o.looksAt ops)) o=some true∧∃v,sOpX P L (zaj T (o.looksAt ops)) o.op=some v∧Plan P N L K bv B ops Q rest (put o.dst v T) H)∨
    (za6 ops (zaj T (o.looksAt ops)) o=some false∧Plan P N L K bv B ops Q rest (put o.dst (.tup []) T) H)∨
    ((K o=1∨K o=2)∧za6 ops (zaj T (o.looksAt ops)) o=some true∧∃v,AOp P N [] o [] (Qn o (zaj T (o.looksAt ops)) fun r H'=>r=v∧H'=H) (zaj T (o.looksAt ops)) H∧Plan P N L K bv B ops Q rest (put o.dst v T) H)∨
    ((K o=2∨K o=4∨K o=6)∧za6 ops (zaj T (o.looksAt ops)) o=some true∧∃R,(((∃v H',R v H')∧(K o=4→∀v H',R v H'→∃F,H'=F++H)∧(K o=6→(∃E,H=B++E)∧∀v H',R v H'→∃E,H'=B++E))∧AOp P N [] o [] (Qn o (zaj T (o.looksAt ops)) R) (zaj T (o.looksAt ops)) H)∧∀v H',R v H'→Plan P N L K bv B ops Q rest (put o.dst v T) H')∨
    ((K o=3∧sOpX P L (zaj T (o.looksAt ops)) o.op=none)∧za6 ops (zaj T (o.looksAt ops)) o=some true∧∃v,o.dst.map bv=some v∧(∀H,AOp P N [] o [] (Qn o (zaj T (o.looksAt ops)) fun r H'=>r=v∧H'=H) (zaj T (o.looksAt ops)) H)∧Plan P N L K bv B ops Q rest (put o.dst v T) H)∨
    ((K o=5∧sOpX P L (zaj T (o.looksAt ops)) o.op=none)∧za6 ops (zaj T (o.looksAt ops)) o=some true∧(∃E,H=B++E)∧∃v,o.dst.map bv=some v∧(∀E,AOp P N [] o [] (Qn o (zaj T (o.looksAt ops)) fun r H'=>r=v∧H'=B++E) (zaj T (o.looksAt ops)) (B++E))∧Plan P N L K bv B ops Q rest (put o.dst v T) H))
section
variable{P:Program}{N:NN}{L:Lay}{K:Oper→Nat}{bv:Nat→A}{B:Heap}{ops:Array Oper}{Q:Env→Heap→Prop}
theorem Plan.cong:∀{l:List Oper} {T T':Env} {H:Heap},(∀t,get T t=get T' t)→Plan P N L K bv B ops Q l T H→Plan P N L K bv B ops Q l T' H
 |[],T,T',H,he,⟨T0,h1,h2⟩=>⟨T0,fun t x h=>by rw[←he];exact h1 t x h,h2⟩
 |o::rest,T,T',H,he,⟨hd,h⟩=>by
  have hr:zaj T (o.looksAt ops)=zaj T' (o.looksAt ops):=zcX _ fun t _=>he t;have hp:∀v t,get (put o.dst v T) t=get (put o.dst v T') t:=by
   intro v t;cases o.dst with
   |none=>exact he t
   |some d=>simp only[put,zbc,he t]
  refine⟨hd,?_⟩;rw[hr] at h;rcases h with ⟨h1,v,h2,h3⟩|⟨h1,h3⟩|⟨h0,h1,v,h2,h3⟩|⟨h0,h1,R,h2,h3⟩|⟨h0,h1,v,hb,h2,h3⟩|⟨h0,h1,hE,v,hb,h2,h3⟩
  ·exact .inl ⟨h1,v,h2,h3.cong (hp v)⟩
  ·exact .inr (.inl ⟨h1,h3.cong (hp _)⟩)
  ·exact .inr (.inr (.inl ⟨h0,h1,v,h2,h3.cong (hp v)⟩))
  ·exact .inr (.inr (.inr (.inl ⟨h0,h1,R,h2,fun v H' hR=>(h3 v H' hR).cong (hp v)⟩)))
  ·exact .inr (.inr (.inr (.inr (.inl ⟨h0,h1,v,hb,h2,h3.cong (hp v)⟩))))
  ·exact .inr (.inr (.inr (.inr (.inr ⟨h0,h1,hE,v,hb,h2,h3.cong (hp v)⟩))))
theorem zkK{x o:Oper}(hc:zci K x o=true):(K x=2∨K x=4∨K x=6→K o=0∨K o=3∨(K x=6∧K o=5))∧(K o=2→K x=0∨K x=3)∧(K o=4→K x=0∨K x=1∨K x=3)∧(K o=6→K x=0∨K x=5∨K x=3):=by
 unfold zci at hc;split at hc<;>first|(rename_i h1;simp[h1];done)|(rename_i h1 h2;simp[h1,h2];done)|(rename_i h1 h2;rw[h2];omega)|cases hc|omega
theorem AOp.besides{o:Oper}{u:A}{T:Env}{H:Heap}(F:Heap)(h:AOp P N [] o [] (Qn o T fun r H'=>r=u∧H'=H) T H):AOp P N [] o [] (Qn o T fun r H'=>r=u∧H'=F++H) T (F++H):=by
 have h1:=AOp.perm (aN (l₁:=F) (l₂:=H)) (AOp.frameR F h);refine⟨fun fr w a s st=>?_⟩;have hm:∀e a' w',Post N fr (F++H) w (Qn o T fun v K=>∃H',(v=u∧H'=H)∧K=H'++F∧(keys K).Nodup) e a' w'→Post N fr (F++H) w (Qn o T fun r H'=>r=u∧H'=F++H) e a' w':=by
  rintro e a' w' ⟨T',K,q,s',st',x'⟩;cases e<;>first|exact q.elim|skip
  obtain⟨v,⟨H',⟨rfl,rfl⟩,rfl,hk⟩,rfl⟩:=q;have hp:(H'++F).Perm (F++H'):=aN;refine⟨_,F++H',⟨v,⟨I,I⟩,I⟩,s'.perm hp,?_,x'.permR hp⟩;rw[←zaS hp];exact st'
 have h0:=h1.out _ w a s st;refine zgY (fun e a' w' _ hq=>hm e a' w' hq) (fun u w' hk=>hm _ _ _ hk) (fun d w' hk=>?_) h0;obtain⟨T',H',_,_,st',_⟩:=hk;have h3:=ai List.length st'.defers;rw[←st.defers] at h3;cases hdo:o.dst<;>rw[hdo] at h3<;>simp[Act.put] at h3
theorem Plan.swap{x o:Oper}{r:List Oper}{T:Env}{H:Heap}(ha:x.apart ops o=true)(hc:zci K x o=true)(h:Plan P N L K bv B ops Q (x::o::r) T H):Plan P N L K bv B ops Q (o::x::r) T H:=by
 obtain⟨h1,h2,h3⟩:=Oper.apart_spec ha;have r1:∀v,zaj (put x.dst v T) (o.looksAt ops)=zaj T (o.looksAt ops):=fun v=>zd6 h1;have r2:∀v,zaj (put o.dst v T) (x.looksAt ops)=zaj T (x.looksAt ops):=fun v=>zd6 h3;have sw:∀u v t,get (put o.dst v (put x.dst u T)) t=get (put x.dst u (put o.dst v T)) t:=fun u v t=>zkk h2 t;obtain⟨hd,h⟩:=h;obtain⟨hcx,hco,hc4,hc6⟩:=zkK hc;rcases h with ⟨w1,u,e1,hd2,h⟩|⟨w1,hd2,h⟩|⟨c1,w1,u,e1,hd2,h⟩|⟨c1,w1,R,e1,h⟩|⟨c1,w1,u,hbu,e1,hd2,h⟩|⟨c1,w1,hE1,u,hbu,e1,hd2,h⟩
 ·rw[r1 u] at h
  have q:∀{v:A} {H':Heap},Plan P N L K bv B ops Q r (put o.dst v (put x.dst u T)) H'→Plan P N L K bv B ops Q (x::r) (put o.dst v T) H':=fun k=>⟨hd,.inl ⟨by rw[r2];exact w1,u,by rw[r2];exact e1,k.cong (sw u _)⟩⟩
  rcases h with ⟨w2,v,e2,k⟩|⟨w2,k⟩|⟨c2,w2,v,e2,k⟩|⟨c2,w2,R,e2,k⟩|⟨c2,w2,v,hbv,e2,k⟩|⟨c2,w2,hE,v,hbv,e2,k⟩
  ·exact⟨hd2,.inl ⟨w2,v,e2,q k⟩⟩
  ·exact⟨hd2,.inr (.inl ⟨w2,q k⟩)⟩
  ·exact⟨hd2,.inr (.inr (.inl ⟨c2,w2,v,e2,q k⟩))⟩
  ·exact⟨hd2,.inr (.inr (.inr (.inl ⟨c2,w2,R,e2,fun v H' hR=>q (k v H' hR)⟩)))⟩
  ·exact⟨hd2,.inr (.inr (.inr (.inr (.inl ⟨c2,w2,v,hbv,e2,q k⟩))))⟩
  ·exact⟨hd2,.inr (.inr (.inr (.inr (.inr ⟨c2,w2,hE,v,hbv,e2,q k⟩))))⟩
 ·rw[r1] at h
  have q:∀{v:A} {H':Heap},Plan P N L K bv B ops Q r (put o.dst v (put x.dst (.tup []) T)) H'→Plan P N L K bv B ops Q (x::r) (put o.dst v T) H':=fun k=>⟨hd,.inr (.inl ⟨by rw[r2];exact w1,k.cong (sw _ _)⟩)⟩
  rcases h with ⟨w2,v,e2,k⟩|⟨w2,k⟩|⟨c2,w2,v,e2,k⟩|⟨c2,w2,R,e2,k⟩|⟨c2,w2,v,hbv,e2,k⟩|⟨c2,w2,hE,v,hbv,e2,k⟩
  ·exact⟨hd2,.inl ⟨w2,v,e2,q k⟩⟩
  ·exact⟨hd2,.inr (.inl ⟨w2,q k⟩)⟩
  ·exact⟨hd2,.inr (.inr (.inl ⟨c2,w2,v,e2,q k⟩))⟩
  ·exact⟨hd2,.inr (.inr (.inr (.inl ⟨c2,w2,R,e2,fun v H' hR=>q (k v H' hR)⟩)))⟩
  ·exact⟨hd2,.inr (.inr (.inr (.inr (.inl ⟨c2,w2,v,hbv,e2,q k⟩))))⟩
  ·exact⟨hd2,.inr (.inr (.inr (.inr (.inr ⟨c2,w2,hE,v,hbv,e2,q k⟩))))⟩
 ·rw[r1 u] at h
  have q:∀{v:A},Plan P N L K bv B ops Q r (put o.dst v (put x.dst u T)) H→Plan P N L K bv B ops Q (x::r) (put o.dst v T) H:=fun k=>⟨hd,.inr (.inr (.inl ⟨c1,by rw[r2];exact w1,u,by rw[r2];exact e1,k.cong (sw u _)⟩))⟩
  rcases h with ⟨w2,v,e2,k⟩|⟨w2,k⟩|⟨c2,w2,v,e2,k⟩|⟨c2,w2,R,e2,k⟩|⟨c2,w2,v,hbv,e2,k⟩|⟨c2,w2,hE,v,hbv,e2,k⟩
  ·exact⟨hd2,.inl ⟨w2,v,e2,q k⟩⟩
  ·exact⟨hd2,.inr (.inl ⟨w2,q k⟩)⟩
  ·exact⟨hd2,.inr (.inr (.inl ⟨c2,w2,v,e2,q k⟩))⟩
  ·have c4:K o=4:=by
    rcases c2 with c2|c2|c2
    ·have:=hco c2;omega
    ·exact c2
    ·have:=hc6 c2;omega
   refine⟨hd2,.inr (.inr (.inr (.inl ⟨c2,w2,R,e2,fun v H' hR=>?_⟩)))⟩;obtain⟨F,rfl⟩:=e2.1.2.1 c4 v H' hR;exact⟨hd,.inr (.inr (.inl ⟨c1,by rw[r2];exact w1,u,by rw[r2];exact AOp.besides F e1,(k v _ hR).cong (sw u _)⟩))⟩
  ·exact⟨hd2,.inr (.inr (.inr (.inr (.inl ⟨c2,w2,v,hbv,e2,q k⟩))))⟩
  ·exact⟨hd2,.inr (.inr (.inr (.inr (.inr ⟨c2,w2,hE,v,hbv,e2,q k⟩))))⟩
 ·have ho:=hcx c1
  have putx:∀{v:A},(∀v1 H1,R v1 H1→Plan P N L K bv B ops Q r (put o.dst v (put x.dst v1 T)) H1)→Plan P N L K bv B ops Q (x::r) (put o.dst v T) H:=fun k=>
   ⟨hd,.inr (.inr (.inr (.inl ⟨c1,by rw[r2];exact w1,R,⟨e1.1,by rw[r2];exact e1.2⟩,fun v H' hR=>(k v H' hR).cong (sw v _)⟩)))⟩
  obtain⟨v0,H0,hR0⟩:=e1.1.1;have hdo:=(h v0 H0 hR0).1;have key:∀v H',R v H'→(za6 ops (zaj T (o.looksAt ops)) o=some true∧∃u,sOpX P L (zaj T (o.looksAt ops)) o.op=some u∧Plan P N L K bv B ops Q r (put o.dst u (put x.dst v T)) H')∨
    (za6 ops (zaj T (o.looksAt ops)) o=some false∧Plan P N L K bv B ops Q r (put o.dst (.tup []) (put x.dst v T)) H')∨
    ((za6 ops (zaj T (o.looksAt ops)) o=some true∧sOpX P L (zaj T (o.looksAt ops)) o.op=none)∧∃u,o.dst.map bv=some u∧((K o=3∧∀H,AOp P N [] o [] (Qn o (zaj T (o.looksAt ops)) fun r H'=>r=u∧H'=H) (zaj T (o.looksAt ops)) H)∨
     (K o=5∧∀E,AOp P N [] o [] (Qn o (zaj T (o.looksAt ops)) fun r H'=>r=u∧H'=B++E) (zaj T (o.looksAt ops)) (B++E)))∧Plan P N L K bv B ops Q r (put o.dst u (put x.dst v T)) H'):=by
   intro v H' hR;obtain⟨_,k⟩:=h v H' hR;rw[r1 v] at k;rcases k with k|k|⟨c2,_⟩|⟨c2,_⟩|⟨⟨c2,c3⟩,w2,u,hb,e2,k⟩|⟨c2,w2,hE,u,hb,e2,k⟩
   ·exact .inl k
   ·exact .inr (.inl k)
   ·omega
   ·omega
   ·exact .inr (.inr ⟨⟨w2,c3⟩,u,hb,.inl ⟨c2,e2⟩,k⟩)
   ·exact .inr (.inr ⟨⟨w2,c2.2⟩,u,hb,.inr ⟨c2.1,e2⟩,k⟩)
  by_cases hw:za6 ops (zaj T (o.looksAt ops)) o=some false
  ·refine⟨hdo,.inr (.inl ⟨hw,putx fun v H' hR=>?_⟩)⟩
   rcases key v H' hR with ⟨w2,_⟩|⟨_,k⟩|⟨⟨w2,_⟩,_⟩
   ·rw[hw] at w2;cases w2
   ·exact k
   ·rw[hw] at w2;cases w2
  by_cases hs:∃u,sOpX P L (zaj T (o.looksAt ops)) o.op=some u
  ·obtain⟨u,hu⟩:=hs
   refine⟨hdo,.inl ⟨?_,u,hu,putx fun v H' hR=>?_⟩⟩
   ·rcases key v0 H0 hR0 with ⟨w2,_⟩|⟨w2,_⟩|⟨⟨w2,_⟩,_⟩
    ·exact w2
    ·exact absurd w2 hw
    ·exact w2
   ·rcases key v H' hR with ⟨w2,u',e2',k⟩|⟨w2,_⟩|⟨⟨_,c3⟩,_⟩
    ·rw[hu] at e2';cases e2';exact k
    ·exact absurd w2 hw
    ·rw[hu] at c3;cases c3
  ·rcases key v0 H0 hR0 with ⟨w2,u,e2,_⟩|⟨w2,_⟩|⟨⟨w2,c3⟩,u,hb,e3,_⟩
   ·exact absurd ⟨u,e2⟩ hs
   ·exact absurd w2 hw
   ·have kk:Plan P N L K bv B ops Q (x::r) (put o.dst u T) H:=putx fun v H' hR=>by
     rcases key v H' hR with ⟨_,u',e2',_⟩|⟨w2',_⟩|⟨_,u',hb',_,k⟩
     ·exact absurd ⟨u',e2'⟩ hs
     ·exact absurd w2' hw
     ·rw[hb] at hb';cases hb';exact k
    rcases e3 with ⟨c4,e3⟩|⟨c4,e3⟩
    ·exact⟨hdo,.inr (.inr (.inr (.inr (.inl ⟨⟨c4,c3⟩,w2,u,hb,e3,kk⟩))))⟩
    ·exact⟨hdo,.inr (.inr (.inr (.inr (.inr ⟨⟨c4,c3⟩,w2,(e1.1.2.2 (by omega)).1,u,hb,e3,kk⟩))))⟩
 ·rw[r1 u] at h
  have q:∀{v:A} {H':Heap},Plan P N L K bv B ops Q r (put o.dst v (put x.dst u T)) H'→Plan P N L K bv B ops Q (x::r) (put o.dst v T) H':=fun k=>⟨hd,.inr (.inr (.inr (.inr (.inl ⟨⟨c1.1,by rw[r2];exact c1.2⟩,by rw[r2];exact w1,u,hbu,by rw[r2];exact e1,k.cong (sw u _)⟩))))⟩
  rcases h with ⟨w2,v,e2,k⟩|⟨w2,k⟩|⟨c2,w2,v,e2,k⟩|⟨c2,w2,R,e2,k⟩|⟨c2,w2,v,hbv,e2,k⟩|⟨c2,w2,hE,v,hbv,e2,k⟩
  ·exact⟨hd2,.inl ⟨w2,v,e2,q k⟩⟩
  ·exact⟨hd2,.inr (.inl ⟨w2,q k⟩)⟩
  ·exact⟨hd2,.inr (.inr (.inl ⟨c2,w2,v,e2,q k⟩))⟩
  ·exact⟨hd2,.inr (.inr (.inr (.inl ⟨c2,w2,R,e2,fun v H' hR=>q (k v H' hR)⟩)))⟩
  ·exact⟨hd2,.inr (.inr (.inr (.inr (.inl ⟨c2,w2,v,hbv,e2,q k⟩))))⟩
  ·exact⟨hd2,.inr (.inr (.inr (.inr (.inr ⟨c2,w2,hE,v,hbv,e2,q k⟩))))⟩
 ·rw[r1 u] at h
  have q:∀{v:A} {H':Heap},(∃E,H'=B++E)→Plan P N L K bv B ops Q r (put o.dst v (put x.dst u T)) H'→Plan P N L K bv B ops Q (x::r) (put o.dst v T) H':=fun hE k=>⟨hd,.inr (.inr (.inr (.inr (.inr ⟨⟨c1.1,by rw[r2];exact c1.2⟩,by rw[r2];exact w1,hE,u,hbu,by rw[r2];exact e1,k.cong (sw u _)⟩))))⟩
  rcases h with ⟨w2,v,e2,k⟩|⟨w2,k⟩|⟨c2,w2,v,e2,k⟩|⟨c2,w2,R,e2,k⟩|⟨c2,w2,v,hbv,e2,k⟩|⟨c2,w2,hE,v,hbv,e2,k⟩
  ·exact⟨hd2,.inl ⟨w2,v,e2,q hE1 k⟩⟩
  ·exact⟨hd2,.inr (.inl ⟨w2,q hE1 k⟩)⟩
  ·exact⟨hd2,.inr (.inr (.inl ⟨c2,w2,v,e2,q hE1 k⟩))⟩
  ·have c6:K o=6:=by
    rcases c2 with c2|c2|c2
    ·have:=hco c2;omega
    ·have:=hc4 c2;omega
    ·exact c2
   exact⟨hd2,.inr (.inr (.inr (.inl ⟨c2,w2,R,e2,fun v H' hR=>q ((e2.1.2.2 c6).2 v H' hR) (k v H' hR)⟩)))⟩
  ·exact⟨hd2,.inr (.inr (.inr (.inr (.inl ⟨c2,w2,v,hbv,e2,q hE1 k⟩))))⟩
  ·exact⟨hd2,.inr (.inr (.inr (.inr (.inr ⟨c2,w2,hE,v,hbv,e2,q hE1 k⟩))))⟩
theorem Plan.first{o:Oper}:∀{l1 l2:List Oper} {T:Env} {H:Heap},(∀x∈l1,x.apart ops o=true∧zci K x o=true)→Plan P N L K bv B ops Q (l1++o::l2) T H→Plan P N L K bv B ops Q (o::(l1++l2)) T H
 |[],l2,T,H,_,h=>h
 |x::l1,l2,T,H,hc,h=>by
  refine Plan.swap (hc x aE).1 (hc x aE).2 ?_;have hc':∀y∈l1,y.apart ops o=true∧zci K y o=true:=fun y hy=>hc y (aB _ hy);obtain⟨hd,h⟩:=h;refine⟨hd,?_⟩;rcases h with ⟨h1,v,h2,h3⟩|⟨h1,h3⟩|⟨h0,h1,v,h2,h3⟩|⟨h0,h1,R,h2,h3⟩|⟨h0,h1,v,hb,h2,h3⟩|⟨h0,h1,hE,v,hb,h2,h3⟩
  ·exact .inl ⟨h1,v,h2,Plan.first hc' h3⟩
  ·exact .inr (.inl ⟨h1,Plan.first hc' h3⟩)
  ·exact .inr (.inr (.inl ⟨h0,h1,v,h2,Plan.first hc' h3⟩))
  ·exact .inr (.inr (.inr (.inl ⟨h0,h1,R,h2,fun v H' hR=>Plan.first hc' (h3 v H' hR)⟩)))
  ·exact .inr (.inr (.inr (.inr (.inl ⟨h0,h1,v,hb,h2,Plan.first hc' h3⟩))))
  ·exact .inr (.inr (.inr (.inr (.inr ⟨h0,h1,hE,v,hb,h2,Plan.first hc' h3⟩))))
end
theorem zeg{K:Oper→Nat}{ops:List Oper}(h:chk K ops=true):∀(i:Nat) (o:Oper),ops[i]?=some o→(∀e∈o.after.toList,Region.binds .any e=true→e.on<i)∧
  ∀(j:Nat) (x:Oper),j<i→ops[j]?=some x→((anc ops).getD i 0).testBit j=true∨(x.apart ops.toArray o=true∧zci K x o=true):=by
 simp only[chk,aO,cE] at h;intro i o ho;have h1:=h.2 (o,i) (List.mem_zipIdx_iff_getElem?.2 ho);refine⟨fun e he hb=>?_,fun j x hj hx=>?_⟩
 ·have:=h1.1 e he
  rw[hb] at this;simpa [cI] using this
 ·have h2:=h1.2 (x,j) (List.mem_zipIdx_iff_getElem?.2 (by simp only;rw[List.getElem?_take,af hj];exact hx))
  rw[bp,aO] at h2;exact h2
theorem Plan.any{P:Program}{N:NN}{L:Lay}{K:Oper→Nat}{bv:Nat→A}{B:Heap}{ops:List Oper}{Q0:Exit→Env→Heap→Prop}(hL:zaq P L)(hc:chk K ops=true):∀(fuel:Nat) (listed:Array Bool) (T:Env) (H:Heap),listed.size=ops.length→
  (∀k o,ops[k]?=some o→listed.getD k false=true→∀e∈o.after.toList,Region.binds .any e=true→listed.getD e.on false=true)→(unl listed 0 ops).length≤fuel→Plan P N L K bv B ops.toArray (Q0 .normal) (unl listed 0 ops) T H→
  ∀(fr:Nat→Prop) (w:World) (a:Act),Sim fr H w→St N w (own fr H) T a→wpAny P .any ops.toArray (Post N fr H w Q0) fuel listed a w:=by
 intro fuel
 -- nothing is ready only if all is listed
 have done:∀(listed:Array Bool) (T:Env) (H:Heap),listed.size=ops.length→Region.ready .any ops.toArray listed=[]→Plan P N L K bv B ops.toArray (Q0 .normal) (unl listed 0 ops) T H→
   ∀(fr:Nat→Prop) (w:World) (a:Act),Sim fr H w→St N w (own fr H) T a→Post N fr H w Q0 .normal a w:=by
  intro listed T H hs hr hp fr w a s st;have hnil:unl listed 0 ops=[]:=by
   apply cM
   intro hne;obtain⟨i,o,h1,h2,h3⟩:=zfJ hne;rw[aS] at h2;have:i∈Region.ready .any ops.toArray listed:=mem_ready.2 ⟨h2,o,by simpa using h1,fun e he hb=>by
    have hlt:=(zeg hc i o h1).1 e (by simpa using he) hb;have:=h3 e.on hlt;rw[aS] at this;have hi:=(List.getElem?_eq_some_iff.1 h1).1;rw[←zd9 (by omega)];exact this⟩
   rw[hr] at this;cases this
  rw[hnil] at hp;obtain⟨T0,h1,h2⟩:=hp;exact⟨T0,H,h2,s,st.sub h1,Ext.refl H w⟩
 induction fuel with
 |zero=>
  intro listed T H hs hcl hf hp fr w a s st;have hnil:unl listed 0 ops=[]:=bE (by omega);have hr:Region.ready .any ops.toArray listed=[]:=by
   apply cM
   intro hne;obtain⟨i,hi⟩:=dK _ hne;obtain⟨h0,o,ho,_⟩:=mem_ready.1 hi;have ho':ops[i]?=some o:=by simpa using ho
   have hlt:=(List.getElem?_eq_some_iff.1 ho').1;obtain⟨l1,l2,h1,_⟩:=zc7 (k:=0) ho' (by rw[aS];exact h0) (by omega);rw[hnil] at h1;simp at h1
  exact⟨hr,done listed T H hs hr hp fr w a s st⟩
 |succ fuel ih=>
  intro listed T H hs hcl hf hp fr w a s st;refine⟨fun hr=>done listed T H hs hr hp fr w a s st,fun i hi=>?_⟩;obtain⟨h0,o,ho,hedge⟩:=mem_ready.1 hi;have ho':ops[i]?=some o:=by simpa using ho
  have hlt:=(List.getElem?_eq_some_iff.1 ho').1;obtain⟨l1,l2,h1,h2,h3⟩:=zc7 (k:=0) ho' (by rw[aS];exact h0) (by omega);rw[aS] at h2;rw[h1] at hp hf;have hp:=Plan.first (fun x hx=>by
   obtain⟨j,hj,hxj,hjl⟩:=h3 x hx;rw[aS] at hjl;rcases(zeg hc i o ho').2 j x hj hxj with hb|hb
   ·have:=(zj1 ops).2 i j hb listed hcl (fun o2 ho2 e he hb=>by
     rw[ho'] at ho2;cases ho2;exact hedge e (by simpa using he) hb)
    rw[←zd9 (by omega),hjl] at this;cases this
   ·exact hb) hp
  rw[←h2] at hp;have hs':(listed.setIfInBounds i true).size=ops.length:=by simpa using hs
  have hcl':∀k o,ops[k]?=some o→(listed.setIfInBounds i true).getD k false=true→∀e∈o.after.toList,Region.binds .any e=true→(listed.setIfInBounds i true).getD e.on false=true:=by
   intro k o2 ho2 hk e he hb;refine getD_set_true ?_;by_cases hki:k=i
   ·subst hki
    rw[ho'] at ho2;cases ho2;exact hedge e (by simpa using he) hb
   ·rw[getD_set_ne false (d5 hki)] at hk
    exact hcl k o2 ho2 hk e he hb
  have hf':(unl (listed.setIfInBounds i true) 0 ops).length≤fuel:=by
   rw[h2];simp only[aT,aX] at hf ⊢;omega
  have hlook:∀c,za6 ops.toArray (zaj T (o.looksAt ops.toArray)) o=some c→Region.wanted o (yielded ops.toArray a.tmps)=c:=fun c h=>zki (st.sub (zc8 T _)) h;obtain⟨hd,hp⟩:=hp;unfold wpOp;rw[ho];simp only;have next:∀v H' w' v',Sim fr H' w'→St N w' (own fr H') (put o.dst v T) (a.put o.dst v')→Ext H w H' w'→Plan P N L K bv B ops.toArray (Q0 .normal) (unl (listed.setIfInBounds i true) 0 ops) (put o.dst v T) H'→
    wpAny P .any ops.toArray (Post N fr H w Q0) fuel (listed.setIfInBounds i true) (a.put o.dst v') w':=fun v H' w' v' s' st' x hp'=>
   zcc (fun _ _ _=>Post.of_ext x) _ _ _ _ (ih _ _ _ hs' hcl' hf' hp' fr w' _ s' st')
  rcases hp with ⟨w1,v,e1,hp⟩|⟨w1,hp⟩|⟨_,w1,v,e1,hp⟩|⟨_,w1,R,⟨_,e1⟩,hp⟩|⟨_,w1,v,_,e1,hp⟩|⟨_,w1,⟨E,rfl⟩,v,_,e1,hp⟩
  ·rw[hlook _ w1,af I]
   refine .inl (AOp.node (R:=fun r H'=>r=v∧H'=H) (AOp.simpleX hL e1 hd (AOps.nil ⟨v,⟨I,I⟩,I⟩)) hd s st ?_)
   rintro u H' w' v' ⟨rfl,rfl⟩ s' st' x;exact next _ _ w' v' s' st' x hp
  ·rw[hlook _ w1,ac (by simp)]
   exact next _ _ w undef s (st.put hd (Rep.tup_of .nil)) (Ext.refl H w) hp
  ·rw[hlook _ w1,af I]
   refine .inl (AOp.node e1 hd s st ?_)
   rintro u H' w' v' ⟨rfl,rfl⟩ s' st' x;exact next _ _ w' v' s' st' x hp
  ·rw[hlook _ w1,af I]
   refine .inl (AOp.node e1 hd s st ?_)
   intro u H' w' v' hR s' st' x;exact next _ _ w' v' s' st' x (hp u H' hR)
  ·rw[hlook _ w1,af I]
   refine .inl (AOp.node (e1 H) hd s st ?_)
   rintro u H' w' v' ⟨rfl,rfl⟩ s' st' x;exact next _ _ w' v' s' st' x hp
  ·rw[hlook _ w1,af I]
   refine .inl (AOp.node (e1 E) hd s st ?_)
   rintro u H' w' v' ⟨rfl,rfl⟩ s' st' x;exact next _ _ w' v' s' st' x hp
theorem AWp.drawB(B:Heap)(K:Oper→Nat)(bv:Nat→A){P:Program}{N:NN}{L:Lay}{ops:List Oper}{Q:Exit→Env→Heap→Prop}{T:Env}{H:Heap}{id:Nat}(hL:zaq P L)(hm:P.follows .mixedOrders=true)(hc:chk K ops=true)(h:Plan P N L K bv B ops.toArray (Q .normal) ops T H):
  AWp P N (.region id ops.toArray true) Q T H:=by
 refine⟨fun fr w a s st=>wp_region_any hm ?_⟩;have hun:∀(l:List Oper) (k n:Nat),k+l.length≤n→unl (Array.replicate n false) k l=l:=by
  intro l
  induction l with
  |nil=>intros;rfl
  |cons o l ih=>
   intro k n hk;simp only[aX] at hk;simp only[unl];rw[ac (by simp[Array.getD,show k<n by omega]),ih (k+1) n (by omega)]
 have h0:=Plan.any (Q0:=Q) hL hc ops.toArray.size (Array.replicate ops.toArray.size false) T H (by simp) (fun k o _ hk=>by simp[Array.getD] at hk) (by rw[hun _ _ _ (by simp)];simp) (by rw[hun _ _ _ (by simp)];exact h)
  fr w.drew a s.drew (st.mono (Ext.drew H w).stays)
 exact zcc (fun _ _ _=>Post.of_ext (Ext.drew H w)) _ _ _ _ h0
theorem AWp.draw(K:Oper→Nat)(bv:Nat→A){P:Program}{N:NN}{L:Lay}{ops:List Oper}{Q:Exit→Env→Heap→Prop}{T:Env}{H:Heap}{id:Nat}(hL:zaq P L)(hm:P.follows .mixedOrders=true)(hc:chk K ops=true)(h:Plan P N L K bv [] ops.toArray (Q .normal) ops T H):
  AWp P N (.region id ops.toArray true) Q T H:=AWp.drawB [] K bv hL hm hc h
section
variable{P:Program}{N:NN}{L:Lay}{K:Oper→Nat}{bv:Nat→A}{B:Heap}{ops:Array Oper}{Q:Env→Heap→Prop}{o:Oper}{rest:List Oper}{T:Env}{H:Heap}
theorem Plan.nil(h:Q T H):Plan P N L K bv B ops Q [] T H:=⟨T,fun _ _ h=>h,h⟩
theorem Plan.pure{v:A}(hd:zah N o.dst=true)(hw:za6 ops (zaj T (o.looksAt ops)) o=some true)(hv:sOp L (zaj T (o.looksAt ops)) o.op=some v)(k:Plan P N L K bv B ops Q rest (put o.dst v T) H):Plan P N L K bv B ops Q (o::rest) T H:=⟨hd,.inl ⟨hw,v,zlX hv,k⟩⟩
theorem Plan.skip(hd:zah N o.dst=true)(hw:za6 ops (zaj T (o.looksAt ops)) o=some false)(k:Plan P N L K bv B ops Q rest (put o.dst (.tup []) T) H):Plan P N L K bv B ops Q (o::rest) T H:=⟨hd,.inr (.inl ⟨hw,k⟩)⟩
theorem Plan.quiet{v:A}(hd:zah N o.dst=true)(hw:za6 ops (zaj T (o.looksAt ops)) o=some true)(hcl:K o=1∨K o=2)(h:AOp P N [] o [] (Qn o (zaj T (o.looksAt ops)) fun r H'=>r=v∧H'=H) (zaj T (o.looksAt ops)) H)
  (k:Plan P N L K bv B ops Q rest (put o.dst v T) H):Plan P N L K bv B ops Q (o::rest) T H:=⟨hd,.inr (.inr (.inl ⟨hcl,hw,v,h,k⟩))⟩
theorem Plan.eff{R:A→Heap→Prop}(hd:zah N o.dst=true)(hw:za6 ops (zaj T (o.looksAt ops)) o=some true)(hcl:K o=2)(hne:∃v H',R v H')(h:AOp P N [] o [] (Qn o (zaj T (o.looksAt ops)) R) (zaj T (o.looksAt ops)) H)
  (k:∀v H',R v H'→Plan P N L K bv B ops Q rest (put o.dst v T) H'):Plan P N L K bv B ops Q (o::rest) T H:=⟨hd,.inr (.inr (.inr (.inl ⟨.inl hcl,hw,R,⟨⟨hne,fun e=>by omega,fun e=>by omega⟩,h⟩,k⟩)))⟩
theorem Plan.eff1{v:A}{H1:Heap}(hd:zah N o.dst=true)(hw:za6 ops (zaj T (o.looksAt ops)) o=some true)(hcl:K o=2)(h:AOp P N [] o [] (Qn o (zaj T (o.looksAt ops)) fun r H'=>r=v∧H'=H1) (zaj T (o.looksAt ops)) H)
  (k:Plan P N L K bv B ops Q rest (put o.dst v T) H1):Plan P N L K bv B ops Q (o::rest) T H:=Plan.eff hd hw hcl ⟨v,H1,rfl,rfl⟩ h fun _ _ ⟨h1,h2⟩=>by subst h1 h2;exact k
theorem Plan.beside{R:A→Heap→Prop}(hd:zah N o.dst=true)(hw:za6 ops (zaj T (o.looksAt ops)) o=some true)(hcl:K o=4)(hne:∃v F,R v F)(h:AOp P N [] o [] (Qn o (zaj T (o.looksAt ops)) fun v H'=>∃F,R v F∧H'=F++H) (zaj T (o.looksAt ops)) H)
  (k:∀v F,R v F→Plan P N L K bv B ops Q rest (put o.dst v T) (F++H)):Plan P N L K bv B ops Q (o::rest) T H:=⟨hd,.inr (.inr (.inr (.inl ⟨.inr (.inl hcl),hw,_,⟨⟨by obtain⟨v,F,h⟩:=hne;exact⟨v,_,F,h,rfl⟩,fun _ v H' ⟨F,_,e⟩=>⟨F,e⟩,fun e=>by omega⟩,h⟩,fun v H' ⟨F,h1,h2⟩=>by subst h2;exact k v F h1⟩)))⟩
theorem Plan.made{v:A}(hd:zah N o.dst=true)(hw:za6 ops (zaj T (o.looksAt ops)) o=some true)(hcl:K o=3)(hn:sOpX P L (zaj T (o.looksAt ops)) o.op=none)(hb:o.dst.map bv=some v)(h:∀H,AOp P N [] o [] (Qn o (zaj T (o.looksAt ops)) fun r H'=>r=v∧H'=H) (zaj T (o.looksAt ops)) H)
  (k:Plan P N L K bv B ops Q rest (put o.dst v T) H):Plan P N L K bv B ops Q (o::rest) T H:=⟨hd,.inr (.inr (.inr (.inr (.inl ⟨⟨hcl,hn⟩,hw,v,hb,h,k⟩))))⟩
theorem Plan.sure{v:A}{E:Heap}(hd:zah N o.dst=true)(hw:za6 ops (zaj T (o.looksAt ops)) o=some true)(hcl:K o=5)(hn:sOpX P L (zaj T (o.looksAt ops)) o.op=none)(hb:o.dst.map bv=some v)(h:∀E,AOp P N [] o [] (Qn o (zaj T (o.looksAt ops)) fun r H'=>r=v∧H'=B++E) (zaj T (o.looksAt ops)) (B++E))
  (k:Plan P N L K bv B ops Q rest (put o.dst v T) (B++E)):Plan P N L K bv B ops Q (o::rest) T (B++E):=⟨hd,.inr (.inr (.inr (.inr (.inr ⟨⟨hcl,hn⟩,hw,⟨E,I⟩,v,hb,h,k⟩))))⟩
theorem Plan.apart{R:A→Heap→Prop}{E:Heap}(hd:zah N o.dst=true)(hw:za6 ops (zaj T (o.looksAt ops)) o=some true)(hcl:K o=6)(hne:∃v E',R v E')(h:AOp P N [] o [] (Qn o (zaj T (o.looksAt ops)) fun v H'=>∃E',R v E'∧H'=B++E') (zaj T (o.looksAt ops)) (B++E))
  (k:∀v E',R v E'→Plan P N L K bv B ops Q rest (put o.dst v T) (B++E')):Plan P N L K bv B ops Q (o::rest) T (B++E):=⟨hd,.inr (.inr (.inr (.inl ⟨.inr (.inr hcl),hw,_,⟨⟨by obtain⟨v,E',h⟩:=hne;exact⟨v,_,E',h,rfl⟩,fun e=>by omega,fun _=>⟨⟨E,rfl⟩,fun v H' ⟨E',_,e⟩=>⟨E',e⟩⟩⟩,h⟩,fun v H' ⟨E',h1,h2⟩=>by subst h2;exact k v E' h1⟩)))⟩
theorem Qn_n{R:A→Heap→Prop}{v:A}(h:R v H):Qn o T R .normal (put o.dst v T) H:=⟨v,h,I⟩
end
end Go.Abs.Flex4
namespace Go.Abs
open Go
def hvK(o:Oper):Nat:=
 match o.op with
 |.load .. |.lookup .. =>1
 |.store .. |.box .. |.alloc .. |.buildSlice .. |.makeMap .. |.makeSlice .. |.mapUpdate .. =>2
 |.call {callee:=.builtin b,.. }=>match b with
  |.len|.min|.max|.cap=>0
  |_=>2
 |.call .. =>2
 |_=>0
open Go.Lib
def dec(s:List UInt8):Nat×Nat:=Utf8.decode ⟨s.toArray⟩ 0
def bt(s:List UInt8)(i:Nat):Nat:=(s.getD i 0).toNat
theorem zfI(s:List UInt8)(i:Nat):bt s i<256:=(s.getD i 0).toNat_lt
theorem zp0(s:List UInt8)(i:Nat):(ByteArray.mk s.toArray).get! i=s.getD i 0:=by
 show s.toArray[i]! =_
 by_cases h:i<s.length
 ·simp[h]
 ·simp[h];rfl
theorem zpj(s:List UInt8)(p:Nat):Utf8.decode ⟨s.toArray⟩ p=decodeN (s.length - p) (bt s p) (bt s (p+1)) (bt s (p+2)) (bt s (p+3)):=by
 rw[decode_at];simp only[zp0];rfl
theorem zfX(s:List UInt8):dec s=decodeN s.length (bt s 0) (bt s 1) (bt s 2) (bt s 3):=by
 unfold dec;rw[zpj,Nat.sub_zero]
theorem zp7(s:List UInt8)(p i:Nat):bt (s.drop p) i=bt s (p+i):=by
 unfold bt;simp[List.getD_eq_getElem?_getD]
theorem zjy(s:List UInt8)(p:Nat):Utf8.decode ⟨s.toArray⟩ p=dec (s.drop p):=by
 rw[zpj,zfX];simp only[zp7,ba,bG]
theorem zr6(n b0 b1 b2 b3:Nat)(h:0<n):1≤(decodeN n b0 b1 b2 b3).2∧(decodeN n b0 b1 b2 b3).2≤n∧(decodeN n b0 b1 b2 b3).2≤4:=by
 unfold decodeN
 repeat' split
 all_goals (simp only;omega)
theorem zf4{s:List UInt8}(h:s≠[]):1≤(dec s).2∧(dec s).2≤s.length∧(dec s).2≤4:=by
 rw[zfX];exact zr6 _ _ _ _ _ (List.length_pos_iff.2 h)
def isCh(c:Nat):Prop:=c<55296∨(57344≤c∧c≤1114111)
theorem zsf(n b0 b1 b2 b3:Nat):isCh (decodeN n b0 b1 b2 b3).1:=by
 unfold decodeN isCh
 repeat' split
 all_goals (simp only;omega)
theorem znY(s:List UInt8):isCh (dec s).1:=by rw[zfX];exact zsf _ _ _ _ _
def badC(s:List UInt8):Bool:=decide (dec s=(65533,1))
def vld(s:List UInt8):Nat:=
 if h:s=[] then 0 else if badC s=true then 0 else (dec s).2+vld (s.drop (dec s).2)
termination_by s.length
decreasing_by
 have:=zf4 h;simp only[ba];omega
def rns(s:List UInt8):List Nat:=
 if h:s=[] then [] else (dec s).1::rns (s.drop (dec s).2)
termination_by s.length
decreasing_by
 have:=zf4 h;simp only[ba];omega
def rnv(s:List UInt8):List Nat:=
 if h:s=[] then [] else if badC s=true then [] else (dec s).1::rnv (s.drop (dec s).2)
termination_by s.length
decreasing_by
 have:=zf4 h;simp only[ba];omega
def okS(s:List UInt8):Bool:=decide (vld s=s.length)
theorem ziK:vld []=0:=by rw[vld];simp
theorem zfu:rns []=[]:=by rw[rns];simp
theorem zmq:rnv []=[]:=by rw[rnv];simp
theorem zgJ{s:List UInt8}(h:s≠[])(hb:badC s=false):vld s=(dec s).2+vld (s.drop (dec s).2):=by rw[vld,dif_neg h,hb];rfl
theorem zjp{s:List UInt8}(h:s≠[])(hb:badC s=true):vld s=0:=by rw[vld,dif_neg h,hb];rfl
theorem zdW{s:List UInt8}(h:s≠[]):rns s=(dec s).1::rns (s.drop (dec s).2):=by rw[rns,dif_neg h]
theorem zjV{s:List UInt8}(h:s≠[])(hb:badC s=false):rnv s=(dec s).1::rnv (s.drop (dec s).2):=by rw[rnv,dif_neg h,hb];rfl
theorem zqW{s:List UInt8}(h:s≠[])(hb:badC s=true):rnv s=[]:=by rw[rnv,dif_neg h,hb];rfl
theorem zmD(s:List UInt8)(h:okS s=true):rnv s=rns s:=by
 by_cases hs:s=[]
 ·subst hs;rw[zmq,zfu]
 ·by_cases hb:badC s=true
  ·have:=zjp hs hb
   simp only[okS,this,aL] at h;exact absurd (bE h.symm) hs
  ·have hb:badC s=false:=by simpa using hb
   have hw:=zf4 hs;have ho:okS (s.drop (dec s).2)=true:=by
    simp only[okS,aL] at h ⊢;rw[zgJ hs hb] at h;simp only[ba];omega
   rw[zjV hs hb,zdW hs,zmD (s.drop (dec s).2) ho]
termination_by s.length
decreasing_by
 simp only[ba];omega
theorem zja(s:List UInt8):(rns s).length≤s.length:=by
 by_cases hs:s=[]
 ·subst hs;rw[zfu];simp
 ·have hw:=zf4 hs
  have:=zja (s.drop (dec s).2);rw[zdW hs];simp only[ba,aX] at*;omega
termination_by s.length
decreasing_by
 simp only[ba];omega
theorem zpe(s:List UInt8):∀c∈rns s,isCh c:=by
 by_cases hs:s=[]
 ·subst hs;rw[zfu];intro c hc;cases hc
 ·have hw:=zf4 hs
  have:=zpe (s.drop (dec s).2);rw[zdW hs];intro c hc;rcases List.mem_cons.1 hc with rfl|hc
  ·exact znY s
  ·exact this c hc
termination_by s.length
decreasing_by
 simp only[ba];omega
def u8(n:Nat):UInt8:=UInt8.ofNat n
theorem zbR{n:Nat}(h:n<256):(u8 n).toNat=n:=by unfold u8;simp;omega
def enc(c:Nat):List UInt8:=
 if c<128 then [u8 c] else if c<2048 then [u8 (192+c / 64),u8 (128+c%64)] else if c<65536 then [u8 (224+c / 4096),u8 (128+c / 64%64),u8 (128+c%64)]
 else [u8 (240+c / 262144),u8 (128+c / 4096%64),u8 (128+c / 64%64),u8 (128+c%64)]
def txt(l:List Nat):List UInt8:=l.flatMap enc
theorem zkp(c:Nat)(l:List Nat):txt (c::l)=enc c++txt l:=rfl
theorem zma(c:Nat):1≤(enc c).length∧(enc c).length≤4:=by
 unfold enc
 repeat' split
 all_goals simp
theorem zpk(c:Nat):enc c≠[]:=fun h=>by have:=zma c;rw[h] at this;simp at this
theorem zfj(b:UInt8)(l:List UInt8):bt (b::l) 0=b.toNat:=by simp[bt]
theorem zpG(a b:UInt8)(l:List UInt8):bt (a::b::l) 1=b.toNat:=rfl
theorem zpT(a b c:UInt8)(l:List UInt8):bt (a::b::c::l) 2=c.toNat:=rfl
theorem zqk(a b c d:UInt8)(l:List UInt8):bt (a::b::c::d::l) 3=d.toNat:=rfl
theorem ziZ{c:Nat}(h:isCh c)(t:List UInt8):dec (enc c++t)=(c,(enc c).length):=by
 unfold isCh at h;rw[zfX];unfold enc;split
 ·simp only[az,b7,zfj,bc]
  rw[zbR (by omega)];unfold decodeN;rw[af (by omega)]
 split
 ·simp only[az,b7,zfj,zpG,zpT,zqk,aX,br]
  rw[zbR (by omega),zbR (by omega)];unfold decodeN
  repeat' split
  all_goals first|(exfalso;omega)|(apply Prod.ext<;>simp only<;>omega)
 split
 ·simp only[az,b7,zfj,zpG,zpT,zqk,aX,br]
  rw[zbR (by omega),zbR (by omega),zbR (by omega)];unfold decodeN
  repeat' split
  all_goals first|(exfalso;omega)|(apply Prod.ext<;>simp only<;>omega)
 ·simp only[az,b7,zfj,zpG,zpT,zqk,aX,br]
  rw[zbR (by omega),zbR (by omega),zbR (by omega),zbR (by omega)];unfold decodeN
  repeat' split
  all_goals first|(exfalso;omega)|(apply Prod.ext<;>simp only<;>omega)
theorem znO{c:Nat}(h:isCh c)(t:List UInt8):badC (enc c++t)=false:=by
 unfold badC;rw[ziZ h];simp only[b5,aV,not_and];intro hc;subst hc;decide
theorem zps{a b:List UInt8}(h:a≠[]):a++b≠[]:=by simp[h]
theorem zdQ:∀(l:List Nat),(∀c∈l,isCh c)→rns (txt l)=l
 |[],_=>zfu
 |c::l,h=>by
  have hc:=h c aE;rw[zkp,zdW (zps (zpk c)),ziZ hc,List.drop_left,zdQ l fun d hd=>h d (aB _ hd)]
theorem ziP:∀(l:List Nat),(∀c∈l,isCh c)→vld (txt l)=(txt l).length
 |[],_=>ziK
 |c::l,h=>by
  have hc:=h c aE;rw[zkp,zgJ (zps (zpk c)) (znO hc _),ziZ hc,List.drop_left,ziP l fun d hd=>h d (aB _ hd),aT]
section
variable{P:Program}{N:NN}{Q:Exit→Env→Heap→Prop}{T:Env}{H:Heap}{ops rest:List Oper}{L:Lay}{dst:Option Nat}{ty:TypeId}{pos:String}{after:Array Edge}{guard:Option (Nat×Bool)}
theorem AOp.eqNilDs{xt yt:TypeId}{x:Operand}{l:List (List A)}{ti:TI}{e:TypeId}(hL:zaq P L)(hx:ev T x=some (.ds l))(ht:lay L xt=some ti)(htd:ti.td=.slice e)(hd:zah N dst=true)
  (kk:∀b,(b=true→l=[])→AOps P N ops rest Q (put dst (.bool b) T) H):
  AOp P N ops ⟨dst,.binOp .eql xt x (.const (.slice none 0 0)) yt,ty,pos,after,guard⟩ rest Q T H:=by
 refine AOp.sem (R:=fun v H'=>∃b,(b=true→l=[])∧v=.bool b∧H'=H) (fun fr w act s st=>?_) hd ?_
 ·have hu:=zag st hx
  obtain⟨b,hv1,hv2,hv3⟩:∃b,(Op.equal xt (act.eval x) (.slice none 0 0)).run P w=.ok b w∧(b=true→l=[])∧refV (act.eval x)=true:=by
   rw[zcA]
   generalize act.eval x=u at hu
   cases hu with
   |ds elems a cap sz vs hcap hmax hsz hc h=>exact⟨_,zep w 9999 xt e (some a) _ _ (zaW (hL _ _ ht) htd),fun hh=>by simp at hh,rfl⟩
   |ds0=>exact⟨_,zep w 9999 xt e none _ _ (zaW (hL _ _ ht) htd),fun _=>rfl,rfl⟩
  refine⟨w,.bool b,.bool b,H,.inl ?_,⟨_,hv2,I,I⟩,s,.bool _,Ext.refl H w⟩;have e0:act.eval (.const (.slice none 0 0))=.slice none 0 0:=rfl;simp only[execOp,zdf hv3,Sem.run_bind,Sem.run_pure,Result.andThen_ok,e0,zb5 hv3 (show refV (.slice none 0 0)=true from rfl),hv1]
 ·rintro v' K ⟨b,hb,rfl,rfl⟩
  exact kk b hb
end
section
variable{P:Program}{N:NN}{T:Env}{H:Heap}
structure StD(n:Nat)(w:World)(o:Nat→Prop)(T:Env)(D:Option (FuncId×List A))(a:Act):Prop where
 size:a.tmps.size=n
 at_:∀t x,get T t=some x→∃v,a.tmps[t]?=some v∧Rep w o x v
 none:D=none→a.defers=[]
 some:∀f as,D=some (f,as)→∃cap args:Array Value,a.defers=[{target:=.fn (.func f) cap,args:=args}]∧RepL w o as (args.toList++cap.toList)
structure DWp(P:Program)(n:Nat)(c:Code)(Q:Option (FuncId×List A)→Exit→Env→Heap→Prop)(T:Env)(H:Heap):Prop where
 out:∀(fr:Nat→Prop) (w:World) (a:Act),Sim fr H w→St ⟨n,[],[]⟩ w (own fr H) T a→c.wp P (fun e a' w'=>∃D T' H',Q D e T' H'∧Sim fr H' w'∧StD n w' (own fr H') T' D a'∧Ext H w H' w') a w
variable{n:Nat}{Q:Option (FuncId×List A)→Exit→Env→Heap→Prop}
theorem St.toD{w:World}{o:Nat→Prop}{a:Act}(h:St ⟨n,[],[]⟩ w o T a):StD n w o T .none a:=⟨h.size,h.at_,fun _=>h.defers,fun f as e=>by cases e⟩
def seqD(P:Program)(n:Nat)(y:Code)(Q:Option (FuncId×List A)→Exit→Env→Heap→Prop):Exit→Env→Heap→Prop
 |.normal,T,H=>DWp P n y Q T H
 |e,T,H=>Q .none e T H
theorem DWp.seq{x y:Code}(h:AWp P ⟨n,[],[]⟩ x (seqD P n y Q) T H):DWp P n (.seq x y) Q T H:=by
 refine⟨fun fr w a s st=>wp_seq (wp_mono (h.out fr w a s st) ?_)⟩;rintro e a' w' ⟨T',H',q,s',st',x'⟩;cases e with
 |normal=>
  refine wp_mono (q.out fr w' a' s' st') ?_;rintro e a2 w2 ⟨D,T2,H2,q2,s2,st2,x2⟩;exact⟨D,T2,H2,q2,s2,st2,x'.trans x2⟩
 |_=>exact⟨.none,T',H',q,s',st'.toD,x'⟩
theorem DWp.defer{y:Code}{id t f:Nat}{caps:List Operand}{ats:Array TypeId}{ty ty':TypeId}{pos pos':String}{after after':Array Edge}{cs:List A}(hc:evs T caps=some cs)(hd:Nat.blt t n=true)
  (k:∀d,AWp P ⟨n,[d],[]⟩ y (fun e T H=>Q (some (f,cs)) e T H) ((t,.fn f [] cs)::T) H):
  DWp P n (.seq (.region id #[{dst:=some t,op:=.makeFunc (.func f) #[] caps.toArray,type:=ty,pos:=pos,after:=after,guard:=.none},{dst:=.none,op:=.defer {callee:=.value (.tmp t),args:=#[],argTypes:=ats},type:=ty',pos:=pos',after:=after',guard:=.none}] false) y) Q T H:=by
 refine⟨fun fr w a s st=>wp_seq ?_⟩;refine wp_region_lit (l:=[_,_]) ?_;have hr:=zeA st hc;have hlt:t<a.tmps.size:=by rw[st.size];simpa [cI] using hd
 have hfv:Rep w (own fr H) (.fn f [] cs) (.func (.func f) #[] (caps.map a.eval).toArray):=Rep.fn_of (us:=[]) .nil hr;unfold wpList;rw[af (by simp[Region.wanted])]
 left
 unfold Oper.wp execOp;simp only[Instr.makeFunc,Sem.run_bind,Sem.run_pure,Result.andThen_ok,Oper.upon_value,bq,bk];unfold wpList;rw[af (by simp[Region.wanted])]
 left
 have hev:(a.put (some t) (.func (.func f) #[] (caps.map a.eval).toArray)).eval (.tmp t)=.func (.func f) #[] (caps.map a.eval).toArray:=by
  simp[Act.put,Act.eval,Array.getD,hlt]
 unfold Oper.wp execOp;simp only[resolve,hev,Deferred.ofValue,Sem.run_bind,Sem.run_pure,Result.andThen_ok,Oper.upon_defer];unfold wpList
 generalize hd1:({target:=.fn (.func f) (caps.map a.eval).toArray,args:=#[]++#[]}:Deferred)=d
 have hd2:({target:=.fn (.func f) (caps.map a.eval).toArray,args:=#[]++Array.map (a.put (some t) (.func (.func f) #[] (caps.map a.eval).toArray)).eval #[]}:Deferred)=d:=by rw[←hd1];simp
 rw[hd2];have hst1:=st.put (d:=some t) (x:=.fn f [] cs) (by simpa [zah] using hd) hfv;have hst:St ⟨n,[d],[]⟩ w (own fr H) ((t,.fn f [] cs)::T) (({(a.put (some t) (.func (.func f) #[] (caps.map a.eval).toArray)) with defers:=d::(a.put (some t) (.func (.func f) #[] (caps.map a.eval).toArray)).defers}:Act).put .none undef):=by
  refine⟨?_,?_,GOk.nil,?_⟩
  ·simpa [Act.put] using hst1.size
  ·have:=hst1.defers
   simp only[Act.put] at this ⊢;rw[this]
  ·intro u x hx
   obtain⟨v,h1,h2⟩:=hst1.at_ u x hx;exact⟨v,by simpa [Act.put] using h1,h2⟩
 refine wp_mono ((k d).out fr w _ s hst) ?_;rintro e a' w' ⟨T',H',q,s',st',x'⟩;refine⟨_,T',H',q,s',⟨st'.size,st'.at_,(fun e=>by cases e),fun f2 as e=>?_⟩,x'⟩
 cases e;refine⟨_,_,by rw[st'.defers,←hd1],?_⟩
 have:=hr.mono x'.stays;simpa using this
structure TrD(P:Program)(f:FuncId)(args:List A)(H:Heap)(u:FrameMode)(R:FrameMode→Heap→Prop):Prop where
 can:zcq P f
 run:∀(fr:Nat→Prop) (w:World) (vs:List Value),Sim fr H w→RepL w (own fr H) args vs→
  CallsD P f vs.toArray u w fun e u' w'=>∃v H',e=.returned v∧R u' H'∧Sim fr H' w'∧Ext H w H' w'
def zr4(P:Program)(fn:Func)(n:Nat)(R:Fin→Heap→Prop):Option (FuncId×List A)→Exit→Env→Heap→Prop
 |.none,e,T,H=>zrl P fn ⟨n,[],[]⟩ R e T H
 |some (f,as),.ret,T,H|some (f,as),.normal,T,H=>∃R',TrD P f as H .returning R'∧∀u' H',R' u' H'→settle u'=.returning∧∃r,zac P fn ⟨n,[],[]⟩ T H' r∧R (.ret r) H'
 |some (f,as),.panic ch,T,H=>∃R',TrD P f as H (.panicking ch) R'∧∀u' H',R' u' H'→settle u'=.returning∧∃r,zac P fn ⟨n,[],[]⟩ T H' r∧R (.ret r) H'
 |some _,_,_,_=>False
theorem TrF.of_bodyD {f : FuncId} {fn : Func} {c : Code} {args : List A} {R : Fin → Heap → Prop} (hf : P.funcs[f]? = some fn) (hb : fn.body = some c) (hn : (fn.name == "runtime.NumGoroutine") = false)
  (hN:args.length+(fn.ntmps - args.length)=n) (h:DWp P n c (zr4 P fn n R) (zc9 0 args) H):TrF P f args H R:=by
 refine⟨⟨fn,hf,by simp[hb],hn⟩,fun fr w vs s as=>?_⟩
 refine calls_of_wp_defers hf hb (wp_mono (h.out fr w _ s (zjj hN as)) ?_)
 rintro e a w' ⟨D,T',H',q,s',st',x'⟩;have hdef:∀{u:FrameMode} {R':FrameMode→Heap→Prop} {g:FuncId} {as:List A},u≠ .run→D=some (g,as)→TrD P g as H' u R'→(∀u' H'',R' u' H''→settle u'=.returning∧∃r,zac P fn ⟨n,[],[]⟩ T' H'' r∧R (.ret r) H'')→
   Leaves P fn a.tmps (fun e w'=>∃x H',R x H'∧zrY w' (own fr H') x e∧Sim fr H' w'∧Ext H w H' w') a.defers u w':=by
  intro u R' g as hu hD ht hR;obtain⟨cap,dargs,hde,hrep⟩:=st'.some g as hD;rw[hde];refine leaves_cons (f:=g) (args:=dargs++cap) hu ?_ ?_
  ·simp only[invoke,zc5 ht.can]
  ·have:=ht.run fr w' _ s' hrep
   have e2:(dargs.toList++cap.toList).toArray=dargs++cap:=by simp
   rw[e2] at this;refine this.mono ?_;rintro e u' w'' ⟨v,H'',rfl,hR',s'',x''⟩;obtain⟨hs,r,hr,hRr⟩:=hR u' H'' hR'
   show Leaves P fn a.tmps _ [] (settle u') w''
   rw[hs];have hst:St ⟨n,[],[]⟩ w'' (own fr H'') T' {a with defers:=[]}:=⟨st'.size,I,GOk.nil,fun t x hx=>let ⟨v,h1,h2⟩:=st'.at_ t x hx;⟨v,h1,h2.mono x''.stays⟩⟩
   obtain⟨v2,h1,h2⟩:=hr fr w'' _ s'' hst;exact⟨v2,h1,.ret r,H'',hRr,⟨v2,I,h2⟩,s'',x'.trans x''⟩
 have hstn:D=.none→St ⟨n,[],[]⟩ w' (own fr H') T' a:=fun hD=>⟨st'.size,st'.none hD,GOk.nil,st'.at_⟩;cases D with
 |none=>
  have st'':=hstn I;cases e with
  |normal=>
   obtain⟨r,hr,hR⟩:=q;obtain⟨v,h1,h2⟩:=hr fr w' a s' st''
   show Leaves P fn a.tmps _ a.defers .returning w'
   rw[st''.defers];exact⟨v,h1,.ret r,H',hR,⟨v,I,h2⟩,s',x'⟩
  |ret=>
   obtain⟨r,hr,hR⟩:=q;obtain⟨v,h1,h2⟩:=hr fr w' a s' st''
   show Leaves P fn a.tmps _ a.defers .returning w'
   rw[st''.defers];exact⟨v,h1,.ret r,H',hR,⟨v,I,h2⟩,s',x'⟩
  |panic ch=>
   obtain⟨u,rfl,hR⟩:=q
   show Leaves P fn a.tmps _ a.defers _ w'
   rw[st''.defers];exact⟨.pan u,H',hR,I,s',x'⟩
  |_=>exact q.elim
 |some p=>
  obtain⟨g,as⟩:=p;cases e with
  |normal=>obtain⟨R',h1,h2⟩:=q;exact hdef (by simp) I h1 h2
  |ret=>obtain⟨R',h1,h2⟩:=q;exact hdef (by simp) I h1 h2
  |panic ch=>obtain⟨R',h1,h2⟩:=q;exact hdef (by simp) I h1 h2
  |_=>exact q.elim
end
def recU:FrameMode→Option (Value×FrameMode)
 |.panicking ({v,recovered:=false,goexit:=false}::older)=>some (v,.panicking ({v,recovered:=true}::older))
 |_=>none
theorem zk9{c:Frame}{cs:List Frame}{u:FrameMode}(h:c.mode=u):recoverD (c::cs)=(recU u).map fun p=>(p.1,{c with mode:=p.2}::cs):=by
 subst h;unfold recoverD recU;simp only;split
 ·rename_i he;rw[he];rfl
 ·rename_i hne
  split
  ·rename_i he;exact absurd he (hne _ _)
  ·rfl
def zmf(id t t':Nat)(ty ty':TypeId)(pos pos':String)(after after':Array Edge)(ats:Array TypeId)(rest:Code):Code:=
 .seq (.region id #[{dst:=some t,op:=.call {callee:=.builtin .recover,args:=#[],argTypes:=ats},type:=ty,pos:=pos,after:=after,guard:=none},{dst:=some t',op:=.assign (.tmp t),type:=ty',pos:=pos',after:=after',guard:=none}] false) rest
def zsg(P:Program)(fn:Func)(n:Nat)(u':FrameMode)(R:FrameMode→Heap→Prop):Exit→Env→Heap→Prop
 |.ret,T,H|.normal,T,H=>(∃r,zac P fn ⟨n,[],[]⟩ T H r)∧R u' H
 |_,_,_=>False
theorem TrD.of_recover{P:Program}{n f:Nat}{fn:Func}{args:List A}{H:Heap}{u u':FrameMode}{R:FrameMode→Heap→Prop}{id t t':Nat}{ty ty':TypeId}{pos pos':String}{after after':Array Edge}{ats:Array TypeId}{rest:Code}{x:A}
  (hf : P.funcs[f]? = some fn) (hb : fn.body = some (zmf id t t' ty ty' pos pos' after after' ats rest)) (hn : (fn.name == "runtime.NumGoroutine") = false) (hN : args.length + (fn.ntmps - args.length) = n)
  (ht:Nat.blt t n=true) (ht':Nat.blt t' n=true)
  (hx:(∃v,recU u=some (v,u')∧∀w o,Rep w o x v)∨(recU u=none∧u'=u∧x=.nili))
  (h:AWp P ⟨n,[],[]⟩ rest (zsg P fn n u' R) ((t',x)::(t,x)::zc9 0 args) H):TrD P f args H u R:=by
 refine⟨⟨fn,hf,by simp[hb],hn⟩,fun fr w vs s as=>callsD_of_wpS hf hb fun c₀ cs hm=>?_⟩
 have st0:=zjj (fn:=fn) hN as
 generalize ha:({tmps:=vs.toArray++Array.replicate (fn.ntmps - vs.toArray.size) undef,defers:=[]}:Act)=a at st0 ⊢
 unfold zmf;refine wpS_seq (wpS_region ?_)
 obtain⟨v,cs',hrec,hrv,hcs'⟩:∃v cs',(match recoverD (c₀::cs) with|some (v,cs')=>(v,cs')|none=>(.nilIface,c₀::cs))=(v,cs')∧(∀w o,Rep w o x v)∧cs'={c₀ with mode:=u'}::cs:=by
  rw[zk9 hm];rcases hx with ⟨v,h1,h2⟩|⟨h1,h2,h3⟩
  ·rw[h1];exact⟨v,_,I,h2,I⟩
  ·subst h2;subst h3
   rw[h1];refine⟨.nilIface,_,I,fun w o=>.nili,?_⟩;subst hm;rfl
 have hsz:(#[{dst:=some t,op:=.call {callee:=.builtin .recover,args:=#[],argTypes:=ats},type:=ty,pos:=pos,after:=after,guard:=none},{dst:=some t',op:=.assign (.tmp t),type:=ty',pos:=pos',after:=after',guard:=none}]:Array Oper).size=2:=rfl;rw[hsz,show List.range 2=[0,1] from rfl]
 have st1:=st0.put (d:=some t) (x:=x) (by simpa [zah] using ht) (hrv w (own fr H));have hev:(a.put (some t) v).eval (.tmp t)=v:=by
  have hlt:t<a.tmps.size:=by rw[st0.size];simpa [cI] using ht
  simp[Act.put,Act.eval,Array.getD,hlt]
 have st2:=st1.put (d:=some t') (x:=x) (by simpa [zah] using ht') (hrv w (own fr H));have key:∀cs2,cs2=cs'→wpOpsS P #[{dst:=some t,op:=.call {callee:=.builtin .recover,args:=#[],argTypes:=ats},type:=ty,pos:=pos,after:=after,guard:=none},{dst:=some t',op:=.assign (.tmp t),type:=ty',pos:=pos',after:=after',guard:=none}] (Exit.thenS (rest.wpS P (bodyPostS P fn c₀ cs fun e u' w'=>∃v H',e=.returned v∧R u' H'∧Sim fr H' w'∧Ext H w H' w')) (bodyPostS P fn c₀ cs fun e u' w'=>∃v H',e=.returned v∧R u' H'∧Sim fr H' w'∧Ext H w H' w')) [1] (a.put (some t) v) cs2 w:=by
  rintro cs2 rfl;unfold wpOpsS;simp only[List.getElem?_toArray,List.getElem?_cons_succ,List.getElem?_cons_zero];rw[af (by simp[Region.wanted])];simp only[execOp,hev,Sem.run_pure,Oper.upon_value];unfold wpOpsS
  show rest.wpS P _ _ cs2 w
  refine wpS_of_wp (wp_mono (h.out fr w _ s st2) ?_)
  rintro e a' w' ⟨T',H',q,s',st',x'⟩;cases e with
  |normal=>
   obtain⟨⟨r,hr⟩,hR⟩:=q;obtain⟨v2,h1,h2⟩:=hr fr w' a' s' st';exact⟨st'.defers,u',hcs',v2,h1,v2,H',I,hR,s',x'⟩
  |ret=>
   obtain⟨⟨r,hr⟩,hR⟩:=q;obtain⟨v2,h1,h2⟩:=hr fr w' a' s' st';exact⟨st'.defers,u',hcs',v2,h1,v2,H',I,hR,s',x'⟩
  |_=>exact q.elim
 unfold wpOpsS;simp only[List.getElem?_toArray,List.getElem?_cons_zero];rw[af (by simp[Region.wanted])];simp only[execOp,resolve,invoke,builtin,Sem.run_bind,Sem.run_pure,Result.andThen_ok];split
 ·rename_i v' cs2 hrd
  rw[hrd] at hrec;simp only[b5] at hrec;obtain⟨rfl,rfl⟩:=hrec;exact key _ I
 ·rename_i hrd
  rw[hrd] at hrec;simp only[b5] at hrec;obtain⟨rfl,rfl⟩:=hrec;exact key _ I
section
variable{P:Program}{N:NN}{T:Env}{H:Heap}{L:Lay}{ty:TypeId}{pos:String}{after:Array Edge}{guard:Option (Nat×Bool)}
theorem zda(d:Nat)(x y:A)(T:Env):∀t z,get (put (some d) x T) t=some z→get ((d,x)::put (some d) y T) t=some z:=by
 intro t z h;simp only[put,zbc] at h ⊢;by_cases e:d=t
 ·rw[af e] at h ⊢;exact h
 ·rw[ac e] at h ⊢;rw[ac e];exact h
theorem AOp.buildD(d:Nat){t:TypeId}{n e:Nat}{parts:List (Nat×Operand)}{ps:List (Nat×A)}{ti ei:TI}{out:List A}{elems:List (List A)}(hL:zaq P L)(hp:zcl T parts=some ps)(ht:lay L t=some ti)(he:ti.td=.slice e)
  (hei:lay L e=some ei) (ho:zhU ei.size (rep n ei.zero) ps=some out) (hel:zdn ei.size n out=elems) (hsm:Nat.ble (n*ei.size) 16777216=true) (hpos:Nat.ble 1 ei.size=true) (hz:Nat.beq ei.zero.length ei.size=true) (hl:zan out=true) (hd:zah N (some d)=true) (hn:elems.length=n):
  AOp P N [] ⟨some d,.buildSlice t n parts.toArray,ty,pos,after,guard⟩ [] (Qn ⟨some d,.buildSlice t n parts.toArray,ty,pos,after,guard⟩ T fun r H'=>r=.ds elems∧H'=H) T H:=by
 refine AOp.buildSlice hL hp ht he hei ho hel hsm hpos hz hl hd fun r hr=>?_;refine AOps.perm (H':=H++[(r,.row e ei.size elems)]) (aN (l₁:=[_])) ?_;refine AOps.freezeG (t:=d) (g:=some r) (elems:=elems) (pre:=H) (sz:=ei.size) (e:=e) (by rw[hn];simp only[put,zbc,outV,bA]) (fun h=>by cases h) I ?_
 exact AOps.sub (zda d _ _ T) (AOps.nil ⟨_,⟨I,I⟩,I⟩)
theorem AOp.appendD(d:Nat){H0:Heap}{t e:TypeId}{x y:Operand}{g:Option Nat}{elems news:List (List A)}{yv:A}{ti ei:TI}(hL:zaq P L)(hx:ev T x=some (outV ei.size g elems.length))(hg:g=none→elems=[])(hH:H.Perm (H0++outH e ei.size g elems))(hy:ev T y=some yv)(hy':RowOf (H0++outH e ei.size g elems) yv news)
  (ht:lay L t=some ti) (he:ti.td=.slice e) (hei:lay L e=some ei) (hpos:Nat.ble 1 ei.size=true) (hnl:∀c∈news,c.length=ei.size) (hnf:∀c∈news,zan c=true)
  (hb1:elems.length+news.length≤maxLen) (hb2:(elems.length+news.length)*ei.bytes≤140737488355328) (hd:zah N (some d)=true):
  AOp P N [] ⟨some d,.call {callee:=.builtin .append,args:=[x,y].toArray,argTypes:=[t,t].toArray},ty,pos,after,guard⟩ []
   (Qn ⟨some d,.call {callee:=.builtin .append,args:=[x,y].toArray,argTypes:=[t,t].toArray},ty,pos,after,guard⟩ T fun r H'=>r=.ds (elems++news)∧H'=H0) T H:=by
 refine AOp.perm hH ?_;refine AOp.appendG (pre:=H0) hL hx hg I hy hy' ht he hei hpos hnl hnf hb1 hb2 hd fun g' hg'=>?_;refine AOps.freezeG (t:=d) (g:=g') (elems:=elems++news) (pre:=H0) (sz:=ei.size) (e:=e) (by simp only[put,zbc,bA]) hg' I ?_;exact AOps.sub (zda d _ _ T) (AOps.nil ⟨_,⟨I,I⟩,I⟩)
variable{Q:Exit→Env→Heap→Prop}{ops rest:List Oper}
theorem AOp.callMid(Hx Hy:Heap){dst:Option Nat}{callee:Operand}{l:List Operand}{ats:Array TypeId}{f:FuncId}{first cap as:List A}{Hc:Heap}{R:A→Heap→Prop}(hf:ev T callee=some (.fn f first cap))(ha:evs T l=some as)(hd:zah N dst=true)
  (hH:H=Hx++(Hc++Hy)) (ht:TrG N.g P f (first++as++cap) Hc R) (k:∀r H',R r H'→AOps P N ops rest Q (put dst r T) (Hx++(H'++Hy))):
  AOp P N ops ⟨dst,.call {callee:=.value callee,args:=l.toArray,argTypes:=ats},ty,pos,after,guard⟩ rest Q T H:=
 AOp.callG (F:=Hy++Hx) hf ha hd (by rw[hH,←aI (as:=Hc)];exact aN) ht fun r H' h=>AOps.perm (by rw[←aI (as:=H')];exact aN) (k r H' h)
end
section
variable{P:Program}{N:NN}{Q:Exit→Env→Heap→Prop}{T:Env}{H:Heap}{ops rest:List Oper}{L:Lay}{dst:Option Nat}{ty:TypeId}{pos:String}{after:Array Edge}{guard:Option (Nat×Bool)}
theorem AOp.ptrOther{xt yt e:TypeId}{x y:Operand}{r sz i o r' sz' i' o':Nat}{t1 s1 t2 s2:Nat}{e1 e2:List (List A)}{ei:TI}(hL:zaq P L)(hs:P.underlying xt=some (.pointer e))(hei:lay L e=some ei)(hz:Nat.beq ei.size 0=false)(hx:ev T x=some (.ptr r sz i o))(hy:ev T y=some (.ptr r' sz' i' o'))
  (hne:r≠r') (h1:(r,Blk.row t1 s1 e1)∈H) (h2:(r',Blk.row t2 s2 e2)∈H) (hd:zah N dst=true) (kk:AOps P N ops rest Q (put dst (.bool false) T) H):
  AOp P N ops ⟨dst,.binOp .eql xt x y yt,ty,pos,after,guard⟩ rest Q T H:=
 AOp.pure (fun fr w act s st=>by
  have hu:=zag st hx
  generalize h1':act.eval x=u at hu
  have hv:=zag st hy
  generalize h2':act.eval y=v at hv
  cases hu;cases hv;obtain⟨j,z,k1,k2,_⟩:=(hL _ _ hei).info;obtain⟨c1,b1,_⟩:=s.ok _ h1;obtain⟨c2,b2,_⟩:=s.ok _ h2;have hsz:j.size≠0:=by
   intro e0;have:ei.size=0:=by simp_all
   rw[this] at hz;cases hz
  have hq:∀d:Nat,(Op.equalIn (d+1) xt (.pointer (some ⟨r,i*sz+o,none⟩)) (.pointer (some ⟨r',i'*sz'+o',none⟩))).run P w=.ok false w:=fun d=>by
   have:=run_sameAddr_other (P:=P) (w:=w) (a:=⟨r,i*sz+o,none⟩) (b:=⟨r',i'*sz'+o',none⟩) (fun e=>hne (ai Addr.block e)) b1 b2;simp[Op.equalIn,run_underlying hs,sizeOf,typeInfo,k1,hsz,this]
  have hg:∀op,eqGuard op xt x y (.pointer (some ⟨r,i*sz+o,none⟩)) (.pointer (some ⟨r',i'*sz'+o',none⟩))=Pure.pure ():=fun op=>zdf I;have hb1:binOp .eql xt (.pointer (some ⟨r,i*sz+o,none⟩)) (.pointer (some ⟨r',i'*sz'+o',none⟩))=_:=zb5 I I;exact⟨.bool false,by simp only[execOp,h1',h2',Sem.run_bind,hg,Sem.run_pure,Result.andThen_ok,hb1,zcA,hq],.bool _⟩) hd kk
end
section
variable{P:Program}{N:NN}{Q:Exit→Env→Heap→Prop}{T:Env}{H:Heap}{ops rest:List Oper}{L:Lay}{dst:Option Nat}{ty:TypeId}{pos:String}{after:Array Edge}{guard:Option (Nat×Bool)}
theorem AOp.insert{t kt et:TypeId}{x ix y:Operand}{r:Nat}{es es':List (A×A)}{key v:A}{ti ki:TI}{H':Heap}(hL:zaq P L)(hx:ev T x=some (.map r))(hi:ev T ix=some key)(hy:ev T y=some v)
  (ht:lay L t=some ti) (htd:ti.td=.map kt et) (hki:lay L kt=some ki) (hkt:zfR ki.td key=true) (hf:putM es key v=some es') (hat:At H r (.map es) (.map es') H') (hd:zah N dst=true)
  (kk:AOps P N ops rest Q (put dst (.tup []) T) H'):AOp P N ops ⟨dst,.insert t x ix y,ty,pos,after,guard⟩ rest Q T H:=
 AOp.congrOp (o1:=⟨dst,.mapUpdate t x ix y,ty,pos,after,guard⟩) I (fun ev=>zjk ev ⟨dst,.insert t x ix y,ty,pos,after,guard⟩)
  (AOp.mapUpdate hL hx hi hy ht htd hki hkt hf hat hd kk)
end
section
variable{P:Program}{N:NN}{Q:Exit→Env→Heap→Prop}{T:Env}{H:Heap}{ops rest:List Oper}{L:Lay}{dst:Option Nat}{ty:TypeId}{pos:String}{after:Array Edge}{guard:Option (Nat×Bool)}
theorem AOp.unsafeStrF{x y:Operand}{pt it e r:Nat}{s:List UInt8}{Hr:Heap}{ei:TI}(b:Blk)(hb:b=.row e 1 (s.map zaM)∨b=.froz e s)(hL:zaq P L)(hp:P.underlying pt=some (.pointer e))(hei:lay L e=some ei)(he1:Nat.beq ei.size 1=true)
  (hx:ev T x=some (.ptr r 1 0 0)) (hy:ev T y=some (.int .i64 s.length)) (hH:H.Perm ((r,b)::Hr)) (hn0:s≠[]) (hmax:s.length≤maxLen) (hd:zah N dst=true)
  (kk:AOps P N ops rest Q (put dst (.str s) T) ((r,.froz e s)::Hr)):
  AOp P N ops ⟨dst,.call {callee:=.builtin .unsafeString,args:=[x,y].toArray,argTypes:=[pt,it].toArray},ty,pos,after,guard⟩ rest Q T H:=by
 refine AOp.sem (R:=fun v' H'=>v'=.str s∧H'=(r,.froz e s)::Hr) (fun fr w act sm st=>?_) hd (fun v H' h=>by obtain⟨rfl,rfl⟩:=h;exact kk)
 have hu:=zag st hx
 generalize h1:act.eval x=v at hu
 cases hu;have hv:=zag st hy
 generalize h2:act.eval y=v2 at hv
 cases hv;have sm:=sm.perm hH;have hl0:s.length≠0:=fun h=>hn0 (List.length_eq_zero_iff.1 h);have key:∃(c:Array Value) (f:Nat×Nat),w.heap[r]?=some (.cells c e f)∧(f=(0,0)∨f=(0,s.length))∧s.length≤c.size∧∀(j:Nat) (x:UInt8),s[j]?=some x→c[j]?=some (.int .u8 x.toNat):=by
  have hk:=sm.ok _ aE;rcases hb with rfl|rfl
  ·obtain⟨c,g1,g2,g3,g4⟩:=hk
   refine⟨c,(0,0),g1,.inl I,by simpa using g2,fun j x hj=>?_⟩
   obtain⟨hi,he⟩:=List.getElem?_eq_some_iff.1 hj;obtain⟨v,k1,k2,_⟩:=g4 j (by simpa using hi) 0 (by simp[zaM]);simp only[co,he,zaM,bQ] at k2;cases k2;simpa using k1
  ·obtain⟨c,f,g1,gf,g2,g3⟩:=hk
   exact⟨c,f,g1,gf,g2,g3⟩
 obtain⟨c,f,g1,gf,g2,g4⟩:=key;have hnd:=List.nodup_cons.1 (show(r::keys Hr).Nodup from sm.nodup)
 have hcell:∀j x,s[j]?=some x→w.cell? ((⟨r,0,none⟩:Addr).add j)=some (.int .u8 x.toNat):=fun j x hj=>by
  rw[add_plain];simp only[World.cell?,g1];simpa using g4 j x hj
 have hrun:=Lib.run_unsafeString_row (P:=P) w pt it ty e hp (by rw[zaY (hL _ _ hei)];exact bB he1) r c.size (by simp only[World.shape?,g1]) s hn0 g2
  (by unfold maxLen at hmax;omega) hcell
 have hfz:(w.freeze ⟨r,0,none⟩ s.length).heap[r]?=some (.cells c e (0,s.length))∧(∀k,k≠r→(w.freeze ⟨r,0,none⟩ s.length).heap[k]?=w.heap[k]?)∧(w.freeze ⟨r,0,none⟩ s.length).heap.size=w.heap.size:=by
  refine⟨?_,fun k hk=>by simp[World.freeze,hl0,Array.getElem?_modify,d5 hk],by simp[World.freeze,hl0]⟩
  rcases gf with rfl|rfl
  ·simp[World.freeze,hl0,Array.getElem?_modify,g1]
  ·simp[World.freeze,hl0,Array.getElem?_modify,g1,d5 hl0]
 obtain⟨f1,f2,f3⟩:=hfz
 generalize hw:w.freeze ⟨r,0,none⟩ s.length=w' at*
 have hE:Ext H w ((r,.froz e s)::Hr) w':=⟨by rw[←hw];simp[World.freeze,hl0],by rw[←hw];simp[World.freeze,hl0],by rw[←hw];simp[World.freeze,hl0],by omega,fun k _ hk=>f2 k (fun h=>hk (by subst h;exact(hH.map _).mem_iff.2 (aE ..))),fun k hk=>.inl ((hH.map (·.1)).mem_iff.2 (by simpa [keys] using hk)),fun k hk c' T' f' h=>by
  by_cases hkr:k=r
  ·subst hkr;rw[f1] at h;cases h;exact⟨c,_,g1,I⟩
  ·rw[f2 k hkr] at h;exact⟨c',f',h,I⟩⟩
 have hst:=hE.stays (fr:=fr);have hown:own fr ((r,b)::Hr)=own fr ((r,.froz e s)::Hr):=by funext k;simp[own,keys]
 refine⟨w',_,.string ⟨s.toArray⟩,_,.inl ?_,⟨I,I⟩,⟨sm.nodup,sm.apart,fun k hk=>by have:=sm.old k hk;omega,fun p hp=>?_⟩,.str s hmax,hE⟩
 ·simp only[execOp,resolve,invoke,builtin,Sem.run_bind,Sem.run_pure,Result.andThen_ok,bq,aU,bk,h1,h2]
  have h00:(0*1+0:Nat)=0:=rfl;rw[h00];simp only[hrun,Result.andThen_ok]
 ·rcases List.mem_cons.1 hp with rfl|hp
  ·exact⟨c,_,f1,.inr I,g2,g4⟩
  ·exact(sm.ok p (aB _ hp)).mono (by rw[←zaS hH];exact hst) (f2 _ fun h=>hnd.1 (List.mem_map.2 ⟨p,hp,h⟩))
theorem zlg{H H2 H':Heap}{w w':World}(e:Ext H2 w H' w')(h:keys H2=keys H):Ext H w H' w':=
 ⟨e.os,e.tape,e.output,e.size,fun k hk hn=>e.same k hk (h▸hn),fun k hk=>h▸e.keys k hk,e.shape⟩
theorem Sim.froz{fr:Nat→Prop}{r e:Nat}{s:List UInt8}{Hr:Heap}{w:World}(sm:Sim fr ((r,.row e 1 (s.map zaM))::Hr) w):Sim fr ((r,.froz e s)::Hr) w:=by
 refine⟨sm.nodup,sm.apart,sm.old,fun p hp=>?_⟩;rcases List.mem_cons.1 hp with rfl|hp
 ·obtain⟨c,g1,g2,g3,g4⟩:=sm.ok _ aE
  refine⟨c,(0,0),g1,.inl I,by simpa using g2,fun j x hj=>?_⟩
  obtain⟨hi,he⟩:=List.getElem?_eq_some_iff.1 hj;obtain⟨v,k1,k2,_⟩:=g4 j (by simpa using hi) 0 (by simp[zaM]);simp only[co,he,zaM,bQ] at k2;cases k2;simpa using k1
 ·exact sm.ok p (aB _ hp)
theorem AWp.toFroz{c:Code}{r e:Nat}{s:List UInt8}{Hr:Heap}(hp:H.Perm ((r,.row e 1 (s.map zaM))::Hr))(k:AWp P N c Q T ((r,.froz e s)::Hr)):AWp P N c Q T H:=by
 refine AWp.perm hp ⟨fun fr w a sm st=>?_⟩;refine wp_mono (k.out fr w a (Sim.froz sm) st) ?_;rintro e a' w' ⟨T',H'',q,s',st',x'⟩;exact⟨T',H'',q,s',st',zlg x' I⟩
end
section
variable{P:Program}{N:NN}{Q:Exit→Env→Heap→Prop}{T:Env}{H:Heap}{ops rest:List Oper}{L:Lay}{dst:Option Nat}{ty:TypeId}{pos:String}{after:Array Edge}{guard:Option (Nat×Bool)}
theorem zac.cellTmp2{fn:Func}{t ty u q:Nat}{r Te sz i o:Nat}{elems:List (List A)}{e:List A}{ti:TI}{v y z:A}(hL:zaq P L)(h:fn.results=#[.cell t ty,.tmp u,.tmp q])(hx:get T t=some (.ptr r sz i o))(hm:(r,Blk.row Te sz elems)∈H)
  (he:elems[i]?=some e) (ht:lay L ty=some ti) (hv:zbw ti e o=some v) (hy:get T u=some y) (hz:get T q=some z):zac P fn N T H (.tup [v,y,z]):=fun fr w a s st=>by
 have hu:=zaH st hx
 generalize h1:a.tmps.getD t undef=q at hu
 cases hu;obtain⟨vs,h2,h3,_,_⟩:=s.elem hm he;obtain⟨zv,hzv,hr⟩:=zbK (hL _ _ ht) h2 (h3.drop o) hv;rw[add_plain] at hzv;refine⟨.tuple #[zv,a.tmps.getD u undef,a.tmps.getD q undef],?_,Rep.tup_of (.cons hr (.cons (zaH st hy) (.cons (zaH st hz) .nil)))⟩;have h1':a.tmps[t]?.getD undef=.pointer (some {block:=r,off:=i*sz+o}):=by rw[←h1];simp
 simp[results,h,asAddr,h1',hzv]
end
section
variable{P:Program}{N:NN}{Q:Exit→Env→Heap→Prop}{T:Env}{H:Heap}{ops rest:List Oper}{L:Lay}{dst:Option Nat}{ty:TypeId}{pos:String}{after:Array Edge}{guard:Option (Nat×Bool)}
theorem zpo:∀(s:List UInt8) (c:UInt8),-1≤Lib.indexByte s c∧Lib.indexByte s c<s.length∨Lib.indexByte s c=-1
 |[],c=>.inr rfl
 |b::l,c=>by
  have ih:=zpo l c;unfold Lib.indexByte;split
  ·exact .inl ⟨by omega,by simp only[aX];omega⟩
  ·split
   ·exact .inr I
   ·rename_i h
    have h:Lib.indexByte l c≠-1:=by simpa using h
    simp only[aX];omega
theorem AOp.callIxb {callee y z : Operand} {ats : Array TypeId} {f : FuncId} {fn : Func} {s : List UInt8} {c : Int} (hf : ev T callee = some (.fn f [] [])) (hy : ev T y = some (.str s)) (hz : ev T z = some (.int .u8 c)) (hfn : P.funcs[f]? = some fn) (hname : (fn.name == "runtime.NumGoroutine") = false)
  (hb:fn.body.isNone=true) (hn:Extern.findNext fn=none) (he:Extern.find fn=some Extern.BytealgIndexByte.indexByte) (hd:zah N dst=true) (kk:AOps P N ops rest Q (put dst (.int .i64 (Lib.indexByte s c.toNat.toUInt8)) T) H):
  AOp P N ops ⟨dst,.call {callee:=.value callee,args:=[y,z].toArray,argTypes:=ats},ty,pos,after,guard⟩ rest Q T H:=
 AOp.pure (fun fr w act sm st=>by
  obtain⟨fs,cs,e1,e2,e3⟩:=(zag st hf).fn_inv;have e2':fs=#[]:=by have:=e2.length;simpa using this
  have e3':cs=#[]:=by have:=e3.length;simpa using this
  subst e2' e3';have hu:=zag st hy
  generalize h1:act.eval y=u at hu
  cases hu with
  |str _ hm=>
  have hv:=zag st hz
  generalize h2:act.eval z=v at hv
  cases hv;have hin:inR .i64 (Lib.indexByte s c.toNat.toUInt8):=by
   have:=zpo s c.toNat.toUInt8;unfold maxLen at hm;rw[zeP];omega
  have:=run_callFunc_extern hfn hname hb hn he #[.string ⟨s.toArray⟩,.int .u8 c] w;exact⟨.int .i64 (Lib.indexByte s c.toNat.toUInt8),by
   simp only[execOp,resolve,Deferred.ofValue,invoke,Sem.run_bind,Sem.run_pure,Result.andThen_ok,bq,aU,bk,e1,h1,h2];simpa [Lib.run_indexByteString] using this,.int _ _ hin⟩) hd kk
theorem TrG.weak{G:List (Nat×List A)}{f:FuncId}{args:List A}{R:A→Heap→Prop}(h:TrG [] P f args H R):TrG G P f args H R:=
 ⟨h.can,fun fr w vs s _ a=>h.run fr w vs s (fun _ hp=>nomatch hp) a⟩
end
section
variable{P:Program}{N:NN}{T:Env}{H:Heap}{L:Lay}{ty:TypeId}{pos:String}{after:Array Edge}{guard:Option (Nat×Bool)}{Q:Exit→Env→Heap→Prop}{ops rest:List Oper}
theorem AOp.buildF(d:Nat){t:TypeId}{n e:Nat}{parts:List (Nat×Operand)}{ps:List (Nat×A)}{ti ei:TI}{out:List A}{elems:List (List A)}(hL:zaq P L)(hp:zcl T parts=some ps)(ht:lay L t=some ti)(he:ti.td=.slice e)
  (hei:lay L e=some ei) (ho:zhU ei.size (rep n ei.zero) ps=some out) (hel:zdn ei.size n out=elems) (hsm:Nat.ble (n*ei.size) 16777216=true) (hpos:Nat.ble 1 ei.size=true) (hz:Nat.beq ei.zero.length ei.size=true) (hl:zan out=true) (hd:zah N (some d)=true) (hn:Nat.beq elems.length n=true)
  (k:AOps P N ops rest Q (put (some d) (.ds elems) T) H):
  AOp P N ops ⟨some d,.buildSlice t n parts.toArray,ty,pos,after,guard⟩ rest Q T H:=by
 have hn:=bB hn;refine AOp.buildSlice hL hp ht he hei ho hel hsm hpos hz hl hd fun r hr=>?_;refine AOps.perm (H':=H++[(r,.row e ei.size elems)]) (aN (l₁:=[_])) ?_;refine AOps.freezeG (t:=d) (g:=some r) (elems:=elems) (pre:=H) (sz:=ei.size) (e:=e) (by rw[hn];simp only[put,zbc,outV,bA]) (fun h=>by cases h) I ?_
 exact AOps.sub (zda d _ _ T) k
end
theorem Sub.tup{xs ys:List A}(h:SubL xs ys):Sub (.tup xs) (.tup ys):=fun w o v hr=>by
 obtain⟨cs,rfl,hl⟩:=hr.tup_inv;have:=Rep.tup_of (h.rep hl);simpa using this
theorem PTrG.subL{G:List (Nat×List A)}{P:Program}{f:FuncId}{args args':List A}{v:A}(h:PTrG G P f args v)(hs:SubL args' args):PTrG G P f args' v:=h.sub fun w o vs a=>hs.rep a
theorem ze9{G H:Heap}{k:Nat}(h:k∈keys H):k∈keys (G++H):=by
 obtain⟨p,hp,rfl⟩:=List.mem_map.1 h;exact List.mem_map.2 ⟨p,List.mem_append.2 (.inr hp),I⟩
theorem Sim.unl{fr:Nat→Prop}{w:World}{H:Heap}:∀(G:Heap),Sim fr (G++H) w→Sim fr H w
 |[],s=>s
 |_::G,s=>Sim.unl G s.drop
section
variable{P:Program}{N:NN}{T:Env}{H:Heap}{L:Lay}
theorem Pl.eqArray{ops:Array Oper}{rest:List Oper}{Q:Env→Heap→Prop}{dst:Option Nat}{bop:BinOp}{xt yt:TypeId}{x y:Operand}{ty:TypeId}{pos:String}{after:Array Edge}{guard:Option (Nat×Bool)}{xs ys:List A}{ti ei:TI}{n e:Nat}{b:Bool}{v:A}(hE:EqG P xt)(hd:zah N dst=true)
  (hw:za6 ops (zaj T ((⟨dst,.binOp bop xt x y yt,ty,pos,after,guard⟩:Oper).looksAt ops)) ⟨dst,.binOp bop xt x y yt,ty,pos,after,guard⟩=some true)
  (hn:sOp L (zaj T ((⟨dst,.binOp bop xt x y yt,ty,pos,after,guard⟩:Oper).looksAt ops)) (.binOp bop xt x y yt)=none)
  (hx:ev (zaj T ((⟨dst,.binOp bop xt x y yt,ty,pos,after,guard⟩:Oper).looksAt ops)) x=some (.agg xs)) (hy:ev (zaj T ((⟨dst,.binOp bop xt x y yt,ty,pos,after,guard⟩:Oper).looksAt ops)) y=some (.agg ys))
  (ht:lay L xt=some ti) (htd:ti.td=.array n e) (hei:lay L e=some ei) (hb:zbb L (znI n e ei.size) xs ys=some b) (h:(match (generalizing:=false) bop with|.eql=>some (A.bool b)|.neq=>some (A.bool !b)|_=>none)=some v) (k:Pl P N L ops Q rest (put dst v T) H):Pl P N L ops Q (⟨dst,.binOp bop xt x y yt,ty,pos,after,guard⟩::rest) T H:=⟨Plan.pureX hd hw (zn0 hE hn hx hy ht htd hei hb h) k.out⟩
end
end Go.Abs

