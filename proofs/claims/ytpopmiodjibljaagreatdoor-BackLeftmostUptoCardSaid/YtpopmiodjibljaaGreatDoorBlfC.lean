/- A part of the proof: a layer of abstract values over the kit's walks, an evaluator over it, and walks of functions. -/
import Derived.Laws.BytesArg
import Derived.Lib.Bytealg
import Derived.Lib.ReflectliteSwap
import Derived.Lib.IndexAny
import Derived.Test.YtpopmiodjibljaaGreatDoorBlfB
set_option linter.unusedVariables false
set_option linter.unusedSimpArgs false

namespace Go.Abs
open Go
structure TrG (G:List (Nat×List A)) (P:Program) (f:FuncId) (args:List A) (H:Heap) (R:A→Heap→Prop):Prop where
 can:zcF P f
 run:∀(fr:Nat→Prop) (w:World) (vs:List Value),Sim fr H w→GOk G w (own fr H)→RepL w (own fr H) args vs→
  Calls P f vs.toArray w fun e w'=>∃r H' v,e=.returned v∧R r H'∧Sim fr H' w'∧Rep w' (own fr H') r v∧Ext H w H' w'
section
variable {G:List (Nat×List A)} {P:Program} {f:FuncId} {args:List A} {H:Heap} {R:A→Heap→Prop}
theorem Tr.g (h:Tr P f args H R):TrG G P f args H R:=⟨h.can,fun fr w vs s _ a=>h.run fr w vs s a⟩
theorem TrG.mono {R':A→Heap→Prop} (h:TrG G P f args H R) (hr:∀r H',R r H'→R' r H'):TrG G P f args H R':=
 ⟨h.can,fun fr w vs s g a=>(h.run fr w vs s g a).mono fun _ _ ⟨r,H',v,he,hR,rest⟩=>⟨r,H',v,he,hr _ _ hR,rest⟩⟩
theorem TrG.frame (F:Heap) (h:TrG G P f args H R):TrG G P f args (H++F) fun r H'=>∃H0,R r H0∧H'=H0++F:=by
 refine ⟨h.can,fun fr w vs s g as=>?_⟩;rw [zby] at as g;refine (h.run _ w vs s.split g as).mono ?_;rintro e w' ⟨r,H',v,rfl,hR,s',hr,x⟩;exact ⟨r,H'++F,v,rfl,⟨H',hR,rfl⟩,s.join s' x,by rw [zby];exact hr,x.frame⟩
theorem TrG.of_body {N : Nat} {fn : Func} {c : Code} (hf : P.funcs[f]? = some fn) (hb : fn.body = some c) (hn : (fn.name == "runtime.NumGoroutine") = false)
  (hN:args.length+(fn.ntmps - args.length)=N) (h:AWp P ⟨N,[],G⟩ c (zkX P fn ⟨N,[],G⟩ R) (zbS 0 args) H):TrG G P f args H R:=by
 refine ⟨⟨fn,hf,by simp [hb],hn⟩,fun fr w vs s g as=>?_⟩
 have st:=zjs hN as;refine calls_of_wp hf hb (wp_mono (h.out fr w _ s ⟨st.size,st.defers,g,st.at_⟩) ?_)
 rintro e a w' ⟨T',H',q,s',st',x'⟩;cases e with
 |normal=>
  obtain ⟨r,hr,hR⟩:=q;obtain ⟨v,h1,h2⟩:=hr fr w' a s' st';exact ⟨st'.defers,v,h1,r,H',v,rfl,hR,s',h2,x'⟩
 |ret=>
  obtain ⟨r,hr,hR⟩:=q;obtain ⟨v,h1,h2⟩:=hr fr w' a s' st';exact ⟨st'.defers,v,h1,r,H',v,rfl,hR,s',h2,x'⟩
 |_=>exact q.elim
def PTrG (G:List (Nat×List A)) (P:Program) (f:FuncId) (args:List A) (v:A):Prop:=TrG G P f args [] fun r _=>r=v
theorem PTr.g {v:A} (h:PTr P f args v):PTrG G P f args v:=Tr.g h
theorem PTrG.of_body {N : Nat} {fn : Func} {c : Code} {v : A} (hf : P.funcs[f]? = some fn) (hb : fn.body = some c) (hn : (fn.name == "runtime.NumGoroutine") = false)
  (hN:args.length+(fn.ntmps - args.length)=N) (h:AWp P ⟨N,[],G⟩ c (zkX P fn ⟨N,[],G⟩ fun r _=>r=v) (zbS 0 args) []):PTrG G P f args v:=TrG.of_body hf hb hn hN h
variable {N:NN} {Q:Exit→Env→Heap→Prop} {T:Env} {ops rest:List Oper} {dst:Option Nat} {ty:TypeId} {pos:String} {after:Array Edge} {guard:Option (Nat×Bool)}
theorem AOp.callG {callee:Operand} {l:List Operand} {ats:Array TypeId} {first cap as:List A} {Hc F:Heap} (hf:ev T callee=some (.fn f first cap)) (ha:evs T l=some as) (hd:zae N dst=true)
  (hH:H.Perm (Hc++F)) (ht:TrG N.g P f (first++as++cap) Hc R) (k:∀r H',R r H'→AOps P N ops rest Q (put dst r T) (H'++F)):
  AOp P N ops ⟨dst,.call {callee:=.value callee,args:=l.toArray,argTypes:=ats},ty,pos,after,guard⟩ rest Q T H:=by
 refine ⟨fun fr w a s st=>?_⟩;have s1:=s.perm hH;have e1:own fr H=own fr (Hc++F):=zay hH;rw [e1] at st;obtain ⟨fs,cs,hv,r1,r2⟩:=(zad st hf).fn_inv;have r3:=zcG st ha;have hargs:=(r1.append r3).append r2;have hcall:=(ht.frame F).run fr w _ s1 st.glob hargs;unfold Oper.wp execOp;simp only [resolve,Deferred.ofValue,hv,Sem.run_bind,Sem.run_pure,Result.andThen_ok,invoke,zcc ht.can,Oper.upon_enter];have e2:((fs.toList++l.map a.eval)++cs.toList).toArray=fs++l.toArray.map a.eval++cs:=by simp
 rw [e2] at hcall;refine hcall.mono ?_;rintro e w' ⟨r,H',v,rfl,⟨H0,hR,rfl⟩,s',hr,x⟩;have x':Ext H w (H0++F) w':=x.perm hH;exact AOps.ext x' ((k r H0 hR).out fr w' (a.put dst v) s' ((st.mono x.stays).put hd hr))
theorem AOp.callPG {callee:Operand} {l:List Operand} {ats:Array TypeId} {first cap as:List A} {v:A} (hf:ev T callee=some (.fn f first cap)) (ha:evs T l=some as) (hd:zae N dst=true)
  (ht:PTrG N.g P f (first++as++cap) v) (k:AOps P N ops rest Q (put dst v T) H):
  AOp P N ops ⟨dst,.call {callee:=.value callee,args:=l.toArray,argTypes:=ats},ty,pos,after,guard⟩ rest Q T H:=
 AOp.callG hf ha hd (List.Perm.refl ([]++H)) ht fun r H' h1=>by subst h1;exact AOps.dropL H' k
theorem PTrG.of_below {f:FuncId} {args:List A} {r:A} (hc:zcF P f) (h:∀(w:World) (o:Nat→Prop) (vs:List Value),GOk G w o→RepL w o args vs→∃v,(∀w' o',Rep w' o' r v)∧Calls P f vs.toArray w fun e w'=>e=.returned v∧Go.RowKit.Below w.heap.size w w'):PTrG G P f args r:=by
 refine ⟨hc,fun fr w vs s g a=>?_⟩;obtain ⟨v,hv,hcall⟩:=h w _ vs g a;refine hcall.mono ?_;rintro e w' ⟨rfl,b⟩;have hsame:∀k,k<w.heap.size→w'.heap[k]?=w.heap[k]?:=b.block;exact ⟨r,[],v,rfl,rfl,⟨List.nodup_nil,fun r hr=>(by cases hr),fun k hk=>Nat.lt_of_lt_of_le (s.old k hk) b.size,fun p hp=>(by cases hp)⟩,hv _ _,
  ⟨b.os,b.tape,b.output,b.size,fun k hk _=>hsame k hk,fun k hk=>(by cases hk),fun k hk c T f hh=>⟨c,f,by rw [←hsame k hk];exact hh,rfl⟩⟩⟩
theorem GOk.cell {g:List (Nat×List A)} {w:World} {o:Nat→Prop} (h:GOk g w o) {b:Nat} {cells:List A} (hm:(b,cells)∈g) (j:Nat) (hj:j<cells.length):∃v,w.cell? ⟨b,j,none⟩=some v∧Rep w o cells[j] v:=by
 have hr:=h _ hm;cases hr with
 |dp _ _ vs hc hh=>
  refine ⟨vs j,?_,hh j hj⟩;have:=(hc j hj).2;rw [add_plain] at this;simpa using this
end
inductive Fr where
 |seq (y:Code)
 |block (id:Nat)
inductive Foc where
 |code (c:Code)
 |ops (all rest:List Oper)
 |pl (ops:Array Oper) (rest:List Oper)
 |ex (e:Exit)
def kQ (P:Program) (N:NN):List Fr→(Exit→Env→Heap→Prop)→Exit→Env→Heap→Prop
 |[],Q=>Q
 |.seq y::k,Q=>seqQ (AWp P N y (kQ P N k Q)) (kQ P N k Q)
 |.block id::k,Q=>zeJ id (kQ P N k Q)
def ACd (P:Program) (N:NN) (L:Lay) (f:Foc) (k:List Fr) (Q:Exit→Env→Heap→Prop) (T:Env) (H:Heap):Prop:=
 match f with
 |.code c=>AWp P N c (kQ P N k Q) T H
 |.ops all rest=>AOps P N all rest (kQ P N k Q) T H
 |.pl ops rest=>Pl P N L ops (kQ P N k Q .normal) rest T H
 |.ex e=>kQ P N k Q e T H
structure AC (P:Program) (N:NN) (L:Lay) (f:Foc) (k:List Fr) (Q:Exit→Env→Heap→Prop) (T:Env) (H:Heap):Prop where
 out:ACd P N L f k Q T H
abbrev Pos:=Foc×List Fr×Env
noncomputable def stOp (L:Lay) (all rest:List Oper) (o:Oper) (k:List Fr) (T:Env):Option Pos:=
 match sOp L T o.op with
 |some v=>some (.ops all rest,k,put o.dst v T)
 |none=>none
noncomputable def zpN (L:Lay) (all rest:List Oper) (o:Oper) (k:List Fr) (T:Env):Option Pos:=
 match o.guard with
 |none=>stOp L all rest o k T
 |some (j,b)=>match (all[j]?).bind (·.dst) with
  |some d=>match get T d with
   |some (.bool b')=>match Bool.xor b b' with
    |true=>some (.ops all rest,k,put o.dst (.tup []) T)
    |false=>stOp L all rest o k T
   |some (.tup _)=>some (.ops all rest,k,put o.dst (.tup []) T)
   |_=>none
  |none=>none
noncomputable def stPl (L:Lay) (ops:Array Oper) (rest:List Oper) (o:Oper) (k:List Fr) (T:Env):Option Pos:=
 match zas ops (restr T (o.looksAt ops)) o with
 |some true=>match sOp L (restr T (o.looksAt ops)) o.op with
  |some v=>some (.pl ops rest,k,put o.dst v T)
  |none=>none
 |some false=>some (.pl ops rest,k,put o.dst (.tup []) T)
 |none=>none
def stEx (e:Exit):List Fr→Env→Option Pos
 |.seq y::k,T=>match e with
  |.normal=>some (.code y,k,T)
  |_=>some (.ex e,k,T)
 |.block id::k,T=>match e with
  |.exit id'=>match Nat.beq id' id with
   |true=>some (.ex .normal,k,T)
   |false=>some (.ex (.exit id'),k,T)
  |_=>some (.ex e,k,T)
 |[],_=>none
def zlX (bl:Bool) (c:Code) (k:List Fr) (T:Env):Option Pos:=
 match c with
 |.seq x y=>some (.code x,.seq y::k,T)
 |.region _ ops d=>match d with
  |false=>some (.ops ops.toList ops.toList,k,T)
  |true=>none
 |.skip=>some (.ex .normal,k,T)
 |.exit id=>some (.ex (.exit id),k,T)
 |.ret=>some (.ex .ret,k,T)
 |.block id c=>match bl with
  |true=>some (.code c,.block id::k,T)
  |false=>none
 |.cond c x y=>match ev T c with
  |some (.bool b)=>match b with
   |true=>some (.code x,k,T)
   |false=>some (.code y,k,T)
  |_=>none
 |_=>none
noncomputable def st1 (L:Lay) (N:NN) (bl:Bool) (f:Foc) (k:List Fr) (T:Env):Option Pos:=
 match f with
 |.code c=>zlX bl c k T
 |.ops all l=>match l with
  |[]=>some (.ex .normal,k,T)
  |o::rest=>match zae N o.dst with
   |true=>zpN L all rest o k T
   |false=>none
 |.pl ops l=>match l with
  |[]=>some (.ex .normal,k,T)
  |o::rest=>match zae N o.dst with
   |true=>stPl L ops rest o k T
   |false=>none
 |.ex e=>stEx e k T
noncomputable def stN (L:Lay) (N:NN) (bl:Bool):Nat→Foc→List Fr→Env→Option Pos
 |0,f,k,T=>some (f,k,T)
 |n+1,f,k,T=>match st1 L N bl f k T with
  |some (f',k',T')=>stN L N bl n f' k' T'
  |none=>none
section
variable {P:Program} {N:NN} {L:Lay} {Q:Exit→Env→Heap→Prop} {H:Heap}
theorem zl0 (hL:zag P L) {all rest:List Oper} {o:Oper} {k k':List Fr} {f':Foc} {T T':Env} (hd:zae N o.dst=true) (h:stOp L all rest o k T=some (f',k',T')) (c:ACd P N L f' k' Q T' H):AOp P N all o rest (kQ P N k Q) T H:=by
 unfold stOp at h;split at h
 ·rename_i v hv
  cases h;exact AOp.simple hL hv hd c
 ·cases h
theorem zn4 (hL:zag P L) {all rest:List Oper} {o:Oper} {k k':List Fr} {f':Foc} {T T':Env} (hd:zae N o.dst=true) (h:zpN L all rest o k T=some (f',k',T')) (c:ACd P N L f' k' Q T' H):AOps P N all (o::rest) (kQ P N k Q) T H:=by
 unfold zpN at h;split at h
 ·rename_i hg
  exact AOps.plain hg (zl0 hL hd h c)
 ·rename_i j b hg
  split at h
  ·rename_i d hj
   split at h
   ·rename_i b' ht
    split at h
    ·rename_i hx
     cases h;exact AOps.unwanted hg hj ht hx hd c
    ·rename_i hx
     have e:b'=b:=by cases b<;>cases b'<;>first|rfl|cases hx
     subst e;exact AOps.wanted hg hj ht hd (zl0 hL hd h c)
   ·rename_i l ht
    cases h;exact AOps.unwantedU hg hj ht hd c
   ·cases h
  ·cases h
theorem zpy {ops:Array Oper} {rest:List Oper} {o:Oper} {k k':List Fr} {f':Foc} {T T':Env} (hd:zae N o.dst=true) (h:stPl L ops rest o k T=some (f',k',T')) (c:ACd P N L f' k' Q T' H):Pl P N L ops (kQ P N k Q .normal) (o::rest) T H:=by
 unfold stPl at h;split at h
 ·rename_i hw
  split at h
  ·rename_i v hv
   cases h;exact ⟨Plan.pure hd hw hv c.out⟩
  ·cases h
 ·rename_i hw
  cases h;exact ⟨Plan.skip hd hw c.out⟩
 ·cases h
theorem zqn {e:Exit} {k k':List Fr} {f':Foc} {T T':Env} (h:stEx e k T=some (f',k',T')) (c:ACd P N L f' k' Q T' H):kQ P N k Q e T H:=by
 unfold stEx at h;split at h
 ·cases e<;>cases h<;>exact c
 ·rename_i id k0 T0
  cases e with
  |exit id'=>
   simp only at h;split at h
   ·rename_i hb
    cases h;exact zj9 hb c
   ·rename_i hb
    cases h;exact zjB hb c
  |_=>cases h;exact c
 ·cases h
theorem zlU {bl:Bool} {x:Code} {k k':List Fr} {f':Foc} {T T':Env} (h:zlX bl x k T=some (f',k',T')) (c:ACd P N L f' k' Q T' H):AWp P N x (kQ P N k Q) T H:=by
 unfold zlX at h;split at h
 ·cases h;exact AWp.seq c
 ·rename_i id ops d
  split at h
  ·cases h
   have:AWp P N (.region id ops.toList.toArray false) (kQ P N k Q) T H:=AWp.region c;simpa using this
  ·cases h
 ·cases h;exact AWp.skip c
 ·cases h;exact AWp.exit c
 ·cases h;exact AWp.ret c
 ·split at h
  ·cases h;exact AWp.block c
  ·cases h
 ·split at h
  ·rename_i b hb
   split at h
   ·cases h;exact AWp.condT hb c
   ·cases h;exact AWp.condF hb c
  ·cases h
 ·cases h
theorem zqT (hL:zag P L) {bl:Bool} {f f':Foc} {k k':List Fr} {T T':Env} (h:st1 L N bl f k T=some (f',k',T')) (c:ACd P N L f' k' Q T' H):ACd P N L f k Q T H:=by
 unfold st1 at h;split at h
 ·exact zlU h c
 ·split at h
  ·cases h;exact AOps.nil c
  ·split at h
   ·rename_i hd
    exact zn4 hL hd h c
   ·cases h
 ·split at h
  ·cases h;exact Pl.nil c
  ·split at h
   ·rename_i hd
    exact zpy hd h c
   ·cases h
 ·exact zqn h c
theorem AC.g (n:Nat) (hL:zag P L) {f f':Foc} {k k':List Fr} {T T':Env} (h:stN L N true n f k T=some (f',k',T')) (c:AC P N L f' k' Q T' H):AC P N L f k Q T H:=by
 induction n generalizing f k T with
 |zero=>cases h;exact c
 |succ n ih=>
  unfold stN at h;split at h
  ·rename_i f1 k1 T1 h1
   exact ⟨zqT hL h1 (ih h).out⟩
  ·cases h
variable {T:Env} {k:List Fr}
theorem AC.nilE {e:Exit} (h:Q e T H):AC P N L (.ex e) [] Q T H:=⟨h⟩
theorem AC.toOps {all rest:List Oper} (h:AOps P N all rest (kQ P N k Q) T H):AC P N L (.ops all rest) k Q T H:=⟨h⟩
theorem AC.toPl {ops:Array Oper} {rest:List Oper} (h:Pl P N L ops (kQ P N k Q .normal) rest T H):AC P N L (.pl ops rest) k Q T H:=⟨h⟩
theorem AC.toCode {c:Code} (h:AWp P N c (kQ P N k Q) T H):AC P N L (.code c) k Q T H:=⟨h⟩
theorem AC.pln {all rest:List Oper} {dst:Option Nat} {op:Op} {ty:TypeId} {pos:String} {after:Array Edge} (h:AOp P N all {dst:=dst,op:=op,type:=ty,pos:=pos,after:=after,guard:=none} rest (kQ P N k Q) T H):AC P N L (.ops all ({dst:=dst,op:=op,type:=ty,pos:=pos,after:=after,guard:=none}::rest)) k Q T H:=⟨AOps.pln h⟩
theorem AC.wtd {all rest:List Oper} {dst:Option Nat} {op:Op} {ty:TypeId} {pos:String} {after:Array Edge} {j d:Nat} {b:Bool} (hdj:(all[j]?).bind (·.dst)=some d) (ht:get T d=some (.bool b)) (hd:zae N dst=true) (h:AOp P N all {dst:=dst,op:=op,type:=ty,pos:=pos,after:=after,guard:=some (j,b)} rest (kQ P N k Q) T H):AC P N L (.ops all ({dst:=dst,op:=op,type:=ty,pos:=pos,after:=after,guard:=some (j,b)}::rest)) k Q T H:=⟨AOps.wtd hdj ht hd h⟩
theorem AC.drawn {ops:List Oper} {id:Nat} (hL:zag P L) (hm:P.follows .mixedOrders=true) (hc:chk ops=true) (h:AC P N L (.pl ops.toArray ops) k Q T H):AC P N L (.code (.region id ops.toArray true)) k Q T H:=⟨AWp.drawn hL hm hc h.out⟩
theorem AC.sim {all rest:List Oper} {dst:Option Nat} {op:Op} {ty:TypeId} {pos:String} {after:Array Edge} {v:A} (hL:zag P L) (h:sOp L T op=some v) (hd:zae N dst=true) (c:AC P N L (.ops all rest) k Q (put dst v T) H):AC P N L (.ops all ({dst:=dst,op:=op,type:=ty,pos:=pos,after:=after,guard:=none}::rest)) k Q T H:=⟨AOps.sim hL h hd c.out⟩
theorem AC.simW {all rest:List Oper} {dst:Option Nat} {op:Op} {ty:TypeId} {pos:String} {after:Array Edge} {v:A} {j d:Nat} {b:Bool} (hL:zag P L) (hdj:(all[j]?).bind (·.dst)=some d) (ht:get T d=some (.bool b)) (h:sOp L T op=some v) (hd:zae N dst=true) (c:AC P N L (.ops all rest) k Q (put dst v T) H):AC P N L (.ops all ({dst:=dst,op:=op,type:=ty,pos:=pos,after:=after,guard:=some (j,b)}::rest)) k Q T H:=⟨AOps.simW hL hdj ht h hd c.out⟩
end
section
variable {P:Program} {N:NN} {Q:Exit→Env→Heap→Prop} {T:Env} {H:Heap} {ops rest:List Oper} {L:Lay} {dst:Option Nat} {ty:TypeId} {pos:String} {after:Array Edge} {guard:Option (Nat×Bool)}
theorem AOp.pushM {α:Type} (f:α→List A) (g:Option Nat) (l:List α) (a:α) (pre:Heap) {t e:TypeId} {x y:Operand} {rb:Nat} {ti ei:TI} (hL:zag P L) (hg:g=none→l=[]) (hx:ev T x=some (outV ei.size g l.length))
  (hH:H=(rb,.row e ei.size [f a])::(pre++outH e ei.size g (l.map f))) (hy:ev T y=some (.os rb ei.size 0 1))
  (ht:lay L t=some ti) (he:ti.td=.slice e) (hei:lay L e=some ei) (hpos:Nat.ble 1 ei.size=true) (hnl:(f a).length=ei.size) (hnf:zah (f a)=true)
  (hb:l.length≤100000000) (hb2:Nat.ble ei.bytes 10000=true) (hd:zae N dst=true)
  (k:∀r',AOps P N ops rest Q (put dst (outV ei.size (some r') (l++[a]).length) T) (pre++outH e ei.size (some r') ((l++[a]).map f))):
  AOp P N ops ⟨dst,.call {callee:=.builtin .append,args:=[x,y].toArray,argTypes:=[t,t].toArray},ty,pos,after,guard⟩ rest Q T H:=by
 have hbb:=Nat.le_of_ble_eq_true hb2;have hm:(l.length+1)*ei.bytes≤140737488355328:=by
  calc (l.length+1)*ei.bytes≤100000001*10000:=Nat.mul_le_mul (by omega) hbb
   _≤140737488355328:=by decide
 refine AOp.appendG (g:=g) (elems:=l.map f) (news:=[f a]) (pre:=(rb,.row e ei.size [f a])::pre) hL (by rw [List.length_map];exact hx) (fun h=>by rw [hg h];rfl) (by rw [hH];rfl) hy (by rw [hH];exact RowOf.os (off:=0) (len:=1) List.mem_cons_self (Nat.le_refl _)) ht he hei hpos
  (fun c hc=>by rw [List.mem_singleton.1 hc];exact hnl) (fun c hc=>by rw [List.mem_singleton.1 hc];exact hnf) (by simp only [List.length_map,List.length_singleton,maxLen];omega) (by simp only [List.length_map,List.length_singleton];exact hm) hd fun g' hg'=>?_
 cases g' with
 |none=>have:=hg' rfl;simp at this
 |some r'=>
  have h:=k r';have e1:(l.map f++[f a]).length=(l++[a]).length:=by simp
  have e2:(l++[a]).map f=l.map f++[f a]:=by simp
  rw [e1,←e2];exact AOps.dropL [_] h
theorem AWp.freezeM {α:Type} {f:α→List A} {g:Option Nat} {l:List α} {pre:Heap} {c:Code} {t e sz:Nat} (ht:get T t=some (outV sz g l.length)) (hH:H=pre++outH e sz g (l.map f)) (hg:g=none→l=[]) (k:AWp P N c Q ((t,.ds (l.map f))::T) pre):AWp P N c Q T H:=
 AWp.freezeG (g:=g) (elems:=l.map f) (by rw [List.length_map];exact ht) (fun h=>by rw [hg h];rfl) hH k
theorem AOps.freezeM {α:Type} {f:α→List A} {g:Option Nat} {l:List α} {pre:Heap} {t e sz:Nat} (ht:get T t=some (outV sz g l.length)) (hH:H=pre++outH e sz g (l.map f)) (hg:g=none→l=[]) (k:AOps P N ops rest Q ((t,.ds (l.map f))::T) pre):AOps P N ops rest Q T H:=
 AOps.freezeG (g:=g) (elems:=l.map f) (by rw [List.length_map];exact ht) (fun h=>by rw [hg h];rfl) hH k
end
section
variable {P:Program} {N:NN} {Q:Exit→Env→Heap→Prop} {T:Env} {H:Heap} {ops rest:List Oper} {L:Lay} {dst:Option Nat} {ty:TypeId} {pos:String} {after:Array Edge} {guard:Option (Nat×Bool)}
end
section
variable {P:Program} {N:NN} {Q:Exit→Env→Heap→Prop} {T:Env} {H:Heap} {ops rest:List Oper} {L:Lay} {dst:Option Nat} {ty:TypeId} {pos:String} {after:Array Edge} {guard:Option (Nat×Bool)}
theorem AOp.pushL {α:Type} (f:α→List A) (g:Option Nat) (l news:List α) (pre:Heap) {t e:TypeId} {x y:Operand} {rb:Nat} {ti ei:TI} (hL:zag P L) (hg:g=none→l=[]) (hx:ev T x=some (outV ei.size g l.length))
  (hH:H=(rb,.row e ei.size (news.map f))::(pre++outH e ei.size g (l.map f))) (hy:ev T y=some (.os rb ei.size 0 news.length)) (hne:news≠[])
  (ht:lay L t=some ti) (he:ti.td=.slice e) (hei:lay L e=some ei) (hpos:Nat.ble 1 ei.size=true) (hnl:∀a∈news,(f a).length=ei.size) (hnf:∀a∈news,zah (f a)=true)
  (hb:l.length+news.length≤100000000) (hb2:Nat.ble ei.bytes 10000=true) (hd:zae N dst=true)
  (k:∀r',r'∉keys pre→AOps P N ops rest Q (put dst (outV ei.size (some r') (l++news).length) T) (pre++outH e ei.size (some r') ((l++news).map f))):
  AOp P N ops ⟨dst,.call {callee:=.builtin .append,args:=[x,y].toArray,argTypes:=[t,t].toArray},ty,pos,after,guard⟩ rest Q T H:=by
 have hbb:=Nat.le_of_ble_eq_true hb2;have hrow:RowOf H (.os rb ei.size 0 news.length) (news.map f):=by
  have:=RowOf.os (H:=H) (r:=rb) (Te:=e) (sz:=ei.size) (off:=0) (len:=news.length) (elems:=news.map f) (by rw [hH];exact List.mem_cons_self) (by simp);rw [List.drop_zero,List.take_of_length_le (by simp)] at this;exact this
 have hnl':∀i (hi:i<(news.map f).length),(news.map f)[i].length=ei.size:=fun i hi=>by
  rw [List.getElem_map];exact hnl _ (List.getElem_mem _)
 have hnf':∀c∈news.map f,zah c=true:=fun c hc=>by
  obtain ⟨a,ha,rfl⟩:=List.mem_map.1 hc;exact hnf a ha
 have hmul:∀n:Nat,n≤100000000→n*ei.bytes≤140737488355328:=fun n hn=>by
  have:=Nat.mul_le_mul hn hbb;omega
 cases g with
 |none=>
  have:=hg rfl;subst this;simp only [outV] at hx;refine AOp.appendNil (news:=news.map f) (Hr:=pre) hL hx hy ht he hei hpos hrow (.inr ⟨_,by rw [hH];simp only [outH,List.append_nil];exact List.Perm.refl _⟩) hnl' hnf' (by simpa using hne) (by rw [List.length_map];unfold maxLen;simp at hb;omega) (by rw [List.length_map];exact hmul _ (by simpa using hb)) hd fun r hr=>?_
  have:=k r hr;simp only [outV,outH,List.nil_append] at this;rw [List.length_map];exact AOps.perm (List.perm_append_comm (l₁:=[_])) this
 |some r=>
  simp only [outV] at hx;simp only [outH] at hH k;refine AOp.append (all:=l.map f) (news:=news.map f) (H1:=(rb,.row e ei.size (news.map f))::pre) (Hr:=pre) hL hx hy ht he hei hpos (by rw [hH,←List.cons_append];exact List.perm_append_comm (l₂:=[_])) (by rw [List.length_map];exact Nat.le_refl _) hrow (.inr ⟨_,List.Perm.refl _⟩) hnl' hnf' (by rw [List.length_map];unfold maxLen;omega) (by rw [List.length_map];exact hmul _ hb) hd fun r' hr'=>?_;have:=k r' hr';simp only [outV,List.length_append,List.map_append] at this;rw [List.length_map,←List.length_map (f:=f) (as:=l),List.take_length];refine AOps.perm (List.perm_append_comm (l₁:=[_])) ?_;rw [List.length_map];exact this
end
section
variable {P:Program} {N:NN} {Q:Env→Heap→Prop} {T:Env} {H:Heap} {ops:Array Oper} {rest:List Oper} {L:Lay} {dst:Option Nat} {ty:TypeId} {pos:String} {after:Array Edge}
end
def extC (same ixb:List Nat):Exts:=fun f xs=>match memN f same,xs with
 |true,[v]=>some v
 |_,_=>match memN f ixb,xs with
  |true,[.str s,.int .u8 c]=>match decide (inR .i64 (Lib.indexByte s c.toNat.toUInt8)) with
   |true=>some (.int .i64 (Lib.indexByte s c.toNat.toUInt8))
   |false=>none
  |_,_=>none
def zjd (P : Program) (f : FuncId) (e : Array Value → Sem Value) : Prop := ∃ fn, P.funcs[f]? = some fn ∧ (fn.name == "runtime.NumGoroutine") = false ∧ fn.body.isNone = true ∧ Extern.findNext fn = none ∧ Extern.find fn = some e
theorem zgR {d:Nat}:∀{l:List Nat},memN d l=true→d∈l
 |[],h=>by cases h
 |x::l,h=>by
  simp only [memN] at h;split at h
  ·rename_i e;rw [Nat.eq_of_beq_eq_true e];exact List.mem_cons_self ..
  ·exact List.mem_cons_of_mem _ (zgR h)
theorem zpR {P:Program} {same ixb:List Nat} (h1:∀f∈same,zjd P f Extern.AbiNoEscape.same) (h2:∀f∈ixb,zjd P f Extern.BytealgIndexByte.indexByte):zc0 P (extC same ixb):=by
 intro f xs v h ρ w o vs hr;unfold extC at h;split at h
 ·rename_i hm
  cases h;obtain ⟨fn,k1,k2,k3,k4,k5⟩:=h1 f (zgR hm);simp only [renL] at hr;cases hr with
  |cons ha ht=>
   cases ht;refine ⟨_,?_,ha⟩;rw [run_callFunc_extern k1 k2 k3 k4 k5];simp [Lib.run_noEscape]
 ·split at h
  ·rename_i hm hne
   split at h
   ·rename_i hin
    have hin:=of_decide_eq_true hin;cases h;obtain ⟨fn,k1,k2,k3,k4,k5⟩:=h2 f (zgR hm);simp only [renL,ren] at hr;cases hr with
    |cons ha ht=>
     cases ht with
     |cons hb ht=>
      cases ht;cases ha;cases hb;refine ⟨_,?_,.int _ _ hin⟩;rw [run_callFunc_extern k1 k2 k3 k4 k5];simp [Lib.run_indexByteString]
   ·cases h
  ·cases h
section
variable {P:Program} {fr:Nat→Prop} {H:Heap} {w:World}
theorem zhK {t:TypeId} {ti:TI} (hL:TIOk P t ti) (s:Sim fr H w) {r Te sz k:Nat} {elems:List (List A)} {e e':List A} {H':Heap} {v:Value} (hat:At H r (.row Te sz elems) (.row Te sz (elems.set k e')) H') (he:elems[k]?=some e)
  (hr:Rep w (own fr H) (.agg e') v) (hl:zah e'=true) (hsz:ti.size=sz) (hle:e'.length=sz):
  ∃w',(storeVar t ⟨r,k*sz,none⟩ v).run P w=.ok () w'∧Sim fr H' w'∧Ext H w H' w':=by
 obtain ⟨_,_,_,hlen⟩:=s.elem hat.mem he;have st:St ⟨2,[],[]⟩ w (own fr H) [(0,.ptr r sz k 0),(1,.agg e')] {tmps:=#[.pointer (some ⟨r,k*sz+0,none⟩),v],defers:=[]}:=by
  refine ⟨rfl,rfl,GOk.nil,fun t x hx=>?_⟩;simp only [get] at hx;split at hx
  ·rename_i h0
   have h0:=Nat.eq_of_beq_eq_true h0;subst h0;cases hx;exact ⟨_,rfl,.ptr ..⟩
  ·split at hx
   ·rename_i h1
    have h1:=Nat.eq_of_beq_eq_true h1;subst h1;cases hx;exact ⟨_,rfl,hr⟩
   ·cases hx
 obtain ⟨w', v1, v', H1, hrun, ⟨rfl, rfl⟩, s', _, x'⟩ := zhP (dst := none) (ty := 0) (pos := "") (after := #[]) (guard := none) (x := .tmp 0) (y := .tmp 1) (v := .agg e') (cells := e') hL rfl rfl rfl (.inr ⟨_, rfl⟩) hl (by rw [hle, hsz]) hat he (by
  unfold zbN;obtain ⟨_,_,_,_,hlen⟩:=s.elem hat.mem he;have hb:Nat.ble (0+e'.length) e.length=true:=Nat.ble_eq_true_of_le (by omega);rw [hb];simp [hlen,hle,List.drop_eq_nil_of_le]) fr w _ s st
 refine ⟨w',?_,s',x'⟩;simp only [execOp,Instr.storeAt,Instr.sureAddr,Act.eval,Sem.run_bind,Sem.run_pure,Result.andThen_ok] at hrun;have e0:(#[Value.pointer (some ⟨r,k*sz,none⟩),v]:Array Value).getD 0 undef=.pointer (some ⟨r,k*sz,none⟩):=rfl;have e1:(#[Value.pointer (some ⟨r,k*sz,none⟩),v]:Array Value).getD 1 undef=v:=rfl;simp only [Nat.add_zero] at hrun;simp only [e0,e1,Sem.run_bind,Sem.run_pure,Result.andThen_ok] at hrun;cases hs:(storeVar t ⟨r,k*sz,none⟩ v).run P w with
 |ok u w1=>
  rw [hs] at hrun;simp only [Result.andThen_ok,Sem.run_pure] at hrun;rcases hrun with hrun|⟨hrun,_⟩
  ·cases hrun
  ·cases hrun;rfl
 |halt h w1=>
  rw [hs] at hrun;rcases hrun with hrun|⟨hrun,_⟩<;>cases hrun
theorem At.uniq {H H1 H2:Heap} {r:Nat} {b b1:Blk} (h1:At H r b b1 H1) (h2:At H r b b1 H2) (hn:(Go.Abs.keys H).Nodup):H1=H2:=by
 induction h1 generalizing H2 with
 |here=>
  cases h2 with
  |here=>rfl
  |there h2=>
   have:=h2.mem;exact absurd (List.mem_map.2 ⟨_,this,rfl⟩) (List.nodup_cons.1 hn).1
 |there h1 ih=>
  cases h2 with
  |here=>exact absurd (List.mem_map.2 ⟨_,h1.mem,rfl⟩) (List.nodup_cons.1 hn).1
  |there h2=>rw [ih h2 (List.nodup_cons.1 hn).2]
theorem At.trans {H H1 H2:Heap} {r:Nat} {b b1 b2:Blk} (h1:At H r b b1 H1) (h2:At H1 r b1 b2 H2) (hn:(Go.Abs.keys H).Nodup):At H r b b2 H2:=by
 induction h1 generalizing H2 with
 |here=>
  cases h2 with
  |here=>exact .here
  |there h2=>exact absurd (List.mem_map.2 ⟨_,h2.mem,rfl⟩) (List.nodup_cons.1 hn).1
 |there h1 ih=>
  cases h2 with
  |here=>
   have hk:=h1.keys;exact absurd (List.mem_map.2 ⟨_,h1.mem,rfl⟩) (List.nodup_cons.1 hn).1
  |there h2=>exact .there (ih h2 (List.nodup_cons.1 hn).2)
theorem At.some' {H H1:Heap} {r:Nat} {b b1:Blk} (b2:Blk) (h:At H r b b1 H1):∃K,At H r b b2 K:=by
 induction h with
 |here=>exact ⟨_,.here⟩
 |there _ ih=>obtain ⟨K2,h2⟩:=ih;exact ⟨_,.there h2⟩
theorem At.then' {H H1:Heap} {r:Nat} {b b1:Blk} (b2:Blk) (h:At H r b b1 H1):∃K,At H1 r b1 b2 K:=by
 induction h with
 |here=>exact ⟨_,.here⟩
 |there _ ih=>obtain ⟨K2,h2⟩:=ih;exact ⟨_,.there h2⟩
theorem znX {t:TypeId} {ti:TI} (hL:TIOk P t ti) (hagg:ti.td.isAgg=true) (s:Sim fr H w) {r Te sz off n i j:Nat} {elems:List (List A)} {a b:List A} {H':Heap} (hi:i<n) (hj:j<n)
  (hat:At H r (.row Te sz elems) (.row Te sz ((elems.set (off+i) b).set (off+j) a)) H') (ha:elems[off+i]?=some a) (hb:elems[off+j]?=some b) (hsz:ti.size=sz) (c:Nat):
  ∃w',(Extern.ReflectliteSwapper.swap false #[.int .i64 i,.int .i64 j,.slice (some ⟨r,off*sz,none⟩) n c,typeHandle P t]).run P w=.ok (.tuple #[]) w'∧Sim fr H' w'∧Ext H w H' w':=by
 obtain ⟨va,ra,ca,la,hla⟩:=s.elem hat.mem ha;obtain ⟨vb,rb,cb,lb,hlb⟩:=s.elem hat.mem hb;have load:∀{e:List A} {vs:List Value} {k:Nat},RepL w (own fr H) e vs→zba w ⟨r,k*sz,none⟩ vs→e.length=sz→∃z,(loadVar t ⟨r,k*sz,none⟩).run P w=.ok z w∧Rep w (own fr H) (.agg e) z:=by
  intro e vs k hr hc hl;have:=zbn (P:=P) hL (a:=⟨r,k*sz,none⟩) (o:=0) (v:=.agg e) hr (by simpa [add_plain] using hc) (by
   unfold zbp;have hb:Nat.ble (0+ti.size) e.length=true:=Nat.ble_eq_true_of_le (by omega);rw [hagg,hb];simp [List.take_of_length_le (show e.length≤ti.size by omega)])
  simpa [add_plain] using this
 obtain ⟨za,hza,hra⟩:=load ra ca hla;obtain ⟨zb,hzb,hrb⟩:=load rb cb hlb;have hn:=s.nodup;obtain ⟨H1,hat1⟩:=hat.some' (.row Te sz (elems.set (off+i) b));obtain ⟨w1,hs1,s1,x1⟩:=zhK hL s hat1 ha hrb lb hsz hlb;obtain ⟨H2,hat2⟩:=hat1.then' (.row Te sz ((elems.set (off+i) b).set (off+j) a))
 have hbj:∃e,(elems.set (off+i) b)[off+j]?=some e:=by
  have hlt:=(List.getElem?_eq_some_iff.1 hb).1;exact ⟨_,List.getElem?_eq_getElem (by simpa using hlt)⟩
 obtain ⟨e2,he2⟩:=hbj;obtain ⟨w2,hs2,s2,x2⟩:=zhK hL s1 hat2 he2 (hra.mono x1.stays) la hsz hla;have e3:H2=H':=At.uniq (hat1.trans hat2 hn) hat hn;subst e3;refine ⟨w2,?_,s2,x1.trans x2⟩;have hio:((i:Nat):Int)<n:=by omega
 have hjo:((j:Nat):Int)<n:=by omega
 rw [Lib.rl_swap];have hexch:(Extern.ReflectliteSwapper.exchange t ⟨r,off*sz,none⟩ i j).run P w=.ok (.tuple #[]) w2:=by
  have a1:(⟨r,off*sz,none⟩:Addr).add (i*ti.size)=⟨r,(off+i)*sz,none⟩:=by rw [add_plain,hsz,Nat.add_mul]
  have a2:(⟨r,off*sz,none⟩:Addr).add (j*ti.size)=⟨r,(off+j)*sz,none⟩:=by rw [add_plain,hsz,Nat.add_mul]
  unfold Extern.ReflectliteSwapper.exchange;simp only [Sem.run_bind,zax hL,Result.andThen_ok,a1,a2,hza,hzb,hs1,hs2,Sem.run_pure]
 have hh:(Extern.Rtype.ofHandle (typeHandle P t)).run P w=.ok t w:=by simp [Extern.Rtype.ofHandle,handleType,typeHandle,Result.andThen]
 have c1:¬(((i:Nat):Int)<0):=by omega
 have c2:¬(((j:Nat):Int)<0):=by omega
 have c3:¬(((i:Nat):Int)≥n):=by omega
 have c4:¬(((j:Nat):Int)≥n):=by omega
 simp only [Bool.false_eq_true,if_false,c1,c2,c3,c4,decide_false,Bool.or_false,Sem.run_bind,hh,Result.andThen_ok,Int.toNat_natCast,hexch]
end
abbrev zc5:=FuncId→List A→Tre Blk→Option Eff
def zjQ (P:Program) (f:FuncId) (xs:List A) (H:Heap) (R:A→Heap→Prop):Prop:=
 ∀(fr:Nat→Prop) (w:World) (vs:List Value),Sim fr H w→RepL w (own fr H) xs vs→∃u w' v H1,(callFunc f vs.toArray).run P w=.ok (.value u) w'∧R v H1∧Sim fr H1 w'∧Rep w' (own fr H1) v u∧Ext H w H1 w'
def EffM (P:Program) (ρ:Nat→Nat) (H:Tre Blk) (f:FuncId) (xs:List A) (H':Heap):Eff→Prop
 |.pure v=>zjQ P f (renL ρ xs) H' fun r K=>r=ren ρ v∧K=H'
 |.write v i b'=>∃b,H.get i=some b∧∀H'',At H' (ρ i) (renB ρ b) (renB ρ b') H''→zjQ P f (renL ρ xs) H' fun r K=>r=ren ρ v∧K=H''
 |_=>False
def zco (P:Program) (M:zc5):Prop:=∀f xs H e,M f xs H=some e→∀(ρ:Nat→Nat) (n:Nat) (lo:Nat→Bool) (fz:Nat→Prop) (H':Heap),Good ρ n lo fz H H'→EffM P ρ H f xs H' e
def noM:zc5:=fun _ _ _=>none
theorem zkp {P:Program}:zco P noM:=fun _ _ _ _ h=>by cases h
theorem AOp.callM {P:Program} {N:NN} {Q:Exit→Env→Heap→Prop} {T:Env} {H:Heap} {ops rest:List Oper} {dst:Option Nat} {callee:Operand} {args:List Operand} {ats:Array TypeId} {ty:TypeId} {pos:String} {after:Array Edge} {guard:Option (Nat×Bool)}
  {f:FuncId} {first cap xs:List A} {R:A→Heap→Prop} (hf:ev T callee=some (.fn f first cap)) (ha:evs T args=some xs) (he:zjQ P f (first++xs++cap) H R)
  (hd:zae N dst=true) (kk:∀v H1,R v H1→AOps P N ops rest Q (put dst v T) H1):
  AOp P N ops ⟨dst,.call {callee:=.value callee,args:=args.toArray,argTypes:=ats},ty,pos,after,guard⟩ rest Q T H:=
 AOp.sem (R:=R) (fun fr w act s st=>by
  obtain ⟨fs,cs,e1,r1,r2⟩:=(zad st hf).fn_inv;have r3:=zcG st ha;obtain ⟨u,w',v,H1,h1,h2,h3,h4,h5⟩:=he fr w _ s ((r1.append r3).append r2);have e2:((fs.toList++args.map act.eval)++cs.toList).toArray=fs++args.toArray.map act.eval++cs:=by simp
  rw [e2] at h1;refine ⟨w',v,u,H1,.inl ?_,h2,h3,h4,h5⟩;simp only [execOp,resolve,Deferred.ofValue,invoke,Sem.run_bind,Sem.run_pure,Result.andThen_ok,e1];exact h1) hd kk
theorem EffM.ok {P:Program} {N:NN} {ρ:Nat→Nat} {H:Tre Blk} {T':Env} {H':Heap} {dst:Option Nat} {callee:Operand} {args:List Operand} {ats:Array TypeId} {ty:TypeId} {pos:String} {after:Array Edge} {guard:Option (Nat×Bool)}
  {f:FuncId} {xs first as cap:List A} (hf:ev T' callee=some (.fn f first cap)) (ha:evs T' args=some as) (hxs:first++as++cap=renL ρ xs) (hd:zae N dst=true) {e:Eff} (h:EffM P ρ H f xs H' e):
  zev P N ρ H ⟨dst,.call {callee:=.value callee,args:=args.toArray,argTypes:=ats},ty,pos,after,guard⟩ T' H' e:=by
 cases e with
 |pure v=>
  intro ops rest Q k;simp only [EffM] at h;rw [←hxs] at h;exact AOp.callM hf ha h hd fun r K ⟨e1,e2⟩=>by subst e1;subst e2;exact k
 |write v i b'=>
  obtain ⟨b,hi,h⟩:=h;refine ⟨b,hi,fun ops rest Q H'' hat k=>?_⟩;have h:=h H'' hat;rw [←hxs] at h;exact AOp.callM hf ha h hd fun r K ⟨e1,e2⟩=>by subst e1;subst e2;exact k
 |new m b=>exact h.elim
 |swap m i b=>exact h.elim
 |free v i=>exact h.elim
structure SortS (P:Program) (L:Lay) (t e:TypeId) (g vo sw ln s1 s2 s9:Nat) where
 i:TypeInfo
 ie:TypeInfo
 ei:TI
 ke:Nat
 hg:P.globals.size=g
 hi:P.info? t=some i
 hd:i.desc=.slice e
 hpk:P.packed t=false
 hie:P.info? e=some ie
 hke:∀w,(Extern.Rtype.kind e).run P w=.ok ke w
 hk9:∀n,2≤n→Lib.swapperK n ie ke=9
 hei:lay L e=some ei
 hagg:ei.td.isAgg=true
 f1 : P.funcs.findIdx? (·.name == "internal/reflectlite" ++ ".Swapper$" ++ toString 1) = some s1
 f2 : P.funcs.findIdx? (·.name == "internal/reflectlite" ++ ".Swapper$" ++ toString 2) = some s2
 f9 : P.funcs.findIdx? (·.name == "internal/reflectlite" ++ ".Swapper$" ++ toString 9) = some s9
 xv:zjd P vo fun args=>Extern.ReflectliteValue.unpack (args.getD 0 (.tuple #[]))
 xs : zjd P sw (Extern.ReflectliteSwapper.swapper "internal/reflectlite" (Extern.ReflectliteValue.valueError "Swapper"))
 xl : zjd P ln (Extern.ReflectliteValue.method (Extern.ReflectliteValue.valueError "reflectlite.Value.Len" 0) Extern.ReflectliteValue.len)
 x9:zjd P s9 (Extern.ReflectliteSwapper.swap false)
def zcf:A→Option Nat
 |.os _ _ _ n=>some n
 |.nils=>some 0
 |.ds l=>some l.length
 |_=>none
def extS (L:Lay) (t e g vo sw ln s1 s2 s9:Nat):zc5:=fun f xs H=>match xs with
 |[.iface t' x]=>match Nat.beq t' t,zcf x with
  |true,some n=>match Nat.beq f vo,Nat.beq f sw with
   |true,_=>some (.pure (.agg [.abs g t,.dp [x],.int .u64 151]))
   |false,true=>match n with
    |0=>some (.pure (.fn s1 [] []))
    |1=>some (.pure (.fn s2 [] []))
    |_=>some (.pure (.fn s9 [] [x,.abs g e]))
   |false,false=>none
  |_,_=>none
 |[.agg [.abs g' t',.dp [x],.int .u64 k]]=>match Nat.beq f ln&&Nat.beq g' g&&Nat.beq t' t&&decide (k=151),zcf x with
  |true,some n=>match Nat.ble n 4611686018427387904 with
   |true=>some (.pure (.int .i64 n))
   |false=>none
  |_,_=>none
 |[.int .i64 i,.int .i64 j,.os r sz off n,.abs g' e']=>match Nat.beq f s9&&Nat.beq g' g&&Nat.beq e' e&&decide (0≤i∧i<n∧0≤j∧j<n),lay L e,H.get r with
  |true,some ei,some (.row Te sz' elems)=>match Nat.beq sz sz'&&Nat.beq ei.size sz,elems[off+i.toNat]?,elems[off+j.toNat]? with
   |true,some a,some b=>some (.write (.tup []) r (.row Te sz' ((elems.set (off+i.toNat) b).set (off+j.toNat) a)))
   |_,_,_=>none
  |_,_,_=>none
 |_=>none
theorem zc2 {w:World} {o:Nat→Prop} {x:A} {n:Nat} {u:Value} (h:zcf x=some n) (hr:Rep w o x u):∃p c,u=.slice p n c:=by
 cases x<;>simp only [zcf] at h<;>first|(cases h;done)|skip
 ·cases h;cases hr;exact ⟨_,_,rfl⟩
 ·cases h;cases hr
  ·exact ⟨_,_,rfl⟩
  ·exact ⟨_,_,rfl⟩
 ·cases h;cases hr;exact ⟨_,_,rfl⟩
theorem zeH {ρ:Nat→Nat} {x:A} {n:Nat} (h:zcf x=some n):zcf (ren ρ x)=some n:=by
 cases x<;>simp only [zcf] at h<;>first|(cases h;done)|(simp only [ren,zcf,zan];exact h)
theorem zhh {P:Program} {f:FuncId} {e:Array Value→Sem Value} (h:zjd P f e) (args:Array Value) (w:World):(callFunc f args).run P w=((e args).run P w).andThen fun v w'=>.ok (.value v) w':=by
 obtain ⟨fn,k1,k2,k3,k4,k5⟩:=h;rw [run_callFunc_extern k1 k2 k3 k4 k5]
theorem znp {P:Program} {L:Lay} (hL:zag P L) {t e g vo sw ln s1 s2 s9:Nat} (S:SortS P L t e g vo sw ln s1 s2 s9):zco P (extS L t e g vo sw ln s1 s2 s9):=by
 intro f xs H ef h ρ n0 lo fz H' hG;unfold extS at h;split at h
 ·rename_i t' x
  split at h
  ·rename_i n ht hx
   have ht:=Nat.eq_of_beq_eq_true ht;subst ht;have hx':=zeH (ρ:=ρ) hx;split at h
   ·rename_i hvo
    have hvo:=Nat.eq_of_beq_eq_true hvo;subst hvo;cases h;intro fr w vs s hr;simp only [renL,ren] at hr;cases hr with|cons ha hr=>
    cases hr;cases ha with|iface _ _ v hv=>
    obtain ⟨p,c,rfl⟩:=zc2 hx' hv;refine ⟨.agg #[typeHandle P t',.pointer (some ⟨w.heap.size,0,none⟩),.int .u64 151],w.alloc (.cells #[.slice p n c] t'),_,H',?_,⟨rfl,rfl⟩,s.newU _,?_,Ext.newU ..⟩
    ·rw [zhh S.xv,show (Extern.ReflectliteValue.unpack ((#[Value.iface t' (.slice p n c)]:Array Value).getD 0 (.tuple #[]))).run P w=_ from Lib.run_valueOf_slice (P:=P) t' e S.i S.hi S.hd p n c w]
     rfl
    ·simp only [ren,renL]
     have hst:=(Ext.newU H' w (.cells #[.slice p n c] t')).stays (fr:=fr);refine Rep.agg_of (.cons ?_ (.cons ?_ (.cons (.int _ _ ?_) .nil)))
     ·have:=Rep.abs (w:=w.alloc (.cells #[.slice p n c] t')) (own:=own fr H') g t'
      rw [←S.hg] at this ⊢;exact this
     ·refine Rep.dp_of (vs:=[.slice p n c]) (.cons (hv.mono hst) .nil) (fun j v hj=>?_) (fun ho=>?_)
      ·cases j with
       |zero=>
        simp only [List.getElem?_cons_zero,Option.some.injEq] at hj;subst hj;unfold World.cell?;rw [add_plain,heap_alloc_new];rfl
       |succ j=>simp at hj
      ·obtain ⟨h1,h2⟩:=zaN s
       rcases ho with ho|ho
       ·exact h2 ho
       ·exact h1 ho
     ·unfold inR IntKind.min IntKind.max;decide
   ·rename_i hvo hsw
    have hsw := Nat.eq_of_beq_eq_true hsw; subst hsw; have key : ∀ (k fk : Nat) (bs : List A), P.funcs.findIdx? (·.name == "internal/reflectlite" ++ ".Swapper$" ++ toString k) = some fk → Lib.swapperK n S.ie S.ke = k → (k ≤ 2 → bs = []) → (¬ k ≤ 2 → bs = [ren ρ x, .abs g e]) →
      zjQ P f (renL ρ [.iface t' x]) H' fun r K=>r=.fn fk [] bs∧K=H':=by
     intro k fk bs hf hk hb1 hb2 fr w vs s hr;simp only [renL,ren] at hr;cases hr with|cons ha hr=>
     cases hr;cases ha with|iface _ _ v hv=>
     have hv0:=hv;obtain ⟨p,c,rfl⟩:=zc2 hx' hv;have hrun:=Lib.run_swapper_slice (P:=P) t' e S.i S.ie S.hi S.hd S.hie S.ke S.hke p n c fk (by rw [hk];exact hf) w;refine ⟨.func (.func fk) #[] (if Lib.swapperK n S.ie S.ke≤2 then #[] else #[Value.slice p n c,typeHandle P e]),w,_,H',?_,⟨rfl,rfl⟩,s,?_,Ext.refl ..⟩
     ·rw [zhh S.xs]
      show ((Extern.ReflectliteSwapper.swapper "internal/reflectlite" (Extern.ReflectliteValue.valueError "Swapper") #[.iface t' (.slice p n c)]).run P w).andThen _ = _
      rw [hrun];rfl
     ·rw [hk]
      by_cases hk2:k≤2
      ·rw [if_pos hk2,hb1 hk2];exact Rep.fn_of (us:=[]) (vs:=[]) .nil .nil
      ·rw [if_neg hk2,hb2 hk2]
       have ha:=Rep.abs (w:=w) (own:=own fr H') g e;rw [←S.hg] at ha ⊢;exact Rep.fn_of (us:=[]) (vs:=[_,_]) .nil (.cons hv0 (.cons ha .nil))
    split at h
    ·cases h
     exact key 1 s1 [] S.f1 rfl (fun _=>rfl) (fun h=>absurd (by omega) h)
    ·cases h
     exact key 2 s2 [] S.f2 rfl (fun _=>rfl) (fun h=>absurd (by omega) h)
    ·rename_i h0 h1
     cases h;have hn:2≤n:=by
      cases n with
      |zero=>exact absurd rfl h0
      |succ n=>cases n with
       |zero=>exact absurd rfl h1
       |succ n=>omega
     exact key 9 s9 [ren ρ x,.abs g e] S.f9 (S.hk9 n hn) (fun h=>absurd h (by omega)) (fun _=>rfl)
   ·cases h
  ·cases h
 ·rename_i g' t' x k
  split at h
  ·rename_i n hc hx
   simp only [Bool.and_eq_true,decide_eq_true_eq] at hc;obtain ⟨⟨⟨hf,hg⟩,ht⟩,rfl⟩:=hc;have hf:=Nat.eq_of_beq_eq_true hf;have hg:=Nat.eq_of_beq_eq_true hg;have ht:=Nat.eq_of_beq_eq_true ht;subst hf;subst hg;subst ht;have hx':=zeH (ρ:=ρ) hx;split at h
   ·rename_i hn
    cases h;intro fr w vs s hr;simp only [renL,ren] at hr;cases hr with|cons ha hr=>
    cases hr;obtain ⟨cs,rfl,hl⟩:=ha.agg_inv;obtain ⟨l⟩:=cs;simp only at hl;cases hl with|cons h1 hl=>
    cases hl with|cons h2 hl=>
    cases hl with|cons h3 hl=>
    cases hl;cases h1;cases h3;obtain ⟨a,us,rfl,hru,hca,_⟩:=h2.dp_inv;cases hru with|cons hv hru=>
    cases hru;obtain ⟨p,c,rfl⟩:=zc2 hx' hv;have hcell:w.cell? a=some (.slice p n c):=by
     have:=hca 0 _ rfl;simpa [Addr.add_zero'] using this
    have hrun:=Lib.run_valueLen_slice (P:=P) t' e S.i S.hi S.hd S.hpk a p n c w hcell;refine ⟨.int .i64 n,w,_,H',?_,⟨rfl,rfl⟩,s,?_,Ext.refl ..⟩
    ·rw [zhh S.xl]
     have:typeHandle P t'=.pointer (some ⟨g',t',none⟩):=by rw [typeHandle,S.hg]
     rw [this] at hrun
     show ((Extern.ReflectliteValue.method (Extern.ReflectliteValue.valueError "reflectlite.Value.Len" 0) Extern.ReflectliteValue.len #[.agg #[.pointer (some ⟨g', t', none⟩), .pointer (some a), .int .u64 151]]).run P w).andThen _ = _
     rw [hrun];rfl
    ·simp only [ren]
     have:=Nat.le_of_ble_eq_true hn;exact .int _ _ (zdp.2 ⟨by omega,by omega⟩)
   ·cases h
  ·cases h
 ·rename_i i j r sz off n g' e'
  split at h
  ·rename_i ei Te sz' elems hc hei hrow
   simp only [Bool.and_eq_true,decide_eq_true_eq] at hc;obtain ⟨⟨⟨hf,hg⟩,he⟩,hi0,hin,hj0,hjn⟩:=hc;have hf:=Nat.eq_of_beq_eq_true hf;have hg:=Nat.eq_of_beq_eq_true hg;have he:=Nat.eq_of_beq_eq_true he;subst hf;subst hg;subst he;split at h
   ·rename_i a b hsz ha hb
    simp only [Bool.and_eq_true] at hsz;have hsz1:=Nat.eq_of_beq_eq_true hsz.1;have hsz2:=Nat.eq_of_beq_eq_true hsz.2;subst hsz1;cases h;refine ⟨_,hrow,fun H'' hat fr w vs s hr=>?_⟩;obtain ⟨i,rfl⟩:=Int.eq_ofNat_of_zero_le hi0;obtain ⟨j,rfl⟩:=Int.eq_ofNat_of_zero_le hj0;simp only [Int.toNat_natCast] at ha hb hat;simp only [renL,ren] at hr;cases hr with|cons h1 hr=>
    cases hr with|cons h2 hr=>
    cases hr with|cons h3 hr=>
    cases hr with|cons h4 hr=>
    cases hr;cases h1;cases h2;cases h4;cases h3 with|os _ _ _ _ cap hrr hcap hmax hroom=>
    simp only [renB] at hat;have e1:zar ρ ((elems.set (off+i) b).set (off+j) a)=((zar ρ elems).set (off+i) (renL ρ b)).set (off+j) (renL ρ a):=by rw [zfC,zfC]
    rw [e1] at hat;have hei':ei=S.ei:=Option.some.inj (hei.symm.trans S.hei);obtain ⟨w',h1,h2,h3⟩:=znX (P:=P) (hL _ _ hei) (by rw [hei'];exact S.hagg) s (n:=n) (by omega) (by omega) hat (by rw [za4,ha];rfl) (by rw [za4,hb];rfl) hsz2 cap;have:typeHandle P e'=.pointer (some ⟨g',e',none⟩):=by rw [typeHandle,S.hg]
    rw [this] at h1;refine ⟨.tuple #[],w',_,H'',?_,⟨rfl,rfl⟩,h2,?_,h3⟩
    ·rw [zhh S.x9]
     show ((Extern.ReflectliteSwapper.swap false #[.int .i64 i,.int .i64 j,.slice (some ⟨ρ r,off*sz,none⟩) n cap,.pointer (some ⟨g',e',none⟩)]).run P w).andThen _=_
     rw [h1];rfl
    ·simp only [ren,renL];exact Rep.tup_of .nil
   ·cases h
  ·cases h
 ·cases h
abbrev zd9:=(Nat→Bool)→FuncId→List A→Tre Blk→Nat→Option (Fin×Tre Blk×Nat)
def retC (c:zd9):zfy:=fun lo f a H n=>match c lo f a H n with
 |some (.ret v,H1,n1)=>some (v,H1,n1)
 |_=>none
def OutF (ρ:Nat→Nat) (n:Nat) (lo:Nat→Bool) (fz:Nat→Prop) (H':Heap) (x:Fin) (H1:Tre Blk) (n1:Nat):Fin→Heap→Prop:=fun y H1'=>match x with
 |.ret v=>∃r,y=.ret r∧Out ρ n lo fz H' v H1 n1 r H1'
 |.pan u=>y=.pan u∧∃ρ1,Good ρ1 n1 lo fz H1 H1'∧Ltr ρ n fz H' ρ1 n1 H1'
def zcR (P:Program) (call:zd9):Prop:=
 ∀lo f args H n x H1 n1,call lo f args H n=some (x,H1,n1)→∀ρ fz H',zaq n args=true→Good ρ n lo fz H H'→TrF P f (renL ρ args) H' (OutF ρ n lo fz H' x H1 n1)
theorem zqs {P:Program} {call:zd9} (h:zcR P call):zgH P (retC call):=by
 intro lo f args H n v H1 n1 hc ρ fz H' hs hg;unfold retC at hc;split at hc
 ·rename_i hc'
  cases hc;exact TrF.toTr (h _ _ _ _ _ _ _ _ hc' ρ fz H' hs hg)
 ·cases hc
def zpa:zfy:=fun _ _ _ _ _=>none
theorem zm1 {P:Program}:zgH P zpa:=fun _ _ _ _ _ _ _ _ h=>by cases h
def zqA (P:Program) (E:Exts) (M:zc5) (L:Lay) (call:zd9) (lo:Nat→Bool) (T:Tre A) (H:Tre Blk) (n:Nat):Op→Option (Fin×Tre Blk×Nat)
 |.panic x=>match evC T x with
  |some (.iface t v)=>match datA v with
   |some u=>some (.pan (.iface t u),H,n)
   |none=>none
  |_=>none
 |.call {callee:=.value c,args:=⟨args⟩,argTypes:=_}=>match evC T c with
  |some (.fn f first cap)=>match evsC T args with
   |some xs=>match E f (first++xs++cap) with
    |some v=>match scope n v with
     |true=>some (.ret v,H,n)
     |false=>none
    |none=>match M f (first++xs++cap) H with
     |some e=>match zb5 lo H n e with
      |some (v,H1,n1)=>some (.ret v,H1,n1)
      |none=>none
     |none=>call lo f (first++xs++cap) H n
   |none=>none
  |_=>none
 |op=>match evOp P E L zpa lo T H n op with
  |some (v,H1,n1)=>some (.ret v,H1,n1)
  |none=>none
def zeX (P:Program) (E:Exts) (M:zc5) (N:Nat) (L:Lay) (call:zd9) (lo:Nat→Bool) (ops:List Oper):List Oper→Tre A→Tre Blk→Nat→Res
 |[],T,H,n=>some (.normal,T,H,n)
 |o::rest,T,H,n=>match zae ⟨N,[],[]⟩ o.dst with
  |true=>match zlv ops T o with
   |some true=>match zqA P E M L call lo T H n o.op with
    |some (.ret v,H1,n1)=>zeX P E M N L call lo ops rest (putC o.dst v T) H1 n1
    |some (.pan u,H1,n1)=>some (.panic [{v:=u,recovered:=false}],T,H1,n1)
    |none=>none
   |some false=>zeX P E M N L call lo ops rest (putC o.dst (.tup []) T) H n
   |none=>none
  |false=>none
def zdb (late:Oper→Bool) (T:Tre A) (n0:Nat):List Oper→List Nat
 |[]=>[]
 |o::rest=>match o.op with
  |.call {callee:=.builtin .append,args:=⟨x::_⟩,argTypes:=_}=>match evC T x with
   |some (.os r _ _ _)=>match Nat.blt r n0&&!memN r (zdb late T n0 rest) with
    |true=>r::zdb late T n0 rest
    |false=>zdb late T n0 rest
   |_=>zdb late T n0 rest
  |.store _ x _=>match late o,evC T x with
   |false,some (.ptr r _ _ _)=>match Nat.blt r n0&&!memN r (zdb late T n0 rest) with
    |true=>r::zdb late T n0 rest
    |false=>zdb late T n0 rest
   |_,_=>zdb late T n0 rest
  |_=>zdb late T n0 rest
def zqR (b:List Nat) (hv:Oper→Bool):List Oper→Nat→Nat→List Nat×List Nat
 |[],_,_=>([],[])
 |o::rest,i,mask=>match hv o||!Nat.beq ((b.getD i 0)&&&mask) 0 with
  |true=>match zqR b hv rest (i+1) (mask|||2^i) with
   |(l,m)=>(l,i::m)
  |false=>match zqR b hv rest (i+1) mask with
   |(l,m)=>(i::l,m)
def znS (ops:List Oper) (hv:Oper→Bool):List (Nat×Oper):=match zqR (anc ops) hv ops 0 0 with
 |(l,m)=>ordL ops (l++m)
def zfs (P:Program) (E:Exts) (M:zc5) (N:Nat) (L:Lay) (call:zd9) (lo:Nat→Bool) (ops:List Oper) (ap:Bool) (hv:Oper→Bool) (xl:List Nat) (cons:Nat→Bool) (base:Option (Tre Blk)) (T:Tre A) (H:Tre Blk) (n:Nat):Res:=
 match chk2 (zkv (xl++zdH ap (anc ops) ops 0 false 0 0)) (zqM (match ap with|true=>zi6 (anc ops) ops 0 false 0|false=>[])) hv ops (znS ops hv) with
 |true=>match base with
  |some H0=>match ziL P E N L (retC call) lo (zkv (xl++zdH ap (anc ops) ops 0 false 0 0)) (zqM (match ap with|true=>zi6 (anc ops) ops 0 false 0|false=>[])) hv ops cons H0 n ((znS ops hv).map (·.2)) true T H n with
   |some (e,T1,H1,n1,_,_)=>some (e,T1,H1,n1)
   |none=>none
  |none=>none
 |false=>none
def zgc (T:Tre A):List Oper→List Nat
 |[]=>[]
 |o::rest=>match o.op with
  |.load _ x=>match evC T x with
   |some (.ptr r _ _ _)=>r::zgc T rest
   |_=>zgc T rest
  |.lookup _ x _ _=>match evC T x with
   |some (.map r)=>r::zgc T rest
   |_=>zgc T rest
  |_=>zgc T rest
def zpt (b:List Nat) (hv:Oper→Bool) (i:Nat):List Oper→Nat→Bool
 |[],_=>true
 |o::rest,j=>match !hv o||!Nat.beq ((b.getD j 0)&&&(2^i)) 0 with
  |true=>zpt b hv i rest (j+1)
  |false=>false
def zi7 (b:List Nat) (hv:Oper→Bool) (ops:List Oper):List Oper→Nat→List Nat
 |[],_=>[]
 |o::rest,i=>match Nat.beq (clsH hv o) 1&&zpt b hv i ops 0 with
  |true=>addK o (zi7 b hv ops rest (i+1))
  |false=>zi7 b hv ops rest (i+1)
def zn2 (H:Tre Blk) (n:Nat) (keep:List Nat) (i:Nat):Bool:=match Nat.blt i n,memN i keep,H.get i with
 |true,false,some _=>true
 |_,_,_=>false
theorem zn0 {H:Tre Blk} {n:Nat} {keep:List Nat} (i:Nat) (h:zn2 H n keep i=true):i<n∧(H.get i).isSome=true:=by
 unfold zn2 at h;split at h
 ·rename_i b h1 h2 h3;exact ⟨by simpa [Nat.blt_eq] using h1,by rw [h3];rfl⟩
 ·cases h
def zo6:List Oper→List Oper
 |[]=>[]
 |o::rest=>match rest.any zbA with
  |true=>o::zo6 rest
  |false=>match zbA o with
   |true=>[o]
   |false=>[]
def zjr:List Oper→List Oper
 |[]=>[]
 |o::rest=>match zbA o with
  |true=>[]
  |false=>o::zjr rest
def zhp:List Oper→Option Nat→Option Nat
 |[],k=>k
 |o::rest,k=>match zbA o with
  |true=>zhp rest (keyOf o)
  |false=>zhp rest k
def zrg (k:Option Nat) (o:Oper):Bool:=match zbA o,keyOf o,k with
 |true,some d,some d'=>Nat.beq d d'
 |_,_,_=>false
def zga (P:Program) (E:Exts) (M:zc5) (N:Nat) (L:Lay) (call:zd9) (lo:Nat→Bool) (hv:Oper→Bool) (ops pre:List Oper) (xl:List Nat) (T:Tre A) (H:Tre Blk) (n:Nat):Res:=
 match zeX P E M N L call lo ops pre T H n with
 |some (_,T1,_,_)=>zfs P E M N L call lo ops false hv xl (zn2 H n (zgc T1 (ops.filter fun o=>match keyOf o with|some d=>!memN d xl|none=>true))) (some (H.filt fun i=>!(lo i&&zn2 H n (zgc T1 (ops.filter fun o=>match keyOf o with|some d=>!memN d xl|none=>true)) i))) T H n
 |none=>none
def ziW (P:Program) (E:Exts) (M:zc5) (N:Nat) (L:Lay) (call:zd9) (lo:Nat→Bool) (ops:List Oper) (T:Tre A) (H:Tre Blk) (n:Nat):Res:=
 match zfs P E M N L call lo ops false (fun _=>false) [] (fun _=>false) (some H) T H n with
 |some r=>some r
 |none=>match ops.any zbA with
  |false=>match zeX P E M N L call lo ops ops T H n with
   |some (_,T1,_,_)=>zfs P E M N L call lo ops true (fun _=>false) [] (fun i=>memN i (zdb (zkv (zdH true (anc ops) ops 0 false 0 0)) T1 n ops)) (zl4 lo n (zdb (zkv (zdH true (anc ops) ops 0 false 0 0)) T1 n ops) H) T H n
   |none=>none
  |true=>match zga P E M N L call lo zbA ops (zjr ops) [] T H n with
   |some r=>some r
   |none=>match zga P E M N L call lo (zrg (zhp ops none)) ops (zjr ops) (zi7 (anc ops) (zrg (zhp ops none)) ops ops 0) T H n with
    |some r=>some r
    |none=>zga P E M N L call lo zbA ops (zo6 ops) [] T H n
def zaA (P:Program) (E:Exts) (M:zc5) (N:Nat) (L:Lay) (call:zd9) (lo:Nat→Bool) (fuel:Nat):Code→Tre A→Tre Blk→Nat→Res
 |.skip,T,H,n=>some (.normal,T,H,n)
 |.label _,T,H,n=>some (.normal,T,H,n)
 |.exit id,T,H,n=>some (.exit id,T,H,n)
 |.ret,T,H,n=>some (.ret,T,H,n)
 |.seq a b,T,H,n=>match zaA P E M N L call lo fuel a T H n with
  |some (.normal,T1,H1,n1)=>zaA P E M N L call lo fuel b T1 H1 n1
  |r=>r
 |.cond c a b,T,H,n=>match evC T c with
  |some (.bool true)=>zaA P E M N L call lo fuel a T H n
  |some (.bool false)=>zaA P E M N L call lo fuel b T H n
  |_=>none
 |.block id c,T,H,n=>match zaA P E M N L call lo fuel c T H n with
  |some (.exit id',T1,H1,n1)=>match Nat.beq id' id with
   |true=>some (.normal,T1,H1,n1)
   |false=>some (.exit id',T1,H1,n1)
  |r=>r
 |.loop c,T,H,n=>zhR (zaA P E M N L call lo fuel c) fuel T H n
 |.region _ ops false,T,H,n=>zeX P E M N L call lo ops.toList ops.toList T H n
 |.region _ ops true,T,H,n=>ziW P E M N L call lo ops.toList T H n
 |_,_,_,_=>none
section
variable {P:Program} {E:Exts} {M:zc5} {N:NN} {L:Lay} {call:zd9} {ρ:Nat→Nat} {n:Nat} {lo:Nat→Bool} {fz:Nat→Prop} {T:Tre A} {H:Tre Blk} {T':Env} {H':Heap}
theorem AOp.panicIface {N:NN} {T:Env} {H:Heap} {ops rest:List Oper} {dst:Option Nat} {x:Operand} {t:TypeId} {v:A} {u:Value} {ty:TypeId} {pos:String} {after:Array Edge} {guard:Option (Nat×Bool)} {Q:Exit→Env→Heap→Prop}
  (hx:ev T x=some (.iface t v)) (hu:datA v=some u) (k:Q (.panic [{v:=.iface t u,recovered:=false}]) T H):
  AOp P N ops ⟨dst,.panic x,ty,pos,after,guard⟩ rest Q T H:=by
 refine ⟨fun fr w a s st=>?_⟩;have hr:=zad st hx;have he:=zg6 (a:=.iface t v) (u:=.iface t u) (by simp only [datA,hu]) hr;unfold Oper.wp execOp;simp only [he,Sem.run_bind,zdh,Result.andThen_halt,Oper.upon_panic];exact ⟨T,H,k,s,st,Ext.refl H w⟩
theorem zj5 (hL:zag P L) (hE:zc0 P E) (hM:zco P M) (hc:zcR P call) (c:Cfg ρ n lo fz T H T' H') {o:Oper} (hd:zae N o.dst=true) {x:Fin} {H1:Tre Blk} {n1:Nat} (h:zqA P E M L call lo T H n o.op=some (x,H1,n1))
  {ops rest:List Oper} {Q:Exit→Env→Heap→Prop} (k:∀v r H1',x=.ret v→Out ρ n lo fz H' v H1 n1 r H1'→AOps P N ops rest Q (put o.dst r T') H1')
  (kp:∀u ρ1 H1',x=.pan u→Good ρ1 n1 lo fz H1 H1'→Ltr ρ n fz H' ρ1 n1 H1'→Q (.panic [{v:=u,recovered:=false}]) T' H1'):AOp P N ops o rest Q T' H':=by
 obtain ⟨dst,op,ty,pos,after,guard⟩:=o;simp only at h hd k;unfold zqA at h;split at h
 ·split at h
  ·rename_i hx
   have hx:=c.r.ev hx;simp only [ren] at hx;split at h
   ·rename_i u hu
    cases h;exact AOp.panicIface hx (zff ρ _ _ hu) (kp _ ρ H' rfl c.g (Ltr.refl ..))
   ·cases h
  ·cases h
 ·split at h
  ·rename_i hf
   have hf':=c.r.ev hf;have sf:=c.s.ev hf;simp only [ren] at hf';simp only [scope,Bool.and_eq_true] at sf;split at h
   ·rename_i ha
    have ha':=c.r.evs ha;have sa:=c.s.evs ha;split at h
    ·rename_i v' hv
     split at h
     ·rename_i hs
      cases h;refine AOp.callExt hf' ha' (fun w o vs hr=>hE _ _ _ hv ρ w o vs ?_) hd (k _ _ _ rfl ⟨ρ,rfl,hs,c.g,Ltr.refl ..⟩);rw [za1,za1];exact hr
     ·cases h
    ·split at h
     ·rename_i e hme
      split at h
      ·rename_i v1 H2 n2 hap
       cases h;exact zfD (EffM.ok (N:=N) hf' ha' (by simp only [za1]) hd (hM _ _ _ _ hme ρ n lo fz H' c.g)) c.g hap fun r H1' hr=>k _ r H1' rfl hr
      ·cases h
     ·have ht:=hc _ _ _ _ _ _ _ _ h ρ fz H' (zbu (zbu sf.1 sa) sf.2) c.g
      simp only [za1] at ht;refine AOp.callF (F:=[]) hf' ha' hd (by simp) ht (fun r H1' hr=>?_) (fun u H1' hr=>?_)
      ·rw [List.append_nil]
       cases x with
       |ret v=>
        obtain ⟨r',e,ho⟩:=hr;cases e;exact k v r H1' rfl ho
       |pan u=>exact absurd hr.1 (by simp)
      ·rw [List.append_nil]
       cases x with
       |ret v=>
        obtain ⟨r',e,ho⟩:=hr;cases e
       |pan u'=>
        obtain ⟨e,ρ1,hg,hl⟩:=hr;cases e;exact kp _ ρ1 H1' rfl hg hl
   ·cases h
  ·cases h
 ·split at h
  ·rename_i ho
   cases h;exact ziR hL hE zm1 c (o:=⟨dst,op,ty,pos,after,guard⟩) hd ho fun r H1' hr=>k _ r H1' rfl hr
  ·cases h
theorem zfu (hL:zag P L) (hE:zc0 P E) (hM:zco P M) (hc:zcR P call) {ops:List Oper} {Q:Exit→Env→Heap→Prop} {e:Exit} {T1:Tre A} {H1:Tre Blk} {n1:Nat}:∀(rest:List Oper) {ρ:Nat→Nat} {n:Nat} {T:Tre A} {H:Tre Blk} {T':Env} {H':Heap},
  Cfg ρ n lo fz T H T' H'→zeX P E M N.n L call lo ops rest T H n=some (e,T1,H1,n1)→
  (∀ρ1 T1' H1',Cfg ρ1 n1 lo fz T1 H1 T1' H1'→Ltr ρ n fz H' ρ1 n1 H1'→Q e T1' H1')→AOps P N ops rest Q T' H'
 |[],ρ,n,T,H,T',H',c,h,k=>by
  simp only [zeX] at h;cases h;exact AOps.nil (k _ _ _ c (Ltr.refl ..))
 |o::rest,ρ,n,T,H,T',H',c,h,k=>by
  simp only [zeX] at h;split at h
  ·rename_i hd
   have hd:zae N o.dst=true:=hd;split at h
   ·rename_i hw
    have key:AOp P N ops o rest Q T' H':=by
     split at h
     ·rename_i v H2 n2 ho
      refine zj5 hL hE hM hc c hd ho (fun v' r H1' hv hr=>?_) (fun u ρ1 H1' hu _ _=>by cases hu)
      cases hv;obtain ⟨ρ1,c1,l1⟩:=c.next hr o.dst;exact zfu hL hE hM hc rest c1 h fun ρ2 T2' H2' c2 l2=>k _ _ _ c2 (l1.trans l2)
     ·rename_i u H2 n2 ho
      cases h;refine zj5 hL hE hM hc c hd ho (fun v' r H1' hv hr=>by cases hv) (fun u ρ1 H1' hu hg hl=>?_)
      cases hu;exact k ρ1 T' H1' ⟨c.r.later c.s hl.agree,c.s.mono hl.le,hg⟩ hl
     ·cases h
    unfold zlv at hw;split at hw
    ·rename_i hg;exact AOps.plain hg key
    ·rename_i j b hg
     split at hw
     ·cases hw
     ·rename_i d hdj
      split at hw
      ·rename_i b' hb
       have hb:=c.r d _ hb;simp only [ren] at hb;have hbb:b'=b:=by simpa using hw
       subst hbb;exact AOps.wanted hg hdj hb hd key
      ·cases hw
      ·cases hw
   ·rename_i hw
    have c1:Cfg ρ n lo fz (putC o.dst (.tup []) T) H (put o.dst (.tup []) T') H':=⟨by have:=c.r.put o.dst (.tup []);simpa only [ren,renL] using this,c.s.put o.dst (by rfl),c.g⟩
    have key:=zfu hL hE hM hc (Q:=Q) rest c1 h k;unfold zlv at hw;split at hw
    ·cases hw
    ·rename_i j b hg
     split at hw
     ·cases hw
     ·rename_i d hdj
      split at hw
      ·rename_i b' hb
       have hb:=c.r d _ hb;simp only [ren] at hb;have hbb:(b'==b)=false:=by simpa using hw
       exact AOps.unwanted hg hdj hb (by cases b<;>cases b'<;>simp_all) hd key
      ·rename_i l hb
       have hb:=c.r d _ hb;simp only [ren] at hb;exact AOps.unwantedU hg hdj hb hd key
      ·cases hw
   ·cases h
  ·cases h
theorem zmM {ops:List Oper} {hv:Oper→Bool}:∀p∈znS ops hv,ops[p.1]?=some p.2:=by
 intro p hp;unfold znS at hp;split at hp;exact zos hp
theorem zeA {id:Nat} (hL:zag P L) (hm:P.follows .mixedOrders=true) (hE:zc0 P E) (hM:zco P M) (hc:zcR P call) {ops:List Oper} {ap:Bool} {hv:Oper→Bool} {xl:List Nat} {cons:Nat→Bool} {base:Option (Tre Blk)} {Q:Exit→Env→Heap→Prop} {e:Exit} {T1:Tre A} {H1:Tre Blk} {n1:Nat}
  (c:Cfg ρ n lo fz T H T' H') (hbase:∀H0,base=some H0→∃B G,Good ρ n lo fz H0 B∧H'.Perm (G++B)∧∀i,lo i=true→cons i=true→i<n∧ρ i∉keys B) (h:zfs P E M N.n L call lo ops ap hv xl cons base T H n=some (e,T1,H1,n1)) (k:∀ρ1 T1' H1',Cfg ρ1 n1 lo fz T1 H1 T1' H1'→Ltr ρ n fz H' ρ1 n1 H1'→Q e T1' H1'):AWp P N (.region id ops.toArray true) Q T' H':=by
 unfold zfs at h
 generalize (zqM (match ap with|true=>zi6 (anc ops) ops 0 false 0|false=>[]))=uni at h
 split at h
 ·rename_i hk
  split at h
  ·rename_i x0 H0
   split at h
   ·rename_i V W ho
    cases h;obtain ⟨B,G,g0,hG,hcons⟩:=hbase H0 rfl;exact AWp.draw2 (id:=id) hL hm zmM hk (zit hL hE (zqs hc) g0 hcons _ c (fun _ _=>rfl) (Nat.le_refl _) (fun _=>⟨⟨G,hG⟩,fun i h0 h1=>absurd h0 (by omega)⟩) ho k
     (fun d=>match get V d with|some x=>ren ρ x|none=>default) (fun d=>match getW W d with|some (m,b)=>(m.on,renB ρ b)|none=>(fun _=>.nilp,.map [])) (fun d x hx=>by simp only [hx]) (fun d m b hx=>by simp only [hx]))
   ·cases h
  ·cases h
 ·cases h
theorem zkP {id:Nat} (hL:zag P L) (hm:P.follows .mixedOrders=true) (hE:zc0 P E) (hM:zco P M) (hc:zcR P call) {ops:List Oper} {Q:Exit→Env→Heap→Prop} {e:Exit} {T1:Tre A} {H1:Tre Blk} {n1:Nat}
  (c:Cfg ρ n lo fz T H T' H') (h:ziW P E M N.n L call lo ops T H n=some (e,T1,H1,n1)) (k:∀ρ1 T1' H1',Cfg ρ1 n1 lo fz T1 H1 T1' H1'→Ltr ρ n fz H' ρ1 n1 H1'→Q e T1' H1'):AWp P N (.region id ops.toArray true) Q T' H':=by
 unfold ziW at h;split at h
 ·rename_i hp
  cases h;exact zeA hL hm hE hM hc c (fun H0 hb=>by cases hb;exact ⟨H',[],c.g,List.Perm.refl _,fun i _ hi=>by cases hi⟩) hp k
 ·split at h
  ·split at h
   ·exact zeA hL hm hE hM hc c (fun H0 hb=>by
     obtain ⟨B,G,h1,h2,h3⟩:=zjP c.g hb;exact ⟨B,G,h1,h2,fun i _ hi=>h3 i (zj8 hi)⟩) h k
   ·cases h
  ·have hh:∀hv pre xl,zga P E M N.n L call lo hv ops pre xl T H n=some (e,T1,H1,n1)→AWp P N (.region id ops.toArray true) Q T' H':=by
    intro hv pre xl h;unfold zga at h;split at h
    ·exact zeA hL hm hE hM hc c (fun H0 hb=>by cases hb;exact zlD c.g _ zn0) h k
    ·cases h
   split at h
   ·rename_i hp
    cases h;exact hh _ _ _ hp
   ·split at h
    ·rename_i hp
     cases h;exact hh _ _ _ hp
    ·exact hh _ _ _ h
variable {fuel:Nat}
theorem zaL (hL:zag P L) (hm:P.follows .mixedOrders=true) (hE:zc0 P E) (hM:zco P M) (hc:zcR P call):∀(c:Code) {Q:Exit→Env→Heap→Prop} {ρ:Nat→Nat} {n:Nat} {T:Tre A} {H:Tre Blk} {T':Env} {H':Heap} {e:Exit} {T1:Tre A} {H1:Tre Blk} {n1:Nat},
  Cfg ρ n lo fz T H T' H'→zaA P E M N.n L call lo fuel c T H n=some (e,T1,H1,n1)→
  (∀ρ1 T1' H1',Cfg ρ1 n1 lo fz T1 H1 T1' H1'→Ltr ρ n fz H' ρ1 n1 H1'→Q e T1' H1')→AWp P N c Q T' H'
 |.skip,Q,ρ,n,T,H,T',H',e,T1,H1,n1,c,h,k=>by
  simp only [zaA] at h;cases h;exact AWp.skip (k _ _ _ c (Ltr.refl ..))
 |.label l,Q,ρ,n,T,H,T',H',e,T1,H1,n1,c,h,k=>by
  simp only [zaA] at h;cases h;exact AWp.label (k _ _ _ c (Ltr.refl ..))
 |.exit id,Q,ρ,n,T,H,T',H',e,T1,H1,n1,c,h,k=>by
  simp only [zaA] at h;cases h;exact AWp.exit (k _ _ _ c (Ltr.refl ..))
 |.ret,Q,ρ,n,T,H,T',H',e,T1,H1,n1,c,h,k=>by
  simp only [zaA] at h;cases h;exact AWp.ret (k _ _ _ c (Ltr.refl ..))
 |.seq a b,Q,ρ,n,T,H,T',H',e,T1,H1,n1,c,h,k=>by
  simp only [zaA] at h;refine AWp.seq ?_;split at h
  ·rename_i T2 H2 n2 ha
   refine zaL hL hm hE hM hc a c ha fun ρ1 T1' H1' c1 l1=>zap ?_;exact zaL hL hm hE hM hc b c1 h fun ρ2 T2' H2' c2 l2=>k _ _ _ c2 (l1.trans l2)
  ·rename_i hne
   refine zaL hL hm hE hM hc a c h fun ρ1 T1' H1' c1 l1=>?_;have hq:=k ρ1 T1' H1' c1 l1;cases e with
   |normal=>exact absurd h (hne T1 H1 n1)
   |_=>exact hq
 |.cond x a b,Q,ρ,n,T,H,T',H',e,T1,H1,n1,c,h,k=>by
  simp only [zaA] at h;split at h
  ·rename_i hx
   have hx:=c.r.ev hx;simp only [ren] at hx;exact AWp.condT hx (zaL hL hm hE hM hc a c h k)
  ·rename_i hx
   have hx:=c.r.ev hx;simp only [ren] at hx;exact AWp.condF hx (zaL hL hm hE hM hc b c h k)
  ·cases h
 |.block id a,Q,ρ,n,T,H,T',H',e,T1,H1,n1,c,h,k=>by
  simp only [zaA] at h;refine AWp.block ?_;split at h
  ·rename_i id' T2 H2 n2 ha
   refine zaL hL hm hE hM hc a c ha fun ρ1 T1' H1' c1 l1=>?_;split at h
   ·rename_i hb
    cases h;exact zj9 hb (k _ _ _ c1 l1)
   ·rename_i hb
    cases h;exact zjB hb (k _ _ _ c1 l1)
  ·rename_i hne
   refine zaL hL hm hE hM hc a c h fun ρ1 T1' H1' c1 l1=>?_;have hq:=k ρ1 T1' H1' c1 l1;cases e with
   |exit id'=>exact absurd h (hne id' T1 H1 n1)
   |_=>exact hq
 |.loop a,Q,ρ,n,T,H,T',H',e,T1,H1,n1,c,h,k=>by
  simp only [zaA] at h;exact AIn.toRound (zij (fun c h k=>zaL hL hm hE hM hc a c h k) fuel c h k)
 |.region id ops false,Q,ρ,n,T,H,T',H',e,T1,H1,n1,c,h,k=>by
  simp only [zaA] at h;have:=AWp.region (id:=id) (zfu hL hE hM hc ops.toList c h k);simpa using this
 |.region id ops true,Q,ρ,n,T,H,T',H',e,T1,H1,n1,c,h,k=>by
  simp only [zaA] at h;have:=zkP (id:=id) hL hm hE hM hc c h k;simpa using this
 |.rangeFunc ..,Q,ρ,n,T,H,T',H',e,T1,H1,n1,c,h,k=>by simp [zaA] at h
 |.scope ..,Q,ρ,n,T,H,T',H',e,T1,H1,n1,c,h,k=>by simp [zaA] at h
 |.goto ..,Q,ρ,n,T,H,T',H',e,T1,H1,n1,c,h,k=>by simp [zaA] at h
 |.refuse ..,Q,ρ,n,T,H,T',H',e,T1,H1,n1,c,h,k=>by simp [zaA] at h
end
section
variable {P:Program} {N:NN} {T:Env} {H:Heap}
structure StD (n:Nat) (w:World) (o:Nat→Prop) (T:Env) (D:Option (FuncId×List A)) (a:Act):Prop where
 size:a.tmps.size=n
 at_:∀t x,get T t=some x→∃v,a.tmps[t]?=some v∧Rep w o x v
 none:D=none→a.defers=[]
 some:∀f as,D=some (f,as)→∃cap args:Array Value,a.defers=[{target:=.fn (.func f) cap,args:=args}]∧RepL w o as (args.toList++cap.toList)
structure DWp (P:Program) (n:Nat) (c:Code) (Q:Option (FuncId×List A)→Exit→Env→Heap→Prop) (T:Env) (H:Heap):Prop where
 out:∀(fr:Nat→Prop) (w:World) (a:Act),Sim fr H w→St ⟨n,[],[]⟩ w (own fr H) T a→c.wp P (fun e a' w'=>∃D T' H',Q D e T' H'∧Sim fr H' w'∧StD n w' (own fr H') T' D a'∧Ext H w H' w') a w
variable {n:Nat} {Q:Option (FuncId×List A)→Exit→Env→Heap→Prop}
theorem St.toD {w:World} {o:Nat→Prop} {a:Act} (h:St ⟨n,[],[]⟩ w o T a):StD n w o T .none a:=⟨h.size,h.at_,fun _=>h.defers,fun f as e=>by cases e⟩
theorem DWp.plain {c:Code} (h:AWp P ⟨n,[],[]⟩ c (fun e T H=>Q .none e T H) T H):DWp P n c Q T H:=
 ⟨fun fr w a s st=>wp_mono (h.out fr w a s st) fun e a' w' ⟨T',H',q,s',st',x'⟩=>⟨.none,T',H',q,s',st'.toD,x'⟩⟩
def seqD (P:Program) (n:Nat) (y:Code) (Q:Option (FuncId×List A)→Exit→Env→Heap→Prop):Exit→Env→Heap→Prop
 |.normal,T,H=>DWp P n y Q T H
 |e,T,H=>Q .none e T H
theorem DWp.seq {x y:Code} (h:AWp P ⟨n,[],[]⟩ x (seqD P n y Q) T H):DWp P n (.seq x y) Q T H:=by
 refine ⟨fun fr w a s st=>wp_seq (wp_mono (h.out fr w a s st) ?_)⟩;rintro e a' w' ⟨T',H',q,s',st',x'⟩;cases e with
 |normal=>
  refine wp_mono (q.out fr w' a' s' st') ?_;rintro e a2 w2 ⟨D,T2,H2,q2,s2,st2,x2⟩;exact ⟨D,T2,H2,q2,s2,st2,x'.trans x2⟩
 |_=>exact ⟨.none,T',H',q,s',st'.toD,x'⟩
theorem DWp.defer {y:Code} {id t f:Nat} {caps:List Operand} {ats:Array TypeId} {ty ty':TypeId} {pos pos':String} {after after':Array Edge} {cs:List A} (hc:evs T caps=some cs) (hd:Nat.blt t n=true)
  (k:∀d,AWp P ⟨n,[d],[]⟩ y (fun e T H=>Q (some (f,cs)) e T H) ((t,.fn f [] cs)::T) H):
  DWp P n (.seq (.region id #[{dst:=some t,op:=.makeFunc (.func f) #[] caps.toArray,type:=ty,pos:=pos,after:=after,guard:=.none},{dst:=.none,op:=.defer {callee:=.value (.tmp t),args:=#[],argTypes:=ats},type:=ty',pos:=pos',after:=after',guard:=.none}] false) y) Q T H:=by
 refine ⟨fun fr w a s st=>wp_seq ?_⟩;refine wp_region_lit (l:=[_,_]) ?_;have hr:=zcG st hc;have hlt:t<a.tmps.size:=by rw [st.size];simpa [Nat.blt_eq] using hd
 have hfv:Rep w (own fr H) (.fn f [] cs) (.func (.func f) #[] (caps.map a.eval).toArray):=Rep.fn_of (us:=[]) .nil hr;unfold wpList;rw [if_pos (by simp [Region.wanted])]
 left
 unfold Oper.wp execOp;simp only [Instr.makeFunc,Sem.run_bind,Sem.run_pure,Result.andThen_ok,Oper.upon_value,List.map_toArray,List.map_nil];unfold wpList;rw [if_pos (by simp [Region.wanted])]
 left
 have hev:(a.put (some t) (.func (.func f) #[] (caps.map a.eval).toArray)).eval (.tmp t)=.func (.func f) #[] (caps.map a.eval).toArray:=by
  simp [Act.put,Act.eval,Array.getD,hlt]
 unfold Oper.wp execOp;simp only [resolve,hev,Deferred.ofValue,Sem.run_bind,Sem.run_pure,Result.andThen_ok,Oper.upon_defer];unfold wpList
 generalize hd1:({target:=.fn (.func f) (caps.map a.eval).toArray,args:=#[]++#[]}:Deferred)=d
 have hd2:({target:=.fn (.func f) (caps.map a.eval).toArray,args:=#[]++Array.map (a.put (some t) (.func (.func f) #[] (caps.map a.eval).toArray)).eval #[]}:Deferred)=d:=by rw [←hd1];simp
 rw [hd2];have hst1:=st.put (d:=some t) (x:=.fn f [] cs) (by simpa [zae] using hd) hfv;have hst:St ⟨n,[d],[]⟩ w (own fr H) ((t,.fn f [] cs)::T) (({(a.put (some t) (.func (.func f) #[] (caps.map a.eval).toArray)) with defers:=d::(a.put (some t) (.func (.func f) #[] (caps.map a.eval).toArray)).defers}:Act).put .none undef):=by
  refine ⟨?_,?_,GOk.nil,?_⟩
  ·simpa [Act.put] using hst1.size
  ·have:=hst1.defers
   simp only [Act.put] at this ⊢;rw [this]
  ·intro u x hx
   obtain ⟨v,h1,h2⟩:=hst1.at_ u x hx;exact ⟨v,by simpa [Act.put] using h1,h2⟩
 refine wp_mono ((k d).out fr w _ s hst) ?_;rintro e a' w' ⟨T',H',q,s',st',x'⟩;refine ⟨_,T',H',q,s',⟨st'.size,st'.at_,(fun e=>by cases e),fun f2 as e=>?_⟩,x'⟩
 cases e;refine ⟨_,_,by rw [st'.defers,←hd1],?_⟩
 have:=hr.mono x'.stays;simpa using this
structure TrD (P:Program) (f:FuncId) (args:List A) (H:Heap) (u:FrameMode) (R:FrameMode→Heap→Prop):Prop where
 can:zcF P f
 run:∀(fr:Nat→Prop) (w:World) (vs:List Value),Sim fr H w→RepL w (own fr H) args vs→
  CallsD P f vs.toArray u w fun e u' w'=>∃v H',e=.returned v∧R u' H'∧Sim fr H' w'∧Ext H w H' w'
def zru (P:Program) (fn:Func) (n:Nat) (R:Fin→Heap→Prop):Option (FuncId×List A)→Exit→Env→Heap→Prop
 |.none,e,T,H=>zq3 P fn ⟨n,[],[]⟩ R e T H
 |some (f,as),.ret,T,H|some (f,as),.normal,T,H=>∃R',TrD P f as H .returning R'∧∀u' H',R' u' H'→settle u'=.returning∧∃r,zac P fn ⟨n,[],[]⟩ T H' r∧R (.ret r) H'
 |some (f,as),.panic ch,T,H=>∃R',TrD P f as H (.panicking ch) R'∧∀u' H',R' u' H'→settle u'=.returning∧∃r,zac P fn ⟨n,[],[]⟩ T H' r∧R (.ret r) H'
 |some _,_,_,_=>False
theorem TrF.of_bodyD {f : FuncId} {fn : Func} {c : Code} {args : List A} {R : Fin → Heap → Prop} (hf : P.funcs[f]? = some fn) (hb : fn.body = some c) (hn : (fn.name == "runtime.NumGoroutine") = false)
  (hN:args.length+(fn.ntmps - args.length)=n) (h:DWp P n c (zru P fn n R) (zbS 0 args) H):TrF P f args H R:=by
 refine ⟨⟨fn,hf,by simp [hb],hn⟩,fun fr w vs s as=>?_⟩
 refine calls_of_wp_defers hf hb (wp_mono (h.out fr w _ s (zjs hN as)) ?_)
 rintro e a w' ⟨D,T',H',q,s',st',x'⟩;have hdef:∀{u:FrameMode} {R':FrameMode→Heap→Prop} {g:FuncId} {as:List A},u≠ .run→D=some (g,as)→TrD P g as H' u R'→(∀u' H'',R' u' H''→settle u'=.returning∧∃r,zac P fn ⟨n,[],[]⟩ T' H'' r∧R (.ret r) H'')→
   Leaves P fn a.tmps (fun e w'=>∃x H',R x H'∧zrn w' (own fr H') x e∧Sim fr H' w'∧Ext H w H' w') a.defers u w':=by
  intro u R' g as hu hD ht hR;obtain ⟨cap,dargs,hde,hrep⟩:=st'.some g as hD;rw [hde];refine leaves_cons (f:=g) (args:=dargs++cap) hu ?_ ?_
  ·simp only [invoke,zcc ht.can]
  ·have:=ht.run fr w' _ s' hrep
   have e2:(dargs.toList++cap.toList).toArray=dargs++cap:=by simp
   rw [e2] at this;refine this.mono ?_;rintro e u' w'' ⟨v,H'',rfl,hR',s'',x''⟩;obtain ⟨hs,r,hr,hRr⟩:=hR u' H'' hR'
   show Leaves P fn a.tmps _ [] (settle u') w''
   rw [hs];have hst:St ⟨n,[],[]⟩ w'' (own fr H'') T' {a with defers:=[]}:=⟨st'.size,rfl,GOk.nil,fun t x hx=>let ⟨v,h1,h2⟩:=st'.at_ t x hx;⟨v,h1,h2.mono x''.stays⟩⟩
   obtain ⟨v2,h1,h2⟩:=hr fr w'' _ s'' hst;exact ⟨v2,h1,.ret r,H'',hRr,⟨v2,rfl,h2⟩,s'',x'.trans x''⟩
 have hstn:D=.none→St ⟨n,[],[]⟩ w' (own fr H') T' a:=fun hD=>⟨st'.size,st'.none hD,GOk.nil,st'.at_⟩;cases D with
 |none=>
  have st'':=hstn rfl;cases e with
  |normal=>
   obtain ⟨r,hr,hR⟩:=q;obtain ⟨v,h1,h2⟩:=hr fr w' a s' st''
   show Leaves P fn a.tmps _ a.defers .returning w'
   rw [st''.defers];exact ⟨v,h1,.ret r,H',hR,⟨v,rfl,h2⟩,s',x'⟩
  |ret=>
   obtain ⟨r,hr,hR⟩:=q;obtain ⟨v,h1,h2⟩:=hr fr w' a s' st''
   show Leaves P fn a.tmps _ a.defers .returning w'
   rw [st''.defers];exact ⟨v,h1,.ret r,H',hR,⟨v,rfl,h2⟩,s',x'⟩
  |panic ch=>
   obtain ⟨u,rfl,hR⟩:=q
   show Leaves P fn a.tmps _ a.defers _ w'
   rw [st''.defers];exact ⟨.pan u,H',hR,rfl,s',x'⟩
  |_=>exact q.elim
 |some p=>
  obtain ⟨g,as⟩:=p;cases e with
  |normal=>obtain ⟨R',h1,h2⟩:=q;exact hdef (by simp) rfl h1 h2
  |ret=>obtain ⟨R',h1,h2⟩:=q;exact hdef (by simp) rfl h1 h2
  |panic ch=>obtain ⟨R',h1,h2⟩:=q;exact hdef (by simp) rfl h1 h2
  |_=>exact q.elim
end
def recU:FrameMode→Option (Value×FrameMode)
 |.panicking ({v,recovered:=false,goexit:=false}::older)=>some (v,.panicking ({v,recovered:=true}::older))
 |_=>none
theorem zlb {c:Frame} {cs:List Frame} {u:FrameMode} (h:c.mode=u):recoverD (c::cs)=(recU u).map fun p=>(p.1,{c with mode:=p.2}::cs):=by
 subst h;unfold recoverD recU;simp only;split
 ·rename_i he;rw [he];rfl
 ·rename_i hne
  split
  ·rename_i he;exact absurd he (hne _ _)
  ·rfl
def zg7 (id t t':Nat) (ty ty':TypeId) (pos pos':String) (after after':Array Edge) (ats:Array TypeId) (rest:Code):Code:=
 .seq (.region id #[{dst:=some t,op:=.call {callee:=.builtin .recover,args:=#[],argTypes:=ats},type:=ty,pos:=pos,after:=after,guard:=none},{dst:=some t',op:=.assign (.tmp t),type:=ty',pos:=pos',after:=after',guard:=none}] false) rest
def zrD (P:Program) (fn:Func) (n:Nat) (u':FrameMode) (R:FrameMode→Heap→Prop):Exit→Env→Heap→Prop
 |.ret,T,H|.normal,T,H=>(∃r,zac P fn ⟨n,[],[]⟩ T H r)∧R u' H
 |_,_,_=>False
theorem TrD.of_recover {P:Program} {n f:Nat} {fn:Func} {args:List A} {H:Heap} {u u':FrameMode} {R:FrameMode→Heap→Prop} {id t t':Nat} {ty ty':TypeId} {pos pos':String} {after after':Array Edge} {ats:Array TypeId} {rest:Code} {x:A}
  (hf : P.funcs[f]? = some fn) (hb : fn.body = some (zg7 id t t' ty ty' pos pos' after after' ats rest)) (hn : (fn.name == "runtime.NumGoroutine") = false) (hN : args.length + (fn.ntmps - args.length) = n)
  (ht:Nat.blt t n=true) (ht':Nat.blt t' n=true)
  (hx:(∃v,recU u=some (v,u')∧∀w o,Rep w o x v)∨(recU u=none∧u'=u∧x=.nili))
  (h:AWp P ⟨n,[],[]⟩ rest (zrD P fn n u' R) ((t',x)::(t,x)::zbS 0 args) H):TrD P f args H u R:=by
 refine ⟨⟨fn,hf,by simp [hb],hn⟩,fun fr w vs s as=>callsD_of_wpS hf hb fun c₀ cs hm=>?_⟩
 have st0:=zjs (fn:=fn) hN as
 generalize ha:({tmps:=vs.toArray++Array.replicate (fn.ntmps - vs.toArray.size) undef,defers:=[]}:Act)=a at st0 ⊢
 unfold zg7;refine wpS_seq (wpS_region ?_)
 obtain ⟨v,cs',hrec,hrv,hcs'⟩:∃v cs',(match recoverD (c₀::cs) with|some (v,cs')=>(v,cs')|none=>(.nilIface,c₀::cs))=(v,cs')∧(∀w o,Rep w o x v)∧cs'={c₀ with mode:=u'}::cs:=by
  rw [zlb hm];rcases hx with ⟨v,h1,h2⟩|⟨h1,h2,h3⟩
  ·rw [h1];exact ⟨v,_,rfl,h2,rfl⟩
  ·subst h2;subst h3
   rw [h1];refine ⟨.nilIface,_,rfl,fun w o=>.nili,?_⟩;subst hm;rfl
 have hsz:(#[{dst:=some t,op:=.call {callee:=.builtin .recover,args:=#[],argTypes:=ats},type:=ty,pos:=pos,after:=after,guard:=none},{dst:=some t',op:=.assign (.tmp t),type:=ty',pos:=pos',after:=after',guard:=none}]:Array Oper).size=2:=rfl;rw [hsz,show List.range 2=[0,1] from rfl]
 have st1:=st0.put (d:=some t) (x:=x) (by simpa [zae] using ht) (hrv w (own fr H));have hev:(a.put (some t) v).eval (.tmp t)=v:=by
  have hlt:t<a.tmps.size:=by rw [st0.size];simpa [Nat.blt_eq] using ht
  simp [Act.put,Act.eval,Array.getD,hlt]
 have st2:=st1.put (d:=some t') (x:=x) (by simpa [zae] using ht') (hrv w (own fr H));have key:∀cs2,cs2=cs'→wpOpsS P #[{dst:=some t,op:=.call {callee:=.builtin .recover,args:=#[],argTypes:=ats},type:=ty,pos:=pos,after:=after,guard:=none},{dst:=some t',op:=.assign (.tmp t),type:=ty',pos:=pos',after:=after',guard:=none}] (Exit.thenS (rest.wpS P (bodyPostS P fn c₀ cs fun e u' w'=>∃v H',e=.returned v∧R u' H'∧Sim fr H' w'∧Ext H w H' w')) (bodyPostS P fn c₀ cs fun e u' w'=>∃v H',e=.returned v∧R u' H'∧Sim fr H' w'∧Ext H w H' w')) [1] (a.put (some t) v) cs2 w:=by
  rintro cs2 rfl;unfold wpOpsS;simp only [List.getElem?_toArray,List.getElem?_cons_succ,List.getElem?_cons_zero];rw [if_pos (by simp [Region.wanted])];simp only [execOp,hev,Sem.run_pure,Oper.upon_value];unfold wpOpsS
  show rest.wpS P _ _ cs2 w
  refine wpS_of_wp (wp_mono (h.out fr w _ s st2) ?_)
  rintro e a' w' ⟨T',H',q,s',st',x'⟩;cases e with
  |normal=>
   obtain ⟨⟨r,hr⟩,hR⟩:=q;obtain ⟨v2,h1,h2⟩:=hr fr w' a' s' st';exact ⟨st'.defers,u',hcs',v2,h1,v2,H',rfl,hR,s',x'⟩
  |ret=>
   obtain ⟨⟨r,hr⟩,hR⟩:=q;obtain ⟨v2,h1,h2⟩:=hr fr w' a' s' st';exact ⟨st'.defers,u',hcs',v2,h1,v2,H',rfl,hR,s',x'⟩
  |_=>exact q.elim
 unfold wpOpsS;simp only [List.getElem?_toArray,List.getElem?_cons_zero];rw [if_pos (by simp [Region.wanted])];simp only [execOp,resolve,invoke,builtin,Sem.run_bind,Sem.run_pure,Result.andThen_ok];split
 ·rename_i v' cs2 hrd
  rw [hrd] at hrec;simp only [Prod.mk.injEq] at hrec;obtain ⟨rfl,rfl⟩:=hrec;exact key _ rfl
 ·rename_i hrd
  rw [hrd] at hrec;simp only [Prod.mk.injEq] at hrec;obtain ⟨rfl,rfl⟩:=hrec;exact key _ rfl
def zfL:Value→Option A
 |.iface t (.agg cs)=>match ofVals cs.toList with
  |some l=>some (.iface t (.agg l))
  |none=>none
 |.iface t v=>match zcB v with
  |some x=>some (.iface t x)
  |none=>none
 |_=>none
where ofVals:List Value→Option (List A)
 |[]=>some []
 |v::l=>match zcB v,ofVals l with
  |some x,some xs=>some (x::xs)
  |_,_=>none
theorem zgy {w:World} {o:Nat→Prop}:∀{l:List Value} {xs:List A},zfL.ofVals l=some xs→RepL w o xs l
 |[],xs,h=>by simp only [zfL.ofVals] at h;cases h;exact .nil
 |v::l,xs,h=>by
  simp only [zfL.ofVals] at h;split at h
  ·rename_i x ys h1 h2
   cases h;exact .cons (zdI h1) (zgy h2)
  ·cases h
theorem zeT {ρ:Nat→Nat}:∀{l:List Value} {xs:List A},zfL.ofVals l=some xs→zaq 0 xs=true
 |[],xs,h=>by simp only [zfL.ofVals] at h;cases h;rfl
 |v::l,xs,h=>by
  simp only [zfL.ofVals] at h;split at h
  ·rename_i x ys h1 h2
   cases h;simp only [zaq,zbV h1,zeT (ρ:=ρ) h2,Bool.and_self]
  ·cases h
theorem zmI {w:World} {o:Nat→Prop} {v:Value} {x:A} (h:zfL v=some x):Rep w o x v:=by
 unfold zfL at h;split at h
 ·rename_i t cs
  split at h
  ·rename_i l hl
   cases h;have:=Rep.agg_of (zgy (w:=w) (o:=o) hl);exact .iface _ _ _ this
  ·cases h
 ·split at h
  ·rename_i x hx
   cases h;exact .iface _ _ _ (zdI hx)
  ·cases h
 ·cases h
theorem zjb {v:Value} {x:A} (h:zfL v=some x):scope 0 x=true:=by
 unfold zfL at h;split at h
 ·split at h
  ·rename_i l hl
   cases h;simp only [scope];exact zeT (ρ:=id) hl
  ·cases h
 ·split at h
  ·rename_i x hx
   cases h;simp only [scope];exact zbV hx
  ·cases h
 ·cases h
def zms:Code→Option (Nat×FuncId×List Operand)
 |.region _ ops false=>match ops.toList with
  |[⟨some t,.makeFunc (.func f) ⟨[]⟩ ⟨caps⟩,_,_,_,none⟩,⟨none,.defer {callee:=.value (.tmp t'),args:=⟨[]⟩,argTypes:=_},_,_,_,none⟩]=>match Nat.beq t t' with
   |true=>some (t,f,caps)
   |false=>none
  |_=>none
 |_=>none
def recX:Code→Option (Nat×Nat×Code)
 |.seq (.region _ ops false) rest=>match ops.toList with
  |[⟨some t,.call {callee:=.builtin .recover,args:=⟨[]⟩,argTypes:=_},_,_,_,none⟩,⟨some t',.assign (.tmp t2),_,_,_,none⟩]=>match Nat.beq t t2 with
   |true=>some (t,t',rest)
   |false=>none
  |_=>none
 |_=>none
def evD (P:Program) (E:Exts) (M:zc5) (N:Nat) (L:Lay) (call:zd9) (lo:Nat→Bool) (fuel:Nat):Code→Tre A→Tre Blk→Nat→Option (Option (FuncId×List A)×Exit×Tre A×Tre Blk×Nat)
 |.seq x y,T,H,n=>match zms x with
  |some (t,f,caps)=>match evsC T caps,Nat.blt t N with
   |some cs,true=>match zaA P E M N L call lo fuel y (putC (some t) (.fn f [] cs) T) H n with
    |some (e,T1,H1,n1)=>some (some (f,cs),e,T1,H1,n1)
    |none=>none
   |_,_=>none
  |none=>match zaA P E M N L call lo fuel x T H n with
   |some (.normal,T1,H1,n1)=>evD P E M N L call lo fuel y T1 H1 n1
   |some (e,T1,H1,n1)=>some (none,e,T1,H1,n1)
   |none=>none
 |c,T,H,n=>match zaA P E M N L call lo fuel c T H n with
  |some (e,T1,H1,n1)=>some (none,e,T1,H1,n1)
  |none=>none
def zjt:Exit→Option FrameMode
 |.ret|.normal=>some .returning
 |.panic ch=>some (.panicking ch)
 |_=>none
def zro:FrameMode→Bool
 |.returning=>true
 |_=>false
def recA (u:FrameMode):Option (A×FrameMode):=match recU u with
 |some (v,u')=>match zfL v with
  |some x=>some (x,u')
  |none=>none
 |none=>some (.nili,u)
def zqq (P:Program) (E:Exts) (M:zc5) (L:Lay) (call:zd9) (lo:Nat→Bool) (fuel:Nat) (f:FuncId) (args:List A) (u:FrameMode) (H:Tre Blk) (n:Nat):Option (FrameMode×Tre Blk×Nat):=match P.funcs[f]? with
 |some fn=>match fn.body with
  | some c => match fn.name == "runtime.NumGoroutine", recX c, recA u with
   |false,some (t,t',rest),some (x,u')=>match Nat.blt t (args.length+(fn.ntmps - args.length)),Nat.blt t' (args.length+(fn.ntmps - args.length)) with
    |true,true=>match zaA P E M (args.length+(fn.ntmps - args.length)) L call lo fuel rest (putC (some t') x (putC (some t) x (zeC 0 args))) H n with
     |some (e,T1,H1,n1)=>match zjt e with
      |some .returning=>match resC L T1 H1 fn.results.toList with
       |some _=>some (u',H1,n1)
       |none=>none
      |_=>none
     |none=>none
    |_,_=>none
   |_,_,_=>none
  |none=>none
 |none=>none
def zrj:Exit→Option Value
 |.panic [{v:=u,recovered:=false,goexit:=false}]=>some u
 |_=>none
def ziG (P:Program) (E:Exts) (M:zc5) (L:Lay) (fuel:Nat):Nat→zd9
 |0,_,_,_,_,_=>none
 |k+1,lo,f,args,H,n=>match P.funcs[f]? with
  |some fn=>match fn.body with
   | some c => match fn.name == "runtime.NumGoroutine" with
    |false=>match evD P E M (args.length+(fn.ntmps - args.length)) L (ziG P E M L fuel k) lo fuel c (zeC 0 args) H n with
     |some (none,e,T1,H1,n1)=>match zjt e with
      |some .returning=>match resC L T1 H1 fn.results.toList with
       |some v=>match scope n1 v with
        |true=>some (.ret v,H1,n1)
        |false=>none
       |none=>none
      |_=>match zrj e with
       |some u=>some (.pan u,H1,n1)
       |none=>none
     |some (some (g,as),e,T1,H1,n1)=>match zjt e with
      |some u=>match zqq P E M L (ziG P E M L fuel k) lo fuel g as u H1 n1 with
       |some (u',H2,n2)=>match zro (settle u') with
        |true=>match resC L T1 H2 fn.results.toList with
         |some v=>match scope n2 v with
          |true=>some (.ret v,H2,n2)
          |false=>none
         |none=>none
        |false=>none
       |none=>none
      |none=>none
     |none=>none
    |true=>none
   |none=>none
  |none=>none
section
variable {P:Program} {E:Exts} {M:zc5} {L:Lay} {call:zd9} {lo:Nat→Bool} {fuel:Nat} {fz:Nat→Prop}
theorem zmt {x:Code} {t f:Nat} {caps:List Operand} (h:zms x=some (t,f,caps)):∃(id:Nat) (ty ty':TypeId) (pos pos':String) (after after':Array Edge) (ats:Array TypeId),
  x=.region id #[{dst:=some t,op:=.makeFunc (.func f) #[] caps.toArray,type:=ty,pos:=pos,after:=after,guard:=none},{dst:=none,op:=.defer {callee:=.value (.tmp t),args:=#[],argTypes:=ats},type:=ty',pos:=pos',after:=after',guard:=none}] false:=by
 unfold zms at h;split at h
 ·rename_i id ops
  split at h
  ·rename_i t1 f1 caps1 ty pos after t2 ats ty' pos' after' hl
   split at h
   ·rename_i he
    have he:=Nat.eq_of_beq_eq_true he;subst he;cases h;refine ⟨id,ty,ty',pos,pos',after,after',ats,?_⟩;congr 1;exact Array.toList_inj.1 (by rw [hl])
   ·cases h
  ·cases h
 ·cases h
theorem zqv {c:Code} {t t':Nat} {rest:Code} (h:recX c=some (t,t',rest)):∃(id:Nat) (ty ty':TypeId) (pos pos':String) (after after':Array Edge) (ats:Array TypeId),c=zg7 id t t' ty ty' pos pos' after after' ats rest:=by
 unfold recX at h;split at h
 ·rename_i id ops rest1
  split at h
  ·rename_i t1 ats ty pos after t2 t3 ty' pos' after' hl
   split at h
   ·rename_i he
    have he:=Nat.eq_of_beq_eq_true he;subst he;cases h;refine ⟨id,ty,ty',pos,pos',after,after',ats,?_⟩;unfold zg7;congr 2;exact Array.toList_inj.1 (by rw [hl])
   ·cases h
  ·cases h
 ·cases h
theorem ziB {e:Exit} (h:zjt e=some .returning):e=.ret∨e=.normal:=by
 cases e<;>simp [zjt] at h<;>simp
theorem zi1 {e:Exit} {u:FrameMode} (h:zjt e=some u):((e=.ret∨e=.normal)∧u=.returning)∨∃ch,e=.panic ch∧u=.panicking ch:=by
 cases e<;>simp [zjt] at h<;>subst h<;>simp
theorem zpi {n0:Nat} (hL:zag P L) (hm:P.follows .mixedOrders=true) (hE:zc0 P E) (hM:zco P M) (hc:zcR P call):∀(c:Code) {Q:Option (FuncId×List A)→Exit→Env→Heap→Prop} {ρ:Nat→Nat} {n:Nat} {T:Tre A} {H:Tre Blk} {T':Env} {H':Heap} {D:Option (FuncId×List A)} {e:Exit} {T1:Tre A} {H1:Tre Blk} {n1:Nat},
  Cfg ρ n lo fz T H T' H'→evD P E M n0 L call lo fuel c T H n=some (D,e,T1,H1,n1)→
  (∀ρ1 T1' H1',Cfg ρ1 n1 lo fz T1 H1 T1' H1'→Ltr ρ n fz H' ρ1 n1 H1'→(∀f as,D=some (f,as)→zaq n1 as=true)→Q (D.map fun p=>(p.1,renL ρ1 p.2)) e T1' H1')→DWp P n0 c Q T' H':=by
 have plain:∀(c:Code) {Q:Option (FuncId×List A)→Exit→Env→Heap→Prop} {ρ:Nat→Nat} {n:Nat} {T:Tre A} {H:Tre Blk} {T':Env} {H':Heap} {D:Option (FuncId×List A)} {e:Exit} {T1:Tre A} {H1:Tre Blk} {n1:Nat},
   Cfg ρ n lo fz T H T' H'→(match zaA P E M n0 L call lo fuel c T H n with|some (e,T1,H1,n1)=>some (none,e,T1,H1,n1)|none=>none)=some (D,e,T1,H1,n1)→
   (∀ρ1 T1' H1',Cfg ρ1 n1 lo fz T1 H1 T1' H1'→Ltr ρ n fz H' ρ1 n1 H1'→(∀f as,D=some (f,as)→zaq n1 as=true)→Q (D.map fun p=>(p.1,renL ρ1 p.2)) e T1' H1')→DWp P n0 c Q T' H':=by
  intro c Q ρ n T H T' H' D e T1 H1 n1 cf h k;split at h
  ·rename_i hcode
   cases h;exact DWp.plain (zaL (N:=⟨n0,[],[]⟩) hL hm hE hM hc c cf hcode fun ρ1 T1' H1' c1 l1=>k ρ1 T1' H1' c1 l1 (fun f as e=>by cases e))
  ·cases h
 intro c
 induction c with
 |seq x y _ ihy=>
  intro Q ρ n T H T' H' D e T1 H1 n1 cf h k;simp only [evD] at h;split at h
  ·rename_i t f caps hd
   obtain ⟨id,ty,ty',pos,pos',after,after',ats,rfl⟩:=zmt hd;split at h
   ·rename_i cs hcs hlt
    split at h
    ·rename_i hcode
     cases h;have hev:=cf.r.evs hcs;have hsc:=cf.s.evs hcs;have c1:Cfg ρ n lo fz (putC (some t) (.fn f [] cs) T) H ((t,.fn f [] (renL ρ cs))::T') H':=by
      refine ⟨?_,cf.s.put _ (by simp only [scope,zaq,hsc,Bool.and_self]),cf.g⟩;have:=cf.r.put (some t) (.fn f [] cs);simpa only [ren,renL,put] using this
     refine DWp.defer hev hlt fun d=>zaL (N:=⟨n0,[d],[]⟩) hL hm hE hM hc y c1 hcode fun ρ1 T1' H1' c2 l2=>?_;have:=k ρ1 T1' H1' c2 l2 (fun f2 as e=>by cases e;exact (by
      have:=hsc;exact za9 l2.le _ this))
     simp only [Option.map_some] at this;rw [zbf l2.agree cs hsc] at this;exact this
    ·cases h
   ·cases h
  ·rename_i hnd
   split at h
   ·rename_i hx
    refine DWp.seq (zaL (N:=⟨n0,[],[]⟩) hL hm hE hM hc x cf hx fun ρ1 T1' H1' c1 l1=>?_)
    exact ihy c1 h fun ρ2 T2' H2' c2 l2 hs=>k ρ2 T2' H2' c2 (l1.trans l2) hs
   ·rename_i e2 _ _ _ hne hx
    cases h;refine DWp.seq (zaL (N:=⟨n0,[],[]⟩) hL hm hE hM hc x cf hx fun ρ1 T1' H1' c1 l1=>?_)
    have:=k ρ1 T1' H1' c1 l1 (fun f as e=>by cases e)
    cases e with
    |normal=>exact absurd hx (by intro hx';exact (hne rfl))
    |_=>exact this
   ·cases h
 |_=>intro Q ρ n T H T' H' D e T1 H1 n1 cf h k;exact plain _ cf h k
theorem zpZ {u u':FrameMode} {x:A} (h:recA u=some (x,u')):((∃v,recU u=some (v,u')∧∀w o,Rep w o x v)∨(recU u=none∧u'=u∧x=.nili))∧scope 0 x=true:=by
 unfold recA at h;split at h
 ·rename_i v u1 hu
  split at h
  ·rename_i y hy
   cases h;exact ⟨.inl ⟨v,hu,fun w o=>zmI hy⟩,zjb hy⟩
  ·cases h
 ·rename_i hu
  cases h;exact ⟨.inr ⟨hu,rfl,rfl⟩,rfl⟩
theorem zn6 (hL:zag P L) (hm:P.follows .mixedOrders=true) (hE:zc0 P E) (hM:zco P M) (hc:zcR P call) {f:FuncId} {args:List A} {u u':FrameMode} {H:Tre Blk} {n:Nat} {H1:Tre Blk} {n1:Nat} {ρ:Nat→Nat} {H':Heap}
  (h:zqq P E M L call lo fuel f args u H n=some (u',H1,n1)) (hs:zaq n args=true) (g:Good ρ n lo fz H H'):TrD P f (renL ρ args) H' u fun u2 H1'=>u2=u'∧∃ρ1,Good ρ1 n1 lo fz H1 H1'∧Ltr ρ n fz H' ρ1 n1 H1':=by
 unfold zqq at h;split at h
 ·rename_i fn hf
  split at h
  ·rename_i c hb
   split at h
   ·rename_i t t' rest x u1 hn hrx hra
    obtain ⟨id,ty,ty',pos,pos',after,after',ats,rfl⟩:=zqv hrx;obtain ⟨hx,hxs⟩:=zpZ hra;split at h
    ·rename_i ht ht'
     split at h
     ·rename_i e T1 H2 n2 hcode
      split at h
      ·rename_i ho
       split at h
       ·rename_i v hv
        cases h;refine TrD.of_recover (n:=args.length+(fn.ntmps - args.length)) hf hb hn (by rw [zaJ]) ht ht' hx ?_;have c0:Cfg ρ n lo fz (putC (some t') x (putC (some t) x (zeC 0 args))) H ((t',x)::(t,x)::zbS 0 (renL ρ args)) H':=by
         have r0:EnvR ρ (zeC 0 args) (zbS 0 (renL ρ args)):=fun t x hx=>zhv hx;have s0:EnvS n (zeC 0 args):=fun t x hx=>zdO hs hx;have hx':=zbe (Nat.zero_le n) x hxs;refine ⟨?_,(s0.put _ hx').put _ hx',g⟩;have:=(r0.put (some t) x).put (some t') x;rw [zcy ρ hxs] at this;exact this
        refine zaL (N:=⟨args.length+(fn.ntmps - args.length),[],[]⟩) hL hm hE hM hc rest c0 hcode fun ρ1 T1' H1' c1 l1=>?_;have hr:=zha (N:=⟨args.length+(fn.ntmps - args.length),[],[]⟩) hL c1 hv;rcases ziB ho with rfl|rfl
        ·exact ⟨⟨_,hr⟩,rfl,ρ1,c1.g,l1⟩
        ·exact ⟨⟨_,hr⟩,rfl,ρ1,c1.g,l1⟩
       ·cases h
      ·cases h
     ·cases h
    ·cases h
   ·cases h
  ·cases h
 ·cases h
theorem zfb (hL:zag P L) (hm:P.follows .mixedOrders=true) (hE:zc0 P E) (hM:zco P M):∀k,zcR P (ziG P E M L fuel k)
 |0=>fun lo f args H n x H1 n1 h=>by simp [ziG] at h
 |k+1=>fun lo f args H n x H1 n1 h ρ fz H' sa g=>by
  have hcall:=zfb hL hm hE hM k;simp only [ziG] at h;split at h
  ·rename_i fn hf
   split at h
   ·rename_i c hb
    split at h
    ·rename_i hn
     have c0:Cfg ρ n lo fz (zeC 0 args) H (zbS 0 (renL ρ args)) H':=⟨fun t x hx=>zhv hx,fun t x hx=>zdO sa hx,g⟩;refine TrF.of_bodyD (n:=args.length+(fn.ntmps - args.length)) hf hb hn (by rw [zaJ]) ?_;split at h
     ·rename_i e T2 H2 n2 hcode
      refine zpi hL hm hE hM hcall c c0 hcode fun ρ1 T1' H1' c1 l1 _=>?_;simp only [Option.map_none];split at h
      ·rename_i ho
       split at h
       ·rename_i v' hv
        split at h
        ·rename_i hs
         cases h;rcases ziB ho with rfl|rfl
         ·exact ⟨_,zha hL c1 hv,_,rfl,ρ1,rfl,hs,c1.g,l1⟩
         ·exact ⟨_,zha hL c1 hv,_,rfl,ρ1,rfl,hs,c1.g,l1⟩
        ·cases h
       ·cases h
      ·split at h
       ·rename_i u hu
        cases h;unfold zrj at hu;split at hu
        ·cases hu
         exact ⟨_,rfl,rfl,ρ1,c1.g,l1⟩
        ·cases hu
       ·cases h
     ·rename_i g1 as e T2 H2 n2 hcode
      refine zpi hL hm hE hM hcall c c0 hcode fun ρ1 T1' H1' c1 l1 hsc=>?_;simp only [Option.map_some];have hsc:=hsc _ _ rfl;split at h
      ·rename_i u hu
       split at h
       ·rename_i u' H3 n3 hrec
        split at h
        ·rename_i hret
         have hset:settle u'=.returning:=by
          cases hq:settle u'<;>simp [hq,zro] at hret ⊢
         split at h
         ·rename_i v hv
          split at h
          ·rename_i hs
           cases h;have htd:=zn6 (fz:=fz) hL hm hE hM hcall hrec hsc c1.g;have fin:∀u2 H3',(u2=u'∧∃ρ2,Good ρ2 n1 lo fz H1 H3'∧Ltr ρ1 n2 fz H1' ρ2 n1 H3')→settle u2=.returning∧∃r,zac P fn ⟨args.length+(fn.ntmps - args.length),[],[]⟩ T1' H3' r∧OutF ρ n lo fz H' (.ret v) H1 n1 (.ret r) H3':=by
            rintro u2 H3' ⟨rfl,ρ2,hg,hl⟩;refine ⟨hset,ren ρ2 v,zha hL ⟨c1.r.later c1.s hl.agree,c1.s.mono hl.le,hg⟩ hv,_,rfl,ρ2,rfl,hs,hg,l1.trans hl⟩
           rcases zi1 hu with ⟨rfl|rfl,rfl⟩|⟨ch,rfl,rfl⟩
           ·exact ⟨_,htd,fin⟩
           ·exact ⟨_,htd,fin⟩
           ·exact ⟨_,htd,fin⟩
          ·cases h
         ·cases h
        ·cases h
       ·cases h
      ·cases h
     ·cases h
    ·cases h
   ·cases h
  ·cases h
end
theorem PTr.runA {P:Program} {E:Exts} {M:zc5} {L:Lay} {fuel:Nat} (hL:zag P L) (hm:P.follows .mixedOrders=true) (hE:zc0 P E) (hM:zco P M) (k:Nat) {f:FuncId} {args:List A} {v:A} (ha:zaq 0 args=true) (hv:scope 0 v=true)
  (h:(match ziG P E M L fuel k (fun _=>true) f args .leaf 0 with|some (.ret v,_,_)=>some v|_=>none)=some v):PTr P f args v:=by
 split at h
 ·rename_i v' H1 n1 he
  cases h;have g:Good id 0 (fun _=>true) (fun _=>False) .leaf []:=⟨fun i b h=>by simp [Tre.get] at h,fun i j b c h=>by simp [Tre.get] at h,List.nodup_nil,fun i h=>absurd h (Nat.not_lt_zero i),fun _ _=>rfl,fun k h=>h.elim⟩
  have ht:=zfb hL hm hE hM k (fun _=>true) f args .leaf 0 _ H1 n1 he id (fun _=>False) [] ha g;rw [zaY id ha] at ht;refine (TrF.toTr (R:=Out id 0 (fun _=>true) (fun _=>False) [] v H1 n1) ht).mono ?_;rintro r H' ⟨ρ1,rfl,_,_,_⟩;exact zcy ρ1 hv
 ·cases h
theorem Ext.fresh (H:Heap) (w:World) (o:Obj):Ext H w H (w.alloc o) where
 os:=rfl
 tape:=rfl
 output:=rfl
 size:=by simp
 same k hk _:=zaO w o k hk
 keys k hk:=.inl hk
 shape k hk c T f h:=by rw [zaO w o k hk] at h;exact ⟨c,f,h,rfl⟩
theorem Sim.fresh {fr:Nat→Prop} {H:Heap} {w:World} (s:Sim fr H w) (o:Obj):Sim fr H (w.alloc o) where
 nodup:=s.nodup
 apart:=s.apart
 old k h:=by have:=s.old k h;simp;omega
 ok p hp:=by
  have h:=s.ok p hp;exact h.mono (Ext.fresh H w o).stays (zaO w o _ h.lt)
section
variable {P:Program} {N:NN} {Q:Exit→Env→Heap→Prop} {T:Env} {H:Heap} {ops rest:List Oper} {L:Lay} {ty:TypeId} {pos:String} {after:Array Edge} {guard:Option (Nat×Bool)}
theorem AOp.boxD (d:Nat) {t:TypeId} {x:Operand} {v:A} {cells:List A} (hx:ev T x=some v) (hc:v.cells=cells) (hv:v.leaf=true∨∃l,v=.agg l) (hd:zae N (some d)=true)
  (k:AOps P N ops rest Q (put (some d) (.dp cells) T) H):
  AOp P N ops ⟨some d,.box t x,ty,pos,after,guard⟩ rest Q T H:=by
 subst hc;refine AOp.sem (R:=fun v' H'=>v'=.dp v.cells∧H'=H) (fun fr w act s st=>?_) hd ?_
 ·have hr:=(zad st hx).cells hv
  have x':=Ext.fresh H w (.cells (act.eval x).cells t);refine ⟨w.alloc (.cells (act.eval x).cells t),_,.pointer (some ⟨w.heap.size,0,none⟩),_,.inl ?_,⟨rfl,rfl⟩,s.fresh _,?_,x'⟩
  ·simp only [execOp,Instr.box,newVar,newRow,Sem.run_bind,run_newObj,Result.andThen_ok,Sem.run_pure];rfl
  ·refine Rep.dp_of (hr.mono x'.stays) (fun j u hu=>?_) (fun h=>?_)
   ·rw [add_plain]
    simp only [World.cell?,heap_alloc_new];simpa using hu
   ·rcases h with h|h
    ·exact (zaN s).2 h
    ·exact (zaN s).1 h
 ·rintro v' H' ⟨rfl,rfl⟩
  exact k
def Fz (r sz:Nat) (cells:List A) (x x':A):Prop:=∀(fr:Nat→Prop) (Te:Nat) (Hr:Heap) (w:World) (v:Value),Sim fr ((r,.row Te sz [cells])::Hr) w→Rep w (own fr ((r,.row Te sz [cells])::Hr)) x v→Rep w (own fr Hr) x' v
theorem Fz.same (r sz:Nat) (cells:List A) (x:A):Fz r sz cells x x:=fun fr Te Hr w v s h=>h.mono (Stays.less fun _ h=>h.imp id (List.mem_cons_of_mem _))
theorem Fz.ptr (r sz:Nat) (cells:List A):Fz r sz cells (.ptr r sz 0 0) (.dp cells):=fun fr Te Hr w v s h=>by
 have hst:Stays w (own fr ((r,.row Te sz [cells])::Hr)) w (own fr Hr):=Stays.less fun _ h=>h.imp id (List.mem_cons_of_mem _);cases h;obtain ⟨vs,h1,h2,_,_⟩:=s.elem (i:=0) (e:=cells) List.mem_cons_self rfl;refine Rep.dp_of (h1.mono hst) ?_ fun h=>?_
 ·simpa using h2
 ·rcases h with h|h
  ·exact s.apart r List.mem_cons_self h
  ·exact (List.nodup_cons.1 (show (r::keys Hr).Nodup from s.nodup)).1 h
inductive FzL (r sz:Nat) (cells:List A):List A→List A→Prop
 |nil:FzL r sz cells [] []
 |cons {x y:A} {l m:List A} (h:Fz r sz cells x y) (t:FzL r sz cells l m):FzL r sz cells (x::l) (y::m)
theorem FzL.rep {r sz:Nat} {cells:List A} {fr:Nat→Prop} {Te:Nat} {Hr:Heap} {w:World} (s:Sim fr ((r,.row Te sz [cells])::Hr) w):∀{l m:List A} {vs:List Value},FzL r sz cells l m→RepL w (own fr ((r,.row Te sz [cells])::Hr)) l vs→RepL w (own fr Hr) m vs
 |_,_,_,.nil,h=>by cases h;exact .nil
 |_,_,_,.cons h t,k=>by cases k with|cons k1 k2=>exact .cons (h _ _ _ _ _ s k1) (FzL.rep s t k2)
theorem Fz.fn {r sz:Nat} {cells:List A} {f:FuncId} {l m:List A} (h:FzL r sz cells l m):Fz r sz cells (.fn f [] l) (.fn f [] m):=fun fr Te Hr w v s k=>by
 obtain ⟨fs,cs,rfl,h1,h2⟩:=k.fn_inv;have:=Rep.fn_of (f:=f) (h1.mono (Stays.less fun _ h=>h.imp id (List.mem_cons_of_mem _)):RepL w (own fr Hr) [] fs.toList) (h.rep s h2);simpa using this
theorem AWp.freezeF {c:Code} (t:Nat) {r Te sz:Nat} {cells:List A} {Hr:Heap} {x x':A} (hx:get T t=some x) (hp:H.Perm ((r,.row Te sz [cells])::Hr)) (hz:Fz r sz cells x x') (k:AWp P N c Q ((t,x')::T) Hr):AWp P N c Q T H:=by
 refine AWp.perm hp ⟨fun fr w a s st=>?_⟩;have hst:Stays w (own fr ((r,.row Te sz [cells])::Hr)) w (own fr Hr):=Stays.less fun _ h=>h.imp id (List.mem_cons_of_mem _);have st':St N w (own fr Hr) ((t,x')::T) a:=⟨st.size,st.defers,st.glob.mono hst,fun u y hy=>by
  rw [zat] at hy;by_cases htu:t=u
  ·subst htu
   rw [if_pos rfl] at hy;cases hy;obtain ⟨v,h1,h2⟩:=st.at_ t x hx;exact ⟨v,h1,hz _ _ _ _ _ s h2⟩
  ·rw [if_neg htu] at hy
   obtain ⟨v,h1,h2⟩:=st.at_ u y hy;exact ⟨v,h1,h2.mono hst⟩⟩
 refine wp_mono (k.out fr w a s.drop st') ?_;rintro e a' w' ⟨T',H'',q,s',st',x'⟩;exact ⟨T',H'',q,s',st',x'.drop⟩
theorem AOps.freezeF (t:Nat) {r Te sz:Nat} {cells:List A} {Hr:Heap} {x x':A} (hx:get T t=some x) (hp:H.Perm ((r,.row Te sz [cells])::Hr)) (hz:Fz r sz cells x x') (k:AOps P N ops rest Q ((t,x')::T) Hr):AOps P N ops rest Q T H:=by
 refine AOps.perm hp ⟨fun fr w a s st=>?_⟩;have hst:Stays w (own fr ((r,.row Te sz [cells])::Hr)) w (own fr Hr):=Stays.less fun _ h=>h.imp id (List.mem_cons_of_mem _);have st':St N w (own fr Hr) ((t,x')::T) a:=⟨st.size,st.defers,st.glob.mono hst,fun u y hy=>by
  rw [zat] at hy;by_cases htu:t=u
  ·subst htu
   rw [if_pos rfl] at hy;cases hy;obtain ⟨v,h1,h2⟩:=st.at_ t x hx;exact ⟨v,h1,hz _ _ _ _ _ s h2⟩
  ·rw [if_neg htu] at hy
   obtain ⟨v,h1,h2⟩:=st.at_ u y hy;exact ⟨v,h1,h2.mono hst⟩⟩
 refine zaG ?_ _ _ _ (k.out fr w a s.drop st');rintro e a' w' ⟨T',H'',q,s',st',x'⟩;exact ⟨T',H'',q,s',st',x'.drop⟩
inductive Del:Heap→Nat→Blk→Heap→Prop
 |here {r:Nat} {b:Blk} {H:Heap}:Del ((r,b)::H) r b H
 |there {r:Nat} {b:Blk} {p:Nat×Blk} {H H':Heap} (h:Del H r b H'):Del (p::H) r b (p::H')
def zlq (G:List (Nat×List A)) (P:Program) (v:A) (args:List A) (H:Heap) (R:A→Heap→Prop):Prop:=∃f first cap,v=.fn f first cap∧TrG G P f (first++args++cap) H R
theorem AOp.callH {dst:Option Nat} {callee:Operand} {l:List Operand} {ats:Array TypeId} {f:FuncId} {first cap as:List A} {R:A→Heap→Prop} (hf:ev T callee=some (.fn f first cap)) (ha:evs T l=some as) (hd:zae N dst=true)
  (ht:TrG N.g P f (first++as++cap) H R) (k:∀r H',R r H'→AOps P N ops rest Q (put dst r T) H'):
  AOp P N ops ⟨dst,.call {callee:=.value callee,args:=l.toArray,argTypes:=ats},ty,pos,after,guard⟩ rest Q T H:=
 AOp.callG (F:=[]) hf ha hd (by rw [List.append_nil]) ht fun r H' h=>by rw [List.append_nil];exact k r H' h
theorem AOp.callB {dst:Option Nat} {callee:Operand} {l:List Operand} {ats:Array TypeId} {f:FuncId} {first cap as:List A} {Hx Hc:Heap} {R:A→Heap→Prop} (hf:ev T callee=some (.fn f first cap)) (ha:evs T l=some as) (hd:zae N dst=true)
  (hH:H=Hx++Hc) (ht:TrG N.g P f (first++as++cap) Hc R) (k:∀r H',R r H'→AOps P N ops rest Q (put dst r T) (H'++Hx)):
  AOp P N ops ⟨dst,.call {callee:=.value callee,args:=l.toArray,argTypes:=ats},ty,pos,after,guard⟩ rest Q T H:=
 AOp.callG (F:=Hx) hf ha hd (by rw [hH];exact List.perm_append_comm) ht k
theorem AOp.callK (Hx:Heap) {dst:Option Nat} {callee:Operand} {l:List Operand} {ats:Array TypeId} {f:FuncId} {first cap as:List A} {Hc:Heap} {R:A→Heap→Prop} (hf:ev T callee=some (.fn f first cap)) (ha:evs T l=some as) (hd:zae N dst=true)
  (hH:H=Hx++Hc) (ht:TrG N.g P f (first++as++cap) Hc R) (k:∀r H',R r H'→AOps P N ops rest Q (put dst r T) (Hx++H')):
  AOp P N ops ⟨dst,.call {callee:=.value callee,args:=l.toArray,argTypes:=ats},ty,pos,after,guard⟩ rest Q T H:=
 AOp.callB hf ha hd hH ht fun r H' h=>AOps.perm List.perm_append_comm (k r H' h)
end
end Go.Abs
namespace Go.Abs.Flex
open Go Go.Abs
def zbc (K:Oper→Nat) (x y:Oper):Bool:=match K x,K y with
 |3,_|_,3=>true
 |2,0|0,2|0,0|0,1|1,0|1,1=>true
 |_,_=>false
def chk (K:Oper→Nat) (ops:List Oper):Bool:=
 let b:=anc ops
 Region.noSelect ops.toArray&&
 ops.zipIdx.all fun (o,i)=>
  (o.after.toList.all fun e=>match Region.binds .any e with|true=>Nat.blt e.on i|false=>true)&&
  (ops.take i).zipIdx.all fun (x,j)=>(b.getD i 0).testBit j||(x.apart ops.toArray o&&zbc K x o)
def Plan (P:Program) (N:NN) (L:Lay) (K:Oper→Nat) (bv:Nat→A) (ops:Array Oper) (Q:Env→Heap→Prop):List Oper→Env→Heap→Prop
 |[],T,H=>∃T0,(∀t x,get T0 t=some x→get T t=some x)∧Q T0 H
 |o::rest,T,H=>zae N o.dst=true∧
   ((zas ops (restr T (o.looksAt ops)) o=some true∧∃v,sOpX P L (restr T (o.looksAt ops)) o.op=some v∧Plan P N L K bv ops Q rest (put o.dst v T) H)∨
    (zas ops (restr T (o.looksAt ops)) o=some false∧Plan P N L K bv ops Q rest (put o.dst (.tup []) T) H)∨
    ((K o=1∨K o=2)∧zas ops (restr T (o.looksAt ops)) o=some true∧∃v,AOp P N [] o [] (Qn o (restr T (o.looksAt ops)) fun r H'=>r=v∧H'=H) (restr T (o.looksAt ops)) H∧Plan P N L K bv ops Q rest (put o.dst v T) H)∨
    (K o=2∧zas ops (restr T (o.looksAt ops)) o=some true∧∃R,((∃v H',R v H')∧AOp P N [] o [] (Qn o (restr T (o.looksAt ops)) R) (restr T (o.looksAt ops)) H)∧∀v H',R v H'→Plan P N L K bv ops Q rest (put o.dst v T) H')∨
    ((K o=3∧sOpX P L (restr T (o.looksAt ops)) o.op=none)∧zas ops (restr T (o.looksAt ops)) o=some true∧∃v,o.dst.map bv=some v∧(∀H,AOp P N [] o [] (Qn o (restr T (o.looksAt ops)) fun r H'=>r=v∧H'=H) (restr T (o.looksAt ops)) H)∧Plan P N L K bv ops Q rest (put o.dst v T) H))
section
variable {P:Program} {N:NN} {L:Lay} {K:Oper→Nat} {bv:Nat→A} {ops:Array Oper} {Q:Env→Heap→Prop}
theorem Plan.cong:∀{l:List Oper} {T T':Env} {H:Heap},(∀t,get T t=get T' t)→Plan P N L K bv ops Q l T H→Plan P N L K bv ops Q l T' H
 |[],T,T',H,he,⟨T0,h1,h2⟩=>⟨T0,fun t x h=>by rw [←he];exact h1 t x h,h2⟩
 |o::rest,T,T',H,he,⟨hd,h⟩=>by
  have hr:restr T (o.looksAt ops)=restr T' (o.looksAt ops):=zbz _ fun t _=>he t;have hp:∀v t,get (put o.dst v T) t=get (put o.dst v T') t:=by
   intro v t;cases o.dst with
   |none=>exact he t
   |some d=>simp only [put,zat,he t]
  refine ⟨hd,?_⟩;rw [hr] at h;rcases h with ⟨h1,v,h2,h3⟩|⟨h1,h3⟩|⟨h0,h1,v,h2,h3⟩|⟨h0,h1,R,h2,h3⟩|⟨h0,h1,v,hb,h2,h3⟩
  ·exact .inl ⟨h1,v,h2,h3.cong (hp v)⟩
  ·exact .inr (.inl ⟨h1,h3.cong (hp _)⟩)
  ·exact .inr (.inr (.inl ⟨h0,h1,v,h2,h3.cong (hp v)⟩))
  ·exact .inr (.inr (.inr (.inl ⟨h0,h1,R,h2,fun v H' hR=>(h3 v H' hR).cong (hp v)⟩)))
  ·exact .inr (.inr (.inr (.inr ⟨h0,h1,v,hb,h2,h3.cong (hp v)⟩)))
theorem zkQ {x o:Oper} (hc:zbc K x o=true):(K x=2→K o=0∨K o=3)∧(K o=2→K x=0∨K x=3):=by
 unfold zbc at hc;refine ⟨fun h=>?_,fun h=>?_⟩
 ·rw [h] at hc
  match ho:K o with
  |0=>exact .inl rfl
  |1=>rw [ho] at hc;cases hc
  |2=>rw [ho] at hc;cases hc
  |3=>exact .inr rfl
  |n+4=>rw [ho] at hc;cases hc
 ·rw [h] at hc
  match ho:K x with
  |0=>exact .inl rfl
  |1=>rw [ho] at hc;cases hc
  |2=>rw [ho] at hc;cases hc
  |3=>exact .inr rfl
  |n+4=>rw [ho] at hc;cases hc
theorem Plan.swap {x o:Oper} {r:List Oper} {T:Env} {H:Heap} (ha:x.apart ops o=true) (hc:zbc K x o=true) (h:Plan P N L K bv ops Q (x::o::r) T H):Plan P N L K bv ops Q (o::x::r) T H:=by
 obtain ⟨h1,h2,h3⟩:=Oper.apart_spec ha;have r1:∀v,restr (put x.dst v T) (o.looksAt ops)=restr T (o.looksAt ops):=fun v=>zbM h1;have r2:∀v,restr (put o.dst v T) (x.looksAt ops)=restr T (x.looksAt ops):=fun v=>zbM h3;have sw:∀u v t,get (put o.dst v (put x.dst u T)) t=get (put x.dst u (put o.dst v T)) t:=fun u v t=>zfi h2 t;obtain ⟨hd,h⟩:=h;obtain ⟨hcx,hco⟩:=zkQ hc;rcases h with ⟨w1,u,e1,hd2,h⟩|⟨w1,hd2,h⟩|⟨c1,w1,u,e1,hd2,h⟩|⟨c1,w1,R,e1,h⟩|⟨c1,w1,u,hbu,e1,hd2,h⟩
 ·rw [r1 u] at h
  have q:∀{v:A} {H':Heap},Plan P N L K bv ops Q r (put o.dst v (put x.dst u T)) H'→Plan P N L K bv ops Q (x::r) (put o.dst v T) H':=fun k=>⟨hd,.inl ⟨by rw [r2];exact w1,u,by rw [r2];exact e1,k.cong (sw u _)⟩⟩
  rcases h with ⟨w2,v,e2,k⟩|⟨w2,k⟩|⟨c2,w2,v,e2,k⟩|⟨c2,w2,R,e2,k⟩|⟨c2,w2,v,hbv,e2,k⟩
  ·exact ⟨hd2,.inl ⟨w2,v,e2,q k⟩⟩
  ·exact ⟨hd2,.inr (.inl ⟨w2,q k⟩)⟩
  ·exact ⟨hd2,.inr (.inr (.inl ⟨c2,w2,v,e2,q k⟩))⟩
  ·exact ⟨hd2,.inr (.inr (.inr (.inl ⟨c2,w2,R,e2,fun v H' hR=>q (k v H' hR)⟩)))⟩
  ·exact ⟨hd2,.inr (.inr (.inr (.inr ⟨c2,w2,v,hbv,e2,q k⟩)))⟩
 ·rw [r1] at h
  have q:∀{v:A} {H':Heap},Plan P N L K bv ops Q r (put o.dst v (put x.dst (.tup []) T)) H'→Plan P N L K bv ops Q (x::r) (put o.dst v T) H':=fun k=>⟨hd,.inr (.inl ⟨by rw [r2];exact w1,k.cong (sw _ _)⟩)⟩
  rcases h with ⟨w2,v,e2,k⟩|⟨w2,k⟩|⟨c2,w2,v,e2,k⟩|⟨c2,w2,R,e2,k⟩|⟨c2,w2,v,hbv,e2,k⟩
  ·exact ⟨hd2,.inl ⟨w2,v,e2,q k⟩⟩
  ·exact ⟨hd2,.inr (.inl ⟨w2,q k⟩)⟩
  ·exact ⟨hd2,.inr (.inr (.inl ⟨c2,w2,v,e2,q k⟩))⟩
  ·exact ⟨hd2,.inr (.inr (.inr (.inl ⟨c2,w2,R,e2,fun v H' hR=>q (k v H' hR)⟩)))⟩
  ·exact ⟨hd2,.inr (.inr (.inr (.inr ⟨c2,w2,v,hbv,e2,q k⟩)))⟩
 ·rw [r1 u] at h
  have q:∀{v:A},Plan P N L K bv ops Q r (put o.dst v (put x.dst u T)) H→Plan P N L K bv ops Q (x::r) (put o.dst v T) H:=fun k=>⟨hd,.inr (.inr (.inl ⟨c1,by rw [r2];exact w1,u,by rw [r2];exact e1,k.cong (sw u _)⟩))⟩
  rcases h with ⟨w2,v,e2,k⟩|⟨w2,k⟩|⟨c2,w2,v,e2,k⟩|⟨c2,w2,R,e2,k⟩|⟨c2,w2,v,hbv,e2,k⟩
  ·exact ⟨hd2,.inl ⟨w2,v,e2,q k⟩⟩
  ·exact ⟨hd2,.inr (.inl ⟨w2,q k⟩)⟩
  ·exact ⟨hd2,.inr (.inr (.inl ⟨c2,w2,v,e2,q k⟩))⟩
  ·have:=hco c2;omega
  ·exact ⟨hd2,.inr (.inr (.inr (.inr ⟨c2,w2,v,hbv,e2,q k⟩)))⟩
 ·have ho:=hcx c1
  have putx:∀{v:A},(∀v1 H1,R v1 H1→Plan P N L K bv ops Q r (put o.dst v (put x.dst v1 T)) H1)→Plan P N L K bv ops Q (x::r) (put o.dst v T) H:=fun k=>
   ⟨hd,.inr (.inr (.inr (.inl ⟨c1,by rw [r2];exact w1,R,⟨e1.1,by rw [r2];exact e1.2⟩,fun v H' hR=>(k v H' hR).cong (sw v _)⟩)))⟩
  obtain ⟨v0,H0,hR0⟩:=e1.1;have hdo:=(h v0 H0 hR0).1;have key:∀v H',R v H'→(zas ops (restr T (o.looksAt ops)) o=some true∧∃u,sOpX P L (restr T (o.looksAt ops)) o.op=some u∧Plan P N L K bv ops Q r (put o.dst u (put x.dst v T)) H')∨
    (zas ops (restr T (o.looksAt ops)) o=some false∧Plan P N L K bv ops Q r (put o.dst (.tup []) (put x.dst v T)) H')∨
    ((K o=3∧sOpX P L (restr T (o.looksAt ops)) o.op=none)∧zas ops (restr T (o.looksAt ops)) o=some true∧∃u,o.dst.map bv=some u∧(∀H,AOp P N [] o [] (Qn o (restr T (o.looksAt ops)) fun r H'=>r=u∧H'=H) (restr T (o.looksAt ops)) H)∧Plan P N L K bv ops Q r (put o.dst u (put x.dst v T)) H'):=by
   intro v H' hR;obtain ⟨_,k⟩:=h v H' hR;rw [r1 v] at k;rcases k with k|k|⟨c2,_⟩|⟨c2,_⟩|k
   ·exact .inl k
   ·exact .inr (.inl k)
   ·omega
   ·omega
   ·exact .inr (.inr k)
  by_cases hw:zas ops (restr T (o.looksAt ops)) o=some false
  ·refine ⟨hdo,.inr (.inl ⟨hw,putx fun v H' hR=>?_⟩)⟩
   rcases key v H' hR with ⟨w2,_⟩|⟨_,k⟩|⟨_,w2,_⟩
   ·rw [hw] at w2;cases w2
   ·exact k
   ·rw [hw] at w2;cases w2
  by_cases hs:∃u,sOpX P L (restr T (o.looksAt ops)) o.op=some u
  ·obtain ⟨u,hu⟩:=hs
   refine ⟨hdo,.inl ⟨?_,u,hu,putx fun v H' hR=>?_⟩⟩
   ·rcases key v0 H0 hR0 with ⟨w2,_⟩|⟨w2,_⟩|⟨_,w2,_⟩
    ·exact w2
    ·exact absurd w2 hw
    ·exact w2
   ·rcases key v H' hR with ⟨w2,u',e2',k⟩|⟨w2,_⟩|⟨⟨_,c3⟩,_⟩
    ·rw [hu] at e2';cases e2';exact k
    ·exact absurd w2 hw
    ·rw [hu] at c3;cases c3
  ·refine ⟨hdo,.inr (.inr (.inr (.inr ?_)))⟩
   rcases key v0 H0 hR0 with ⟨w2,u,e2,_⟩|⟨w2,_⟩|⟨c3,w2,u,hb,e3,_⟩
   ·exact absurd ⟨u,e2⟩ hs
   ·exact absurd w2 hw
   ·refine ⟨c3,w2,u,hb,e3,putx fun v H' hR=>?_⟩
    rcases key v H' hR with ⟨_,u',e2',_⟩|⟨w2',_⟩|⟨_,_,u',hb',_,k⟩
    ·exact absurd ⟨u',e2'⟩ hs
    ·exact absurd w2' hw
    ·rw [hb] at hb';cases hb';exact k
 ·rw [r1 u] at h
  have q:∀{v:A} {H':Heap},Plan P N L K bv ops Q r (put o.dst v (put x.dst u T)) H'→Plan P N L K bv ops Q (x::r) (put o.dst v T) H':=fun k=>⟨hd,.inr (.inr (.inr (.inr ⟨⟨c1.1,by rw [r2];exact c1.2⟩,by rw [r2];exact w1,u,hbu,by rw [r2];exact e1,k.cong (sw u _)⟩)))⟩
  rcases h with ⟨w2,v,e2,k⟩|⟨w2,k⟩|⟨c2,w2,v,e2,k⟩|⟨c2,w2,R,e2,k⟩|⟨c2,w2,v,hbv,e2,k⟩
  ·exact ⟨hd2,.inl ⟨w2,v,e2,q k⟩⟩
  ·exact ⟨hd2,.inr (.inl ⟨w2,q k⟩)⟩
  ·exact ⟨hd2,.inr (.inr (.inl ⟨c2,w2,v,e2,q k⟩))⟩
  ·exact ⟨hd2,.inr (.inr (.inr (.inl ⟨c2,w2,R,e2,fun v H' hR=>q (k v H' hR)⟩)))⟩
  ·exact ⟨hd2,.inr (.inr (.inr (.inr ⟨c2,w2,v,hbv,e2,q k⟩)))⟩
theorem Plan.first {o:Oper}:∀{l1 l2:List Oper} {T:Env} {H:Heap},(∀x∈l1,x.apart ops o=true∧zbc K x o=true)→Plan P N L K bv ops Q (l1++o::l2) T H→Plan P N L K bv ops Q (o::(l1++l2)) T H
 |[],l2,T,H,_,h=>h
 |x::l1,l2,T,H,hc,h=>by
  refine Plan.swap (hc x List.mem_cons_self).1 (hc x List.mem_cons_self).2 ?_;have hc':∀y∈l1,y.apart ops o=true∧zbc K y o=true:=fun y hy=>hc y (List.mem_cons_of_mem _ hy);obtain ⟨hd,h⟩:=h;refine ⟨hd,?_⟩;rcases h with ⟨h1,v,h2,h3⟩|⟨h1,h3⟩|⟨h0,h1,v,h2,h3⟩|⟨h0,h1,R,h2,h3⟩|⟨h0,h1,v,hb,h2,h3⟩
  ·exact .inl ⟨h1,v,h2,Plan.first hc' h3⟩
  ·exact .inr (.inl ⟨h1,Plan.first hc' h3⟩)
  ·exact .inr (.inr (.inl ⟨h0,h1,v,h2,Plan.first hc' h3⟩))
  ·exact .inr (.inr (.inr (.inl ⟨h0,h1,R,h2,fun v H' hR=>Plan.first hc' (h3 v H' hR)⟩)))
  ·exact .inr (.inr (.inr (.inr ⟨h0,h1,v,hb,h2,Plan.first hc' h3⟩)))
end
theorem zcg {K:Oper→Nat} {ops:List Oper} (h:chk K ops=true):∀(i:Nat) (o:Oper),ops[i]?=some o→(∀e∈o.after.toList,Region.binds .any e=true→e.on<i)∧
  ∀(j:Nat) (x:Oper),j<i→ops[j]?=some x→((anc ops).getD i 0).testBit j=true∨(x.apart ops.toArray o=true∧zbc K x o=true):=by
 simp only [chk,Bool.and_eq_true,List.all_eq_true] at h;intro i o ho;have h1:=h.2 (o,i) (List.mem_zipIdx_iff_getElem?.2 ho);refine ⟨fun e he hb=>?_,fun j x hj hx=>?_⟩
 ·have:=h1.1 e he
  rw [hb] at this;simpa [Nat.blt_eq] using this
 ·have h2:=h1.2 (x,j) (List.mem_zipIdx_iff_getElem?.2 (by simp only;rw [List.getElem?_take,if_pos hj];exact hx))
  rw [Bool.or_eq_true,Bool.and_eq_true] at h2;exact h2
theorem Plan.any {P:Program} {N:NN} {L:Lay} {K:Oper→Nat} {bv:Nat→A} {ops:List Oper} {Q0:Exit→Env→Heap→Prop} (hL:zag P L) (hc:chk K ops=true):∀(fuel:Nat) (listed:Array Bool) (T:Env) (H:Heap),listed.size=ops.length→
  (∀k o,ops[k]?=some o→listed.getD k false=true→∀e∈o.after.toList,Region.binds .any e=true→listed.getD e.on false=true)→(unl listed 0 ops).length≤fuel→Plan P N L K bv ops.toArray (Q0 .normal) (unl listed 0 ops) T H→
  ∀(fr:Nat→Prop) (w:World) (a:Act),Sim fr H w→St N w (own fr H) T a→wpAny P .any ops.toArray (Post N fr H w Q0) fuel listed a w:=by
 intro fuel
 -- nothing is ready only if all is listed
 have done:∀(listed:Array Bool) (T:Env) (H:Heap),listed.size=ops.length→Region.ready .any ops.toArray listed=[]→Plan P N L K bv ops.toArray (Q0 .normal) (unl listed 0 ops) T H→
   ∀(fr:Nat→Prop) (w:World) (a:Act),Sim fr H w→St N w (own fr H) T a→Post N fr H w Q0 .normal a w:=by
  intro listed T H hs hr hp fr w a s st;have hnil:unl listed 0 ops=[]:=by
   apply Classical.byContradiction
   intro hne;obtain ⟨i,o,h1,h2,h3⟩:=zd4 hne;rw [Nat.zero_add] at h2;have:i∈Region.ready .any ops.toArray listed:=mem_ready.2 ⟨h2,o,by simpa using h1,fun e he hb=>by
    have hlt:=(zcg hc i o h1).1 e (by simpa using he) hb;have:=h3 e.on hlt;rw [Nat.zero_add] at this;have hi:=(List.getElem?_eq_some_iff.1 h1).1;rw [←zbO (by omega)];exact this⟩
   rw [hr] at this;cases this
  rw [hnil] at hp;obtain ⟨T0,h1,h2⟩:=hp;exact ⟨T0,H,h2,s,st.sub h1,Ext.refl H w⟩
 induction fuel with
 |zero=>
  intro listed T H hs hcl hf hp fr w a s st;have hnil:unl listed 0 ops=[]:=List.eq_nil_of_length_eq_zero (by omega);have hr:Region.ready .any ops.toArray listed=[]:=by
   apply Classical.byContradiction
   intro hne;obtain ⟨i,hi⟩:=List.exists_mem_of_ne_nil _ hne;obtain ⟨h0,o,ho,_⟩:=mem_ready.1 hi;have ho':ops[i]?=some o:=by simpa using ho
   have hlt:=(List.getElem?_eq_some_iff.1 ho').1;obtain ⟨l1,l2,h1,_⟩:=zb2 (k:=0) ho' (by rw [Nat.zero_add];exact h0) (by omega);rw [hnil] at h1;simp at h1
  exact ⟨hr,done listed T H hs hr hp fr w a s st⟩
 |succ fuel ih=>
  intro listed T H hs hcl hf hp fr w a s st;refine ⟨fun hr=>done listed T H hs hr hp fr w a s st,fun i hi=>?_⟩;obtain ⟨h0,o,ho,hedge⟩:=mem_ready.1 hi;have ho':ops[i]?=some o:=by simpa using ho
  have hlt:=(List.getElem?_eq_some_iff.1 ho').1;obtain ⟨l1,l2,h1,h2,h3⟩:=zb2 (k:=0) ho' (by rw [Nat.zero_add];exact h0) (by omega);rw [Nat.zero_add] at h2;rw [h1] at hp hf;have hp:=Plan.first (fun x hx=>by
   obtain ⟨j,hj,hxj,hjl⟩:=h3 x hx;rw [Nat.zero_add] at hjl;rcases (zcg hc i o ho').2 j x hj hxj with hb|hb
   ·have:=(zfc ops).2 i j hb listed hcl (fun o2 ho2 e he hb=>by
     rw [ho'] at ho2;cases ho2;exact hedge e (by simpa using he) hb)
    rw [←zbO (by omega),hjl] at this;cases this
   ·exact hb) hp
  rw [←h2] at hp;have hs':(listed.setIfInBounds i true).size=ops.length:=by simpa using hs
  have hcl':∀k o,ops[k]?=some o→(listed.setIfInBounds i true).getD k false=true→∀e∈o.after.toList,Region.binds .any e=true→(listed.setIfInBounds i true).getD e.on false=true:=by
   intro k o2 ho2 hk e he hb;refine getD_set_true ?_;by_cases hki:k=i
   ·subst hki
    rw [ho'] at ho2;cases ho2;exact hedge e (by simpa using he) hb
   ·rw [getD_set_ne false (Ne.symm hki)] at hk
    exact hcl k o2 ho2 hk e he hb
  have hf':(unl (listed.setIfInBounds i true) 0 ops).length≤fuel:=by
   rw [h2];simp only [List.length_append,List.length_cons] at hf ⊢;omega
  have hlook:∀c,zas ops.toArray (restr T (o.looksAt ops.toArray)) o=some c→Region.wanted o (yielded ops.toArray a.tmps)=c:=fun c h=>zfg (st.sub (zbK T _)) h;obtain ⟨hd,hp⟩:=hp;unfold wpOp;rw [ho];simp only;have next:∀v H' w' v',Sim fr H' w'→St N w' (own fr H') (put o.dst v T) (a.put o.dst v')→Ext H w H' w'→Plan P N L K bv ops.toArray (Q0 .normal) (unl (listed.setIfInBounds i true) 0 ops) (put o.dst v T) H'→
    wpAny P .any ops.toArray (Post N fr H w Q0) fuel (listed.setIfInBounds i true) (a.put o.dst v') w':=fun v H' w' v' s' st' x hp'=>
   zaZ (fun _ _ _=>Post.of_ext x) _ _ _ _ (ih _ _ _ hs' hcl' hf' hp' fr w' _ s' st')
  rcases hp with ⟨w1,v,e1,hp⟩|⟨w1,hp⟩|⟨_,w1,v,e1,hp⟩|⟨_,w1,R,⟨_,e1⟩,hp⟩|⟨_,w1,v,_,e1,hp⟩
  ·rw [hlook _ w1,if_pos rfl]
   refine .inl (AOp.node (R:=fun r H'=>r=v∧H'=H) (AOp.simpleX hL e1 hd (AOps.nil ⟨v,⟨rfl,rfl⟩,rfl⟩)) hd s st ?_)
   rintro u H' w' v' ⟨rfl,rfl⟩ s' st' x;exact next _ _ w' v' s' st' x hp
  ·rw [hlook _ w1,if_neg (by simp)]
   exact next _ _ w undef s (st.put hd (Rep.tup_of .nil)) (Ext.refl H w) hp
  ·rw [hlook _ w1,if_pos rfl]
   refine .inl (AOp.node e1 hd s st ?_)
   rintro u H' w' v' ⟨rfl,rfl⟩ s' st' x;exact next _ _ w' v' s' st' x hp
  ·rw [hlook _ w1,if_pos rfl]
   refine .inl (AOp.node e1 hd s st ?_)
   intro u H' w' v' hR s' st' x;exact next _ _ w' v' s' st' x (hp u H' hR)
  ·rw [hlook _ w1,if_pos rfl]
   refine .inl (AOp.node (e1 H) hd s st ?_)
   rintro u H' w' v' ⟨rfl,rfl⟩ s' st' x;exact next _ _ w' v' s' st' x hp
theorem AWp.draw (K:Oper→Nat) (bv:Nat→A) {P:Program} {N:NN} {L:Lay} {ops:List Oper} {Q:Exit→Env→Heap→Prop} {T:Env} {H:Heap} {id:Nat} (hL:zag P L) (hm:P.follows .mixedOrders=true) (hc:chk K ops=true) (h:Plan P N L K bv ops.toArray (Q .normal) ops T H):
  AWp P N (.region id ops.toArray true) Q T H:=by
 refine ⟨fun fr w a s st=>wp_region_any hm ?_⟩;have hun:∀(l:List Oper) (k n:Nat),k+l.length≤n→unl (Array.replicate n false) k l=l:=by
  intro l
  induction l with
  |nil=>intros;rfl
  |cons o l ih=>
   intro k n hk;simp only [List.length_cons] at hk;simp only [unl];rw [if_neg (by simp [Array.getD,show k<n by omega]),ih (k+1) n (by omega)]
 have h0:=Plan.any (Q0:=Q) hL hc ops.toArray.size (Array.replicate ops.toArray.size false) T H (by simp) (fun k o _ hk=>by simp [Array.getD] at hk) (by rw [hun _ _ _ (by simp)];simp) (by rw [hun _ _ _ (by simp)];exact h)
  fr w.drew a s.drew (st.mono (Ext.drew H w).stays)
 exact zaZ (fun _ _ _=>Post.of_ext (Ext.drew H w)) _ _ _ _ h0
section
variable {P:Program} {N:NN} {L:Lay} {K:Oper→Nat} {bv:Nat→A} {ops:Array Oper} {Q:Env→Heap→Prop} {o:Oper} {rest:List Oper} {T:Env} {H:Heap}
theorem Plan.nil (h:Q T H):Plan P N L K bv ops Q [] T H:=⟨T,fun _ _ h=>h,h⟩
theorem Plan.pure {v:A} (hd:zae N o.dst=true) (hw:zas ops (restr T (o.looksAt ops)) o=some true) (hv:sOp L (restr T (o.looksAt ops)) o.op=some v) (k:Plan P N L K bv ops Q rest (put o.dst v T) H):Plan P N L K bv ops Q (o::rest) T H:=⟨hd,.inl ⟨hw,v,zgY hv,k⟩⟩
theorem Plan.quiet {v:A} (hd:zae N o.dst=true) (hw:zas ops (restr T (o.looksAt ops)) o=some true) (hcl:K o=1∨K o=2) (h:AOp P N [] o [] (Qn o (restr T (o.looksAt ops)) fun r H'=>r=v∧H'=H) (restr T (o.looksAt ops)) H)
  (k:Plan P N L K bv ops Q rest (put o.dst v T) H):Plan P N L K bv ops Q (o::rest) T H:=⟨hd,.inr (.inr (.inl ⟨hcl,hw,v,h,k⟩))⟩
theorem Plan.eff {R:A→Heap→Prop} (hd:zae N o.dst=true) (hw:zas ops (restr T (o.looksAt ops)) o=some true) (hcl:K o=2) (hne:∃v H',R v H') (h:AOp P N [] o [] (Qn o (restr T (o.looksAt ops)) R) (restr T (o.looksAt ops)) H)
  (k:∀v H',R v H'→Plan P N L K bv ops Q rest (put o.dst v T) H'):Plan P N L K bv ops Q (o::rest) T H:=⟨hd,.inr (.inr (.inr (.inl ⟨hcl,hw,R,⟨hne,h⟩,k⟩)))⟩
theorem Plan.eff1 {v:A} {H1:Heap} (hd:zae N o.dst=true) (hw:zas ops (restr T (o.looksAt ops)) o=some true) (hcl:K o=2) (h:AOp P N [] o [] (Qn o (restr T (o.looksAt ops)) fun r H'=>r=v∧H'=H1) (restr T (o.looksAt ops)) H)
  (k:Plan P N L K bv ops Q rest (put o.dst v T) H1):Plan P N L K bv ops Q (o::rest) T H:=Plan.eff hd hw hcl ⟨v,H1,rfl,rfl⟩ h fun _ _ ⟨h1,h2⟩=>by subst h1 h2;exact k
theorem Plan.made {v:A} (hd:zae N o.dst=true) (hw:zas ops (restr T (o.looksAt ops)) o=some true) (hcl:K o=3) (hn:sOpX P L (restr T (o.looksAt ops)) o.op=none) (hb:o.dst.map bv=some v) (h:∀H,AOp P N [] o [] (Qn o (restr T (o.looksAt ops)) fun r H'=>r=v∧H'=H) (restr T (o.looksAt ops)) H)
  (k:Plan P N L K bv ops Q rest (put o.dst v T) H):Plan P N L K bv ops Q (o::rest) T H:=⟨hd,.inr (.inr (.inr (.inr ⟨⟨hcl,hn⟩,hw,v,hb,h,k⟩)))⟩
theorem Qn_n {R:A→Heap→Prop} {v:A} (h:R v H):Qn o T R .normal (put o.dst v T) H:=⟨v,h,rfl⟩
end
end Go.Abs.Flex
namespace Go.Abs
open Go
section
variable {P:Program} {N:NN} {T:Env} {H:Heap} {L:Lay} {ty:TypeId} {pos:String} {after:Array Edge} {guard:Option (Nat×Bool)}
theorem zd1 (d:Nat) (x y:A) (T:Env):∀t z,get (put (some d) x T) t=some z→get ((d,x)::put (some d) y T) t=some z:=by
 intro t z h;simp only [put,zat] at h ⊢;by_cases e:d=t
 ·rw [if_pos e] at h ⊢;exact h
 ·rw [if_neg e] at h ⊢;rw [if_neg e];exact h
theorem AOp.buildD (d:Nat) {t:TypeId} {n e:Nat} {parts:List (Nat×Operand)} {ps:List (Nat×A)} {ti ei:TI} {out:List A} {elems:List (List A)} (hL:zag P L) (hp:evParts T parts=some ps) (ht:lay L t=some ti) (he:ti.td=.slice e)
  (hei:lay L e=some ei) (ho:zdK ei.size (rep n ei.zero) ps=some out) (hel:zck ei.size n out=elems) (hsm:Nat.ble (n*ei.size) 16777216=true) (hpos:Nat.ble 1 ei.size=true) (hz:Nat.beq ei.zero.length ei.size=true) (hl:zah out=true) (hd:zae N (some d)=true) (hn:elems.length=n):
  AOp P N [] ⟨some d,.buildSlice t n parts.toArray,ty,pos,after,guard⟩ [] (Qn ⟨some d,.buildSlice t n parts.toArray,ty,pos,after,guard⟩ T fun r H'=>r=.ds elems∧H'=H) T H:=by
 refine AOp.buildSlice hL hp ht he hei ho hel hsm hpos hz hl hd fun r hr=>?_;refine AOps.perm (H':=H++[(r,.row e ei.size elems)]) (List.perm_append_comm (l₁:=[_])) ?_;refine AOps.freezeG (t:=d) (g:=some r) (elems:=elems) (pre:=H) (sz:=ei.size) (e:=e) (by rw [hn];simp only [put,zat,outV,if_true]) (fun h=>by cases h) rfl ?_
 exact AOps.sub (zd1 d _ _ T) (AOps.nil ⟨_,⟨rfl,rfl⟩,rfl⟩)
theorem AOp.appendD (d:Nat) {H0:Heap} {t e:TypeId} {x y:Operand} {g:Option Nat} {elems news:List (List A)} {yv:A} {ti ei:TI} (hL:zag P L) (hx:ev T x=some (outV ei.size g elems.length)) (hg:g=none→elems=[]) (hH:H.Perm (H0++outH e ei.size g elems)) (hy:ev T y=some yv) (hy':RowOf (H0++outH e ei.size g elems) yv news)
  (ht:lay L t=some ti) (he:ti.td=.slice e) (hei:lay L e=some ei) (hpos:Nat.ble 1 ei.size=true) (hnl:∀c∈news,c.length=ei.size) (hnf:∀c∈news,zah c=true)
  (hb1:elems.length+news.length≤maxLen) (hb2:(elems.length+news.length)*ei.bytes≤140737488355328) (hd:zae N (some d)=true):
  AOp P N [] ⟨some d,.call {callee:=.builtin .append,args:=[x,y].toArray,argTypes:=[t,t].toArray},ty,pos,after,guard⟩ []
   (Qn ⟨some d,.call {callee:=.builtin .append,args:=[x,y].toArray,argTypes:=[t,t].toArray},ty,pos,after,guard⟩ T fun r H'=>r=.ds (elems++news)∧H'=H0) T H:=by
 refine AOp.perm hH ?_;refine AOp.appendG (pre:=H0) hL hx hg rfl hy hy' ht he hei hpos hnl hnf hb1 hb2 hd fun g' hg'=>?_;refine AOps.freezeG (t:=d) (g:=g') (elems:=elems++news) (pre:=H0) (sz:=ei.size) (e:=e) (by simp only [put,zat,if_true]) hg' rfl ?_;exact AOps.sub (zd1 d _ _ T) (AOps.nil ⟨_,⟨rfl,rfl⟩,rfl⟩)
variable {Q:Exit→Env→Heap→Prop} {ops rest:List Oper}
theorem AOp.callMid (Hx Hy:Heap) {dst:Option Nat} {callee:Operand} {l:List Operand} {ats:Array TypeId} {f:FuncId} {first cap as:List A} {Hc:Heap} {R:A→Heap→Prop} (hf:ev T callee=some (.fn f first cap)) (ha:evs T l=some as) (hd:zae N dst=true)
  (hH:H=Hx++(Hc++Hy)) (ht:TrG N.g P f (first++as++cap) Hc R) (k:∀r H',R r H'→AOps P N ops rest Q (put dst r T) (Hx++(H'++Hy))):
  AOp P N ops ⟨dst,.call {callee:=.value callee,args:=l.toArray,argTypes:=ats},ty,pos,after,guard⟩ rest Q T H:=
 AOp.callG (F:=Hy++Hx) hf ha hd (by rw [hH,←List.append_assoc (as:=Hc)];exact List.perm_append_comm) ht fun r H' h=>AOps.perm (by rw [←List.append_assoc (as:=H')];exact List.perm_append_comm) (k r H' h)
end
theorem Tr.runS {P:Program} {E:Exts} {M:zc5} {L:Lay} {fuel:Nat} (hL:zag P L) (hm:P.follows .mixedOrders=true) (hE:zc0 P E) (hM:zco P M) (k:Nat) {f:FuncId} {args:List A} {e sz len:Nat} {elems:List (List A)} (ha:zaq 0 args=true) (hv:zcL 0 elems=true)
  (h:(match ziG P E M L fuel k (fun _=>true) f args .leaf 0 with|some (.ret (.os b s o l),H1,_)=>(H1.get b).map fun blk=>(s,o,l,blk)|_=>none)=some (sz,0,len,.row e sz elems)):Tr P f args [] fun r H'=>∃g G,r=.os g sz 0 len∧H'.Perm ((g,.row e sz elems)::G):=by
 split at h
 ·rename_i b s o l H1 n1 he
  cases hb:H1.get b with
  |none=>rw [hb] at h;cases h
  |some blk=>
  rw [hb] at h;cases h;have g:Good id 0 (fun _=>true) (fun _=>False) .leaf []:=⟨fun i b h=>by simp [Tre.get] at h,fun i j b c h=>by simp [Tre.get] at h,List.nodup_nil,fun i h=>absurd h (Nat.not_lt_zero i),fun _ _=>rfl,fun k h=>h.elim⟩
  have ht:=zfb hL hm hE hM k (fun _=>true) f args .leaf 0 _ H1 n1 he id (fun _=>False) [] ha g;rw [zaY id ha] at ht;refine (TrF.toTr (R:=Out id 0 (fun _=>true) (fun _=>False) [] (.os b sz 0 len) H1 n1) ht).mono ?_;rintro r H' ⟨ρ1,rfl,_,g1,_⟩;have hm:=(g1.mem b _ hb).2.2;obtain ⟨G,hG⟩:=zbX hm;refine ⟨ρ1 b,G,rfl,?_⟩;have:renB ρ1 (.row e sz elems)=.row e sz elems:=by
   show Blk.row e sz (zar ρ1 elems)=_
   rw [zcT (ρ':=id) (fun i hi=>absurd hi (Nat.not_lt_zero i)) elems hv,zhm]
  rw [this] at hG;exact hG
 ·cases h
section
variable {P:Program} {N:NN} {Q:Exit→Env→Heap→Prop} {T:Env} {H:Heap} {ops rest:List Oper} {L:Lay} {dst:Option Nat} {ty:TypeId} {pos:String} {after:Array Edge} {guard:Option (Nat×Bool)}
theorem AOp.unsafeStrF {x y:Operand} {pt it e r:Nat} {s:List UInt8} {Hr:Heap} {ei:TI} (b:Blk) (hb:b=.row e 1 (s.map zaV)∨b=.froz e s) (hL:zag P L) (hp:P.underlying pt=some (.pointer e)) (hei:lay L e=some ei) (he1:Nat.beq ei.size 1=true)
  (hx:ev T x=some (.ptr r 1 0 0)) (hy:ev T y=some (.int .i64 s.length)) (hH:H.Perm ((r,b)::Hr)) (hn0:s≠[]) (hmax:s.length≤maxLen) (hd:zae N dst=true)
  (kk:AOps P N ops rest Q (put dst (.str s) T) ((r,.froz e s)::Hr)):
  AOp P N ops ⟨dst,.call {callee:=.builtin .unsafeString,args:=[x,y].toArray,argTypes:=[pt,it].toArray},ty,pos,after,guard⟩ rest Q T H:=by
 refine AOp.sem (R:=fun v' H'=>v'=.str s∧H'=(r,.froz e s)::Hr) (fun fr w act sm st=>?_) hd (fun v H' h=>by obtain ⟨rfl,rfl⟩:=h;exact kk)
 have hu:=zad st hx
 generalize h1:act.eval x=v at hu
 cases hu;have hv:=zad st hy
 generalize h2:act.eval y=v2 at hv
 cases hv;have sm:=sm.perm hH;have hl0:s.length≠0:=fun h=>hn0 (List.length_eq_zero_iff.1 h);have key:∃(c:Array Value) (f:Nat×Nat),w.heap[r]?=some (.cells c e f)∧(f=(0,0)∨f=(0,s.length))∧s.length≤c.size∧∀(j:Nat) (x:UInt8),s[j]?=some x→c[j]?=some (.int .u8 x.toNat):=by
  have hk:=sm.ok _ List.mem_cons_self;rcases hb with rfl|rfl
  ·obtain ⟨c,g1,g2,g3,g4⟩:=hk
   refine ⟨c,(0,0),g1,.inl rfl,by simpa using g2,fun j x hj=>?_⟩
   obtain ⟨hi,he⟩:=List.getElem?_eq_some_iff.1 hj;obtain ⟨v,k1,k2,_⟩:=g4 j (by simpa using hi) 0 (by simp [zaV]);simp only [List.getElem_map,he,zaV,List.getElem_cons_zero] at k2;cases k2;simpa using k1
  ·obtain ⟨c,f,g1,gf,g2,g3⟩:=hk
   exact ⟨c,f,g1,gf,g2,g3⟩
 obtain ⟨c,f,g1,gf,g2,g4⟩:=key;have hnd:=List.nodup_cons.1 (show (r::keys Hr).Nodup from sm.nodup)
 have hcell:∀j x,s[j]?=some x→w.cell? ((⟨r,0,none⟩:Addr).add j)=some (.int .u8 x.toNat):=fun j x hj=>by
  rw [add_plain];simp only [World.cell?,g1];simpa using g4 j x hj
 have hrun:=Lib.run_unsafeString_row (P:=P) w pt it ty e hp (by rw [zaE (hL _ _ hei)];exact Nat.eq_of_beq_eq_true he1) r c.size (by simp only [World.shape?,g1]) s hn0 g2
  (by unfold maxLen at hmax;omega) hcell
 have hfz:(w.freeze ⟨r,0,none⟩ s.length).heap[r]?=some (.cells c e (0,s.length))∧(∀k,k≠r→(w.freeze ⟨r,0,none⟩ s.length).heap[k]?=w.heap[k]?)∧(w.freeze ⟨r,0,none⟩ s.length).heap.size=w.heap.size:=by
  refine ⟨?_,fun k hk=>by simp [World.freeze,hl0,Array.getElem?_modify,Ne.symm hk],by simp [World.freeze,hl0]⟩
  rcases gf with rfl|rfl
  ·simp [World.freeze,hl0,Array.getElem?_modify,g1]
  ·simp [World.freeze,hl0,Array.getElem?_modify,g1,Ne.symm hl0]
 obtain ⟨f1,f2,f3⟩:=hfz
 generalize hw:w.freeze ⟨r,0,none⟩ s.length=w' at*
 have hE:Ext H w ((r,.froz e s)::Hr) w':=⟨by rw [←hw];simp [World.freeze,hl0],by rw [←hw];simp [World.freeze,hl0],by rw [←hw];simp [World.freeze,hl0],by omega,fun k _ hk=>f2 k (fun h=>hk (by subst h;exact (hH.map _).mem_iff.2 (List.mem_cons_self ..))),fun k hk=>.inl ((hH.map (·.1)).mem_iff.2 (by simpa [keys] using hk)),fun k hk c' T' f' h=>by
  by_cases hkr:k=r
  ·subst hkr;rw [f1] at h;cases h;exact ⟨c,_,g1,rfl⟩
  ·rw [f2 k hkr] at h;exact ⟨c',f',h,rfl⟩⟩
 have hst:=hE.stays (fr:=fr);have hown:own fr ((r,b)::Hr)=own fr ((r,.froz e s)::Hr):=by funext k;simp [own,keys]
 refine ⟨w',_,.string ⟨s.toArray⟩,_,.inl ?_,⟨rfl,rfl⟩,⟨sm.nodup,sm.apart,fun k hk=>by have:=sm.old k hk;omega,fun p hp=>?_⟩,.str s hmax,hE⟩
 ·simp only [execOp,resolve,invoke,builtin,Sem.run_bind,Sem.run_pure,Result.andThen_ok,List.map_toArray,List.map_cons,List.map_nil,h1,h2]
  have h00:(0*1+0:Nat)=0:=rfl;rw [h00];simp only [hrun,Result.andThen_ok]
 ·rcases List.mem_cons.1 hp with rfl|hp
  ·exact ⟨c,_,f1,.inr rfl,g2,g4⟩
  ·exact (sm.ok p (List.mem_cons_of_mem _ hp)).mono (by rw [←zay hH];exact hst) (f2 _ fun h=>hnd.1 (List.mem_map.2 ⟨p,hp,h⟩))
theorem zlh {H H2 H':Heap} {w w':World} (e:Ext H2 w H' w') (h:keys H2=keys H):Ext H w H' w':=
 ⟨e.os,e.tape,e.output,e.size,fun k hk hn=>e.same k hk (h▸hn),fun k hk=>h▸e.keys k hk,e.shape⟩
theorem Sim.froz {fr:Nat→Prop} {r e:Nat} {s:List UInt8} {Hr:Heap} {w:World} (sm:Sim fr ((r,.row e 1 (s.map zaV))::Hr) w):Sim fr ((r,.froz e s)::Hr) w:=by
 refine ⟨sm.nodup,sm.apart,sm.old,fun p hp=>?_⟩;rcases List.mem_cons.1 hp with rfl|hp
 ·obtain ⟨c,g1,g2,g3,g4⟩:=sm.ok _ List.mem_cons_self
  refine ⟨c,(0,0),g1,.inl rfl,by simpa using g2,fun j x hj=>?_⟩
  obtain ⟨hi,he⟩:=List.getElem?_eq_some_iff.1 hj;obtain ⟨v,k1,k2,_⟩:=g4 j (by simpa using hi) 0 (by simp [zaV]);simp only [List.getElem_map,he,zaV,List.getElem_cons_zero] at k2;cases k2;simpa using k1
 ·exact sm.ok p (List.mem_cons_of_mem _ hp)
theorem AWp.toFroz {c:Code} {r e:Nat} {s:List UInt8} {Hr:Heap} (hp:H.Perm ((r,.row e 1 (s.map zaV))::Hr)) (k:AWp P N c Q T ((r,.froz e s)::Hr)):AWp P N c Q T H:=by
 refine AWp.perm hp ⟨fun fr w a sm st=>?_⟩;refine wp_mono (k.out fr w a (Sim.froz sm) st) ?_;rintro e a' w' ⟨T',H'',q,s',st',x'⟩;exact ⟨T',H'',q,s',st',zlh x' rfl⟩
end
section
variable {P:Program} {N:NN} {Q:Exit→Env→Heap→Prop} {T:Env} {H:Heap} {ops rest:List Oper} {L:Lay} {dst:Option Nat} {ty:TypeId} {pos:String} {after:Array Edge} {guard:Option (Nat×Bool)}
theorem zac.cellTmp2 {fn:Func} {t ty u q:Nat} {r Te sz i o:Nat} {elems:List (List A)} {e:List A} {ti:TI} {v y z:A} (hL:zag P L) (h:fn.results=#[.cell t ty,.tmp u,.tmp q]) (hx:get T t=some (.ptr r sz i o)) (hm:(r,Blk.row Te sz elems)∈H)
  (he:elems[i]?=some e) (ht:lay L ty=some ti) (hv:zbp ti e o=some v) (hy:get T u=some y) (hz:get T q=some z):zac P fn N T H (.tup [v,y,z]):=fun fr w a s st=>by
 have hu:=zaM st hx
 generalize h1:a.tmps.getD t undef=q at hu
 cases hu;obtain ⟨vs,h2,h3,_,_⟩:=s.elem hm he;obtain ⟨zv,hzv,hr⟩:=zbn (hL _ _ ht) h2 (h3.drop o) hv;rw [add_plain] at hzv;refine ⟨.tuple #[zv,a.tmps.getD u undef,a.tmps.getD q undef],?_,Rep.tup_of (.cons hr (.cons (zaM st hy) (.cons (zaM st hz) .nil)))⟩;have h1':a.tmps[t]?.getD undef=.pointer (some {block:=r,off:=i*sz+o}):=by rw [←h1];simp
 simp [results,h,asAddr,h1',hzv]
end
section
variable {P:Program} {N:NN} {Q:Exit→Env→Heap→Prop} {T:Env} {H:Heap} {ops rest:List Oper} {L:Lay} {dst:Option Nat} {ty:TypeId} {pos:String} {after:Array Edge} {guard:Option (Nat×Bool)}
theorem zpf:∀(s:List UInt8) (c:UInt8),-1≤Lib.indexByte s c∧Lib.indexByte s c<s.length∨Lib.indexByte s c=-1
 |[],c=>.inr rfl
 |b::l,c=>by
  have ih:=zpf l c;unfold Lib.indexByte;split
  ·exact .inl ⟨by omega,by simp only [List.length_cons];omega⟩
  ·split
   ·exact .inr rfl
   ·rename_i h
    have h:Lib.indexByte l c≠-1:=by simpa using h
    simp only [List.length_cons];omega
theorem AOp.callIxb {callee y z : Operand} {ats : Array TypeId} {f : FuncId} {fn : Func} {s : List UInt8} {c : Int} (hf : ev T callee = some (.fn f [] [])) (hy : ev T y = some (.str s)) (hz : ev T z = some (.int .u8 c)) (hfn : P.funcs[f]? = some fn) (hname : (fn.name == "runtime.NumGoroutine") = false)
  (hb:fn.body.isNone=true) (hn:Extern.findNext fn=none) (he:Extern.find fn=some Extern.BytealgIndexByte.indexByte) (hd:zae N dst=true) (kk:AOps P N ops rest Q (put dst (.int .i64 (Lib.indexByte s c.toNat.toUInt8)) T) H):
  AOp P N ops ⟨dst,.call {callee:=.value callee,args:=[y,z].toArray,argTypes:=ats},ty,pos,after,guard⟩ rest Q T H:=
 AOp.pure (fun fr w act sm st=>by
  obtain ⟨fs,cs,e1,e2,e3⟩:=(zad st hf).fn_inv;have e2':fs=#[]:=by have:=e2.length;simpa using this
  have e3':cs=#[]:=by have:=e3.length;simpa using this
  subst e2' e3';have hu:=zad st hy
  generalize h1:act.eval y=u at hu
  cases hu with
  |str _ hm=>
  have hv:=zad st hz
  generalize h2:act.eval z=v at hv
  cases hv;have hin:inR .i64 (Lib.indexByte s c.toNat.toUInt8):=by
   have:=zpf s c.toNat.toUInt8;unfold maxLen at hm;rw [zdp];omega
  have:=run_callFunc_extern hfn hname hb hn he #[.string ⟨s.toArray⟩,.int .u8 c] w;exact ⟨.int .i64 (Lib.indexByte s c.toNat.toUInt8),by
   simp only [execOp,resolve,Deferred.ofValue,invoke,Sem.run_bind,Sem.run_pure,Result.andThen_ok,List.map_toArray,List.map_cons,List.map_nil,e1,h1,h2];simpa [Lib.run_indexByteString] using this,.int _ _ hin⟩) hd kk
theorem TrG.weak {G:List (Nat×List A)} {f:FuncId} {args:List A} {R:A→Heap→Prop} (h:TrG [] P f args H R):TrG G P f args H R:=
 ⟨h.can,fun fr w vs s _ a=>h.run fr w vs s (fun _ hp=>nomatch hp) a⟩
end
section
variable {P:Program} {N:NN} {T:Env} {H:Heap} {L:Lay} {ty:TypeId} {pos:String} {after:Array Edge} {guard:Option (Nat×Bool)} {Q:Exit→Env→Heap→Prop} {ops rest:List Oper}
theorem AOp.buildF (d:Nat) {t:TypeId} {n e:Nat} {parts:List (Nat×Operand)} {ps:List (Nat×A)} {ti ei:TI} {out:List A} {elems:List (List A)} (hL:zag P L) (hp:evParts T parts=some ps) (ht:lay L t=some ti) (he:ti.td=.slice e)
  (hei:lay L e=some ei) (ho:zdK ei.size (rep n ei.zero) ps=some out) (hel:zck ei.size n out=elems) (hsm:Nat.ble (n*ei.size) 16777216=true) (hpos:Nat.ble 1 ei.size=true) (hz:Nat.beq ei.zero.length ei.size=true) (hl:zah out=true) (hd:zae N (some d)=true) (hn:Nat.beq elems.length n=true)
  (k:AOps P N ops rest Q (put (some d) (.ds elems) T) H):
  AOp P N ops ⟨some d,.buildSlice t n parts.toArray,ty,pos,after,guard⟩ rest Q T H:=by
 have hn:=Nat.eq_of_beq_eq_true hn;refine AOp.buildSlice hL hp ht he hei ho hel hsm hpos hz hl hd fun r hr=>?_;refine AOps.perm (H':=H++[(r,.row e ei.size elems)]) (List.perm_append_comm (l₁:=[_])) ?_;refine AOps.freezeG (t:=d) (g:=some r) (elems:=elems) (pre:=H) (sz:=ei.size) (e:=e) (by rw [hn];simp only [put,zat,outV,if_true]) (fun h=>by cases h) rfl ?_
 exact AOps.sub (zd1 d _ _ T) k
end
section
variable {P:Program} {N:NN} {Q:Exit→Env→Heap→Prop} {T:Env} {H:Heap} {ops rest:List Oper} {L:Lay} {dst:Option Nat} {ty:TypeId} {pos:String} {after:Array Edge} {guard:Option (Nat×Bool)}
theorem AOp.insert {t kt et:TypeId} {x ix y:Operand} {r:Nat} {es es':List (A×A)} {key v:A} {ti ki:TI} {H':Heap} (hL:zag P L) (hx:ev T x=some (.map r)) (hi:ev T ix=some key) (hy:ev T y=some v)
  (ht:lay L t=some ti) (htd:ti.td=.map kt et) (hki:lay L kt=some ki) (hkt:zdE ki.td key=true) (hf:putM es key v=some es') (hat:At H r (.map es) (.map es') H') (hd:zae N dst=true)
  (kk:AOps P N ops rest Q (put dst (.tup []) T) H'):AOp P N ops ⟨dst,.insert t x ix y,ty,pos,after,guard⟩ rest Q T H:=
 AOp.congrOp (o1:=⟨dst,.mapUpdate t x ix y,ty,pos,after,guard⟩) rfl (fun ev=>zfY ev ⟨dst,.insert t x ix y,ty,pos,after,guard⟩)
  (AOp.mapUpdate hL hx hi hy ht htd hki hkt hf hat hd kk)
end
theorem Sub.tup {xs ys:List A} (h:SubL xs ys):Sub (.tup xs) (.tup ys):=fun w o v hr=>by
 obtain ⟨cs,rfl,hl⟩:=hr.tup_inv;have:=Rep.tup_of (h.rep hl);simpa using this
theorem PTrG.subR {G:List (Nat×List A)} {P:Program} {f:FuncId} {args:List A} {v v':A} (h:PTrG G P f args v) (hs:Sub v v'):PTrG G P f args v':=
 ⟨h.can,fun fr w vs s g a=>(h.run fr w vs s g a).mono fun e w' ⟨r,H',u,he,hr,s',hu,x⟩=>⟨v',H',u,he,rfl,s',by
  have hr:r=v:=hr;subst hr;exact hs _ _ _ hu,x⟩⟩
def mapO {α β:Type} (f:α→Option β):List α→Option (List β)
 |[]=>some []
 |x::l=>match f x with
  |some y=>match mapO f l with
   |some m=>some (y::m)
   |none=>none
  |none=>none
theorem zht {α β:Type} {f:α→Option β}:∀{l:List α} {m:List β},mapO f l=some m→m.length=l.length∧∀(i:Nat) (x:α),l[i]?=some x→∃y:β,m[i]?=some y∧f x=some y
 |[],m,h=>by
  cases h;exact ⟨rfl,fun i x h=>by simp at h⟩
 |x::l,m,h=>by
  simp only [mapO] at h;split at h
  ·rename_i y hy
   split at h
   ·rename_i k hk
    cases h;obtain ⟨h1,h2⟩:=zht hk;refine ⟨by simp [h1],fun i z hz=>?_⟩
    cases i with
    |zero=>simp at hz;subst hz;exact ⟨y,rfl,hy⟩
    |succ i=>simpa using h2 i z (by simpa using hz)
   ·cases h
  ·cases h
def ziS (H:Tre Blk):Nat→A→Option A
 |0,_=>none
 |n+1,x=>match x with
  |.os b sz off len=>match H.get b with
   |some (.row _ sz' elems)=>match Nat.beq sz' sz,Nat.beq off 0,Nat.beq len elems.length with
    |true,true,true=>match mapO (fun c=>mapO (ziS H n) c) elems with
     |some l=>some (.ds l)
     |none=>none
    |_,_,_=>none
   |_=>none
  |.agg l=>match mapO (ziS H n) l with
   |some m=>some (.agg m)
   |none=>none
  |.tup l=>match mapO (ziS H n) l with
   |some m=>some (.tup m)
   |none=>none
  |.nils=>some (.ds [])
  |.int k m=>some (.int k m)
  |.str s=>some (.str s)
  |.bool b=>some (.bool b)
  |_=>none
theorem zmX (ρ:Nat→Nat):∀l:List A,renL ρ l=l.map (ren ρ)
 |[]=>by simp [renL]
 |x::l=>by simp [renL,zmX ρ l]
theorem zkx (ρ:Nat→Nat):∀l:List (List A),zar ρ l=l.map (renL ρ)
 |[]=>by simp [zar]
 |x::l=>by simp [zar,zkx ρ l]
theorem zme {fr:Nat→Prop} {H':Heap} {w:World} {ρ:Nat→Nat} {Ht:Tre Blk} (s:Sim fr H' w) (hm:∀(b:Nat) (blk:Blk),Ht.get b=some blk→(ρ b,renB ρ blk)∈H'):
  ∀(n:Nat) (x y:A) (v:Value),ziS Ht n x=some y→Rep w (own fr H') (ren ρ x) v→Rep w (own fr []) y v:=by
 have hst:Stays w (own fr H') w (own fr []):=Stays.less fun _ h=>h.imp id fun h=>by cases h
 intro n
 induction n with
 |zero=>intro x y v h;cases h
 |succ n ih=>
  have row:∀(l m:List A) (vs:List Value),mapO (ziS Ht n) l=some m→RepL w (own fr H') (renL ρ l) vs→RepL w (own fr []) m vs:=by
   intro l m vs h hr;obtain ⟨h1,h2⟩:=zht h;rw [zmX] at hr;refine RepL.of_get _ _ (by rw [hr.length,List.length_map,h1]) fun i y hy=>?_;have hi:i<l.length:=by rw [←h1];exact (List.getElem?_eq_some_iff.1 hy).1
   obtain ⟨y',k1,k2⟩:=h2 i l[i] (List.getElem?_eq_getElem hi);rw [hy] at k1;cases k1;obtain ⟨v,k3,k4⟩:=hr.get i (ren ρ l[i]) (by simp [hi]);exact ⟨v,k3,ih _ _ _ k2 k4⟩
  intro x y v h hr;simp only [ziS] at h;split at h
  ·rename_i b sz off len
   split at h
   ·rename_i e sz' elems hb
    split at h
    ·rename_i q1 q2 q3
     have q1:=Nat.eq_of_beq_eq_true q1;have q2:=Nat.eq_of_beq_eq_true q2;have q3:=Nat.eq_of_beq_eq_true q3;subst q1 q2 q3;split at h
     ·rename_i m hmm
      cases h;obtain ⟨h1,h2⟩:=zht hmm;have hmem:=hm b _ hb;simp only [renB,zkx] at hmem;simp only [ren] at hr;cases hr with
      |os _ _ _ _ cap hlt hcap hmax hroom=>
       rw [←h1];refine Rep.ds_of (sz:=sz') (by rw [h1];exact hcap) hmax fun i c' hc'=>?_;have hi:i<elems.length:=by rw [←h1];exact (List.getElem?_eq_some_iff.1 hc').1
       obtain ⟨c2,k1,k2⟩:=h2 i elems[i] (List.getElem?_eq_getElem hi);rw [hc'] at k1;cases k1;obtain ⟨vs,j1,j2,j3,j4⟩:=s.elem hmem (i:=i) (e:=renL ρ elems[i]) (by simp [hi]);have r1:=row _ _ _ k2 j1;refine ⟨by rw [←r1.length,j1.length];exact j4,vs,r1,?_,fun _ h=>?_⟩
       ·rw [add_plain,Nat.zero_mul,Nat.zero_add]
        exact j2
       ·rcases h with h|h
        ·exact s.apart _ (List.mem_map.2 ⟨_,hmem,rfl⟩) h
        ·cases h
     ·cases h
    ·cases h
   ·cases h
  ·split at h
   ·rename_i l m hmm
    cases h;simp only [ren] at hr;obtain ⟨cs,rfl,hl⟩:=hr.agg_inv;have:=Rep.agg_of (row _ _ _ hmm hl);simpa using this
   ·cases h
  ·split at h
   ·rename_i l m hmm
    cases h;simp only [ren] at hr;obtain ⟨cs,rfl,hl⟩:=hr.tup_inv;have:=Rep.tup_of (row _ _ _ hmm hl);simpa using this
   ·cases h
  ·cases h
   simp only [ren] at hr;cases hr;exact .ds0
  ·cases h
   simp only [ren] at hr;exact hr.mono hst
  ·cases h
   simp only [ren] at hr;exact hr.mono hst
  ·cases h
   simp only [ren] at hr;exact hr.mono hst
  ·cases h
theorem PTr.runD {P:Program} {E:Exts} {M:zc5} {L:Lay} {fuel:Nat} (hL:zag P L) (hm:P.follows .mixedOrders=true) (hE:zc0 P E) (hM:zco P M) (k k2:Nat) {f:FuncId} {args:List A} {y:A} (ha:zaq 0 args=true)
  (h:(match ziG P E M L fuel k (fun _=>true) f args .leaf 0 with|some (.ret v,H1,_)=>ziS H1 k2 v|_=>none)=some y):PTr P f args y:=by
 split at h
 ·rename_i v' H1 n1 he
  have g:Good id 0 (fun _=>true) (fun _=>False) .leaf []:=⟨fun i b h=>by simp [Tre.get] at h,fun i j b c h=>by simp [Tre.get] at h,List.nodup_nil,fun i h=>absurd h (Nat.not_lt_zero i),fun _ _=>rfl,fun k h=>h.elim⟩
  have ht:=zfb hL hm hE hM k (fun _=>true) f args .leaf 0 _ H1 n1 he id (fun _=>False) [] ha g;rw [zaY id ha] at ht;have ht:=TrF.toTr (R:=Out id 0 (fun _=>true) (fun _=>False) [] v' H1 n1) ht;refine ⟨ht.can,fun fr w vs s a=>(ht.run fr w vs s a).mono ?_⟩;rintro e w' ⟨r,H',v,rfl,hR,s',hr,x⟩;obtain ⟨ρ1,rfl,_,g1,_⟩:=hR;exact ⟨y,[],v,rfl,rfl,⟨List.nodup_nil,(fun r h=>by cases h),s'.old,(fun p h=>by cases h)⟩,zme s' (fun b blk hb=>(g1.mem b blk hb).2.2) k2 v' y v h hr,⟨x.os,x.tape,x.output,x.size,x.same,(fun k h=>by cases h),x.shape⟩⟩
 ·cases h
section
variable {P:Program} {N:NN} {T:Env} {H:Heap} {L:Lay}
theorem Pl.eqArray {ops:Array Oper} {rest:List Oper} {Q:Env→Heap→Prop} {dst:Option Nat} {bop:BinOp} {xt yt:TypeId} {x y:Operand} {ty:TypeId} {pos:String} {after:Array Edge} {guard:Option (Nat×Bool)} {xs ys:List A} {ti ei:TI} {n e:Nat} {b:Bool} {v:A} (hE:EqG P xt) (hd:zae N dst=true)
  (hw:zas ops (restr T ((⟨dst,.binOp bop xt x y yt,ty,pos,after,guard⟩:Oper).looksAt ops)) ⟨dst,.binOp bop xt x y yt,ty,pos,after,guard⟩=some true)
  (hn:sOp L (restr T ((⟨dst,.binOp bop xt x y yt,ty,pos,after,guard⟩:Oper).looksAt ops)) (.binOp bop xt x y yt)=none)
  (hx:ev (restr T ((⟨dst,.binOp bop xt x y yt,ty,pos,after,guard⟩:Oper).looksAt ops)) x=some (.agg xs)) (hy:ev (restr T ((⟨dst,.binOp bop xt x y yt,ty,pos,after,guard⟩:Oper).looksAt ops)) y=some (.agg ys))
  (ht:lay L xt=some ti) (htd:ti.td=.array n e) (hei:lay L e=some ei) (hb:zav L (zlY n e ei.size) xs ys=some b) (h:(match (generalizing:=false) bop with|.eql=>some (A.bool b)|.neq=>some (A.bool !b)|_=>none)=some v) (k:Pl P N L ops Q rest (put dst v T) H):Pl P N L ops Q (⟨dst,.binOp bop xt x y yt,ty,pos,after,guard⟩::rest) T H:=⟨Plan.pureX hd hw (zg2 hE hn hx hy ht htd hei hb h) k.out⟩
end
end Go.Abs

