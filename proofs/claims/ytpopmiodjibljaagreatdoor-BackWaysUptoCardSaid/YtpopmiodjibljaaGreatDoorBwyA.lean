/- A part of the proof. -/
import Derived.Calls
import Derived.Tactics
import Derived.Maps.AppendAt
import Derived.Below
import Derived.Laws.Entries
import Derived.Laws.Cells
import Derived.Laws.CopyRow
import Derived.Laws.Rows
import Derived.Laws.Strings
import Derived.Lib.Strings
import Derived.Laws.Append
import Derived.Laws.MakeOwn
import Derived.Great.BuildSlice
import Derived.Laws.StructEq
import Derived.WalkSpells
import Derived.ChangeKeysEq
import Derived.Lib.UnsafeStr
import Derived.Lib.Builder
import Derived.Laws.Externs
import Derived.Orders
import GoSem.Instr.MapUpdate
import Derived.MapKept
import GoSem.Instr.Range
import GoSem.Instr.Next
import Derived.Lib.AppendZeros
set_option linter.unusedVariables false
set_option linter.unusedSimpArgs false

namespace Go
theorem I.{u}{α:Sort u}{a:α}:a=a:=rfl
abbrev ac:=@if_neg
abbrev af:=@if_pos
abbrev ai:=@congrArg
abbrev aj:=@of_decide_eq_true
abbrev ak:=@List.length_map
abbrev am:=@Int.le_refl
abbrev ao:=@of_decide_eq_false
abbrev ar:=@List.Perm.refl
abbrev au:=@Nat.le_refl
abbrev az:=@List.cons_append
abbrev aA:=@decide_eq_true
abbrev aB:=@List.mem_cons_of_mem
abbrev aE:=@List.mem_cons_self
abbrev aG:=@decide_eq_false
abbrev aI:=@List.append_assoc
abbrev aJ:=@Bool.false_ne_true
abbrev aK:=@Bool.eq_iff_iff
abbrev aL:=@decide_eq_true_eq
abbrev aM:=@Nat.zero_le
abbrev aN:=@List.perm_append_comm
abbrev aO:=@Bool.and_eq_true
abbrev aQ:=@List.append_nil
abbrev aS:=@Nat.zero_add
abbrev aT:=@List.length_append
abbrev aU:=@List.map_cons
abbrev aV:=@decide_eq_false_iff_not
abbrev aW:=@List.drop_eq_nil_of_le
abbrev aX:=@List.length_cons
abbrev aY:=@Option.some.injEq
abbrev aZ:=@Bool.true_and
abbrev b5:=@Prod.mk.injEq
abbrev b7:=@List.nil_append
abbrev b8:=@beq_eq_false_iff_ne
abbrev b9:=@Nat.add_mul
abbrev ba:=@List.length_drop
abbrev bc:=@List.length_singleton
abbrev bd:=@List.map_append
abbrev be:=@List.length_take
abbrev bh:=@Option.map_some
abbrev bi:=@Nat.le_of_ble_eq_true
abbrev bj:=@Bool.false_and
abbrev bk:=@List.map_nil
abbrev bm:=@Int.le_trans
abbrev bp:=@Bool.or_eq_true
abbrev bq:=@List.map_toArray
abbrev br:=@List.length_nil
abbrev bu:=@beq_iff_eq
abbrev bx:=@List.mem_cons
abbrev bz:=@List.getElem_mem
abbrev bA:=@if_true
abbrev bB:=@Nat.eq_of_beq_eq_true
abbrev bC:=@Option.bind_eq_some_iff
abbrev bD:=@List.mem_append
abbrev bE:=@List.eq_nil_of_length_eq_zero
abbrev bF:=@List.take_of_length_le
abbrev bG:=@Nat.add_zero
abbrev bH:=@Nat.le_of_lt
abbrev bI:=@List.mem_append_right
abbrev bJ:=@Nat.mul_le_mul_right
abbrev bL:=@Bool.not_eq_true'
abbrev bM:=@List.take_length
abbrev bN:=@Bool.true_or
abbrev bO:=@bne_iff_ne
abbrev bP:=@if_false
abbrev bQ:=@List.getElem_cons_zero
abbrev bR:=@List.size_toArray
abbrev bS:=@List.count_append
abbrev bT:=@Option.getD_some
abbrev bU:=@Option.some.inj
abbrev bW:=@Nat.not_lt_zero
abbrev bX:=@List.Perm.swap
abbrev bZ:=@Bool.false_eq_true
abbrev cd:=@List.take_add_one
abbrev ce:=@Nat.zero_mul
abbrev ck:=@iff_of_false
abbrev cl:=@Nat.le_succ
abbrev cm:=@Prod.mk.inj
abbrev cn:=@List.flatten_cons
abbrev co:=@List.getElem_map
abbrev cp:=@List.perm_middle
abbrev cq:=@Option.map_none
abbrev cr:=@List.count_cons
abbrev cu:=@Bool.and_false
abbrev cv:=@Bool.false_or
abbrev cw:=@Nat.le_trans
abbrev cy:=@Nat.lt_of_lt_of_le
abbrev cz:=@Option.bind_some
abbrev cE:=@List.all_eq_true
abbrev cF:=@List.mem_append_left
abbrev cG:=@Nat.mul_le_mul
abbrev cH:=@Nat.add_assoc
abbrev cI:=@Nat.blt_eq
abbrev cJ:=@Int.le_of_eq
abbrev cM:=@Classical.byContradiction
abbrev cO:=@List.getElem_append_left
abbrev cP:=@Option.map_eq_some_iff
abbrev cQ:=@Array.length_toList
abbrev cR:=@Nat.eq_zero_or_pos
abbrev cT:=@Int.toNat_natCast
abbrev cV:=@beq_self_eq_true
abbrev cW:=@List.any_eq_true
abbrev cX:=@List.Perm.trans
abbrev cY:=@List.Perm.cons
abbrev d4:=@iff_of_true
abbrev d5:=@Ne.symm
abbrev d6:=@List.head_eq_of_cons_eq
abbrev d7:=@List.take_append_drop
abbrev d8:=@List.mem_of_mem_take
abbrev d9:=@Bool.or_eq_false_iff
abbrev da:=@Nat.pow_le_pow_right
abbrev db:=@List.getElem_append
abbrev dc:=@bne_eq_false_iff_eq
abbrev de:=@List.foldl_cons
abbrev df:=@List.mem_singleton
abbrev dg:=@Nat.succ_lt_succ
abbrev dh:=@List.length_tail
abbrev di:=@List.drop_length
abbrev dj:=@List.not_mem_nil
abbrev dl:=@List.length_set
abbrev dn:=@List.nodup_nil
abbrev dq:=@List.take_zero
abbrev dv:=@List.any_cons
abbrev dw:=@Int.mul_le_mul_of_nonneg_left
abbrev dx:=@List.getElem_append_right
abbrev dy:=@List.getElem_cons_succ
abbrev dz:=@Nat.ble_eq_true_of_le
abbrev dA:=@List.eq_nil_or_concat
abbrev dB:=@List.concat_eq_append
abbrev dC:=@Bool.decide_and
abbrev dD:=@List.getElem_set_ne
abbrev dE:=@List.length_reverse
abbrev dF:=@Bool.not_eq_false'
abbrev dG:=@List.getElem_take
abbrev dH:=@List.getElem_drop
abbrev dI:=@List.length_range
abbrev dJ:=@Int.emod_eq_of_lt
abbrev dK:=@List.exists_mem_of_ne_nil
end Go
namespace Go.Abs
open Go
inductive A where
 |bool (b:Bool)
 |int (k:IntKind) (n:Int)
 |str (s:List UInt8)
 |nilp
 |ptr (r sz i o:Nat)
 |dp (cells:List A)
 |nils
 |ds (elems:List (List A))
 |os (r sz off len:Nat)
 |nilm
 |map (r:Nat)
 |nilf
 |fn (f:FuncId) (first cap:List A)
 |nili
 |iface (t:TypeId) (v:A)
 |agg (cells:List A)
 |tup (vs:List A)
 |abs (b o:Nat)
 deriving Inhabited
def A.leaf:A→Bool
 |.agg _|.tup _=>false
 |_=>true
def A.cells:A→List A
 |.agg cs=>cs
 |a=>[a]
def inR(k:IntKind)(n:Int):Prop:=k.min≤n∧n≤k.max
instance(k:IntKind)(n:Int):Decidable (inR k n):=inferInstanceAs (Decidable (_∧_))
theorem zdZ(k:IntKind)(n:Int):inR k (k.wrap n):=by
 unfold inR IntKind.min IntKind.max IntKind.wrap;cases k<;>simp only[IntKind.signed,IntKind.bits,aZ,bj,bA,bZ,bP]<;>(try split)<;>simp_all<;>omega
theorem zeP{n:Int}:inR .i64 n↔-9223372036854775808≤n∧n≤9223372036854775807:=by
 unfold inR IntKind.min IntKind.max;simp[IntKind.signed,IntKind.bits]
theorem zhV{n:Int}:inR .u8 n↔0≤n∧n≤255:=by
 unfold inR IntKind.min IntKind.max;simp[IntKind.signed,IntKind.bits]
theorem zi3{n:Int}:inR .i32 n↔-2147483648≤n∧n≤2147483647:=by
 unfold inR IntKind.min IntKind.max;simp[IntKind.signed,IntKind.bits]
inductive Rep(w:World)(own:Nat→Prop):A→Value→Prop
 |bool (b:Bool):Rep w own (.bool b) (.bool b)
 |int (k:IntKind) (n:Int) (hn:inR k n):Rep w own (.int k n) (.int k n)
 |str (s:List UInt8) (hm:s.length≤maxLen):Rep w own (.str s) (.string ⟨s.toArray⟩)
 |nilp:Rep w own .nilp (.pointer none)
 |ptr (r sz i o:Nat):Rep w own (.ptr r sz i o) (.pointer (some ⟨r,i*sz+o,none⟩))
 |dp (cells:List A) (a:Addr) (vs:Nat→Value) (hc:∀j,j<cells.length→¬own a.block∧w.cell? (a.add j)=some (vs j))
   (h:∀j (hj:j<cells.length),Rep w own cells[j] (vs j)):Rep w own (.dp cells) (.pointer (some a))
 |nils:Rep w own .nils (.slice none 0 0)
 |ds (elems:List (List A)) (a:Addr) (cap sz:Nat) (vs:Nat→Nat→Value) (hcap:elems.length≤cap) (hmax:cap≤maxLen)
   (hsz:∀i (hi:i<elems.length),elems[i].length=sz)
   (hc:∀i j,i<elems.length→j<sz→¬own a.block∧w.cell? (a.add (i*sz+j))=some (vs i j))
   (h:∀i (hi:i<elems.length) j (hj:j<elems[i].length),Rep w own elems[i][j] (vs i j)):
   Rep w own (.ds elems) (.slice (some a) elems.length cap)
 |ds0:Rep w own (.ds []) (.slice none 0 0)
 |os (r sz off len cap:Nat) (hr:r<w.heap.size) (hcap:len≤cap) (hmax:cap≤maxLen)
   (hroom:∀c T f,w.heap[r]?=some (.cells c T f)→(off+cap)*sz=c.size):
   Rep w own (.os r sz off len) (.slice (some ⟨r,off*sz,none⟩) len cap)
 |nilm:Rep w own .nilm (.map none)
 |map (r:Nat):Rep w own (.map r) (.map (some r))
 |nilf:Rep w own .nilf .nilFunc
 |fn (f:FuncId) (first cap:List A) (fs cs:Array Value) (us vs:Nat→Value) (hf:fs.size=first.length) (hcs:cs.size=cap.length)
   (h1:∀i,i<first.length→fs[i]?=some (us i)) (h2:∀i,i<cap.length→cs[i]?=some (vs i))
   (h3:∀i (hi:i<first.length),Rep w own first[i] (us i)) (h4:∀i (hi:i<cap.length),Rep w own cap[i] (vs i)):
   Rep w own (.fn f first cap) (.func (.func f) fs cs)
 |nili:Rep w own .nili .nilIface
 |iface (t:TypeId) (a:A) (v:Value) (h:Rep w own a v):Rep w own (.iface t a) (.iface t v)
 |agg (l:List A) (cs:Array Value) (vs:Nat→Value) (hn:cs.size=l.length) (hc:∀i,i<l.length→cs[i]?=some (vs i))
   (h:∀i (hi:i<l.length),Rep w own l[i] (vs i)):Rep w own (.agg l) (.agg cs)
 |abs (b o:Nat):Rep w own (.abs b o) (.pointer (some ⟨b,o,none⟩))
 |tup (l:List A) (cs:Array Value) (vs:Nat→Value) (hn:cs.size=l.length) (hc:∀i,i<l.length→cs[i]?=some (vs i))
   (h:∀i (hi:i<l.length),Rep w own l[i] (vs i)):Rep w own (.tup l) (.tuple cs)
structure Stays(w:World)(own:Nat→Prop)(w':World)(own':Nat→Prop):Prop where
 size:w.heap.size≤w'.heap.size
 same:∀k,k<w.heap.size→¬own k→w'.heap[k]?=w.heap[k]?
 un:∀k,k<w.heap.size→¬own k→¬own' k
 shape:∀k,k<w.heap.size→∀c T f,w'.heap[k]?=some (.cells c T f)→∃c' f',w.heap[k]?=some (.cells c' T f')∧c'.size=c.size
theorem zke{w:World}{a:Addr}{v:Value}(h:w.cell? a=some v):a.block<w.heap.size:=by
 unfold World.cell? at h;split at h
 ·rename_i hh;exact(Array.getElem?_eq_some_iff.1 hh).1
 ·cases h
theorem zbU(a:Addr)(n:Nat):(a.add n).block=a.block:=by unfold Addr.add;split<;>rfl
theorem Stays.cell{w w':World}{own own':Nat→Prop}(s:Stays w own w' own'){a:Addr}{v:Value}(ho:¬own a.block)(h:w.cell? a=some v):
  ¬own' a.block∧w'.cell? a=some v:=
 ⟨s.un _ (zke h) ho,by rw[World.cell?_of_block (s.same _ (zke h) ho)];exact h⟩
theorem Rep.mono{w w':World}{own own':Nat→Prop}(s:Stays w own w' own'){a:A}{v:Value}(h:Rep w own a v):Rep w' own' a v:=by
 induction h with
 |bool b=>exact .bool b
 |int k n hn=>exact .int k n hn
 |str l hm=>exact .str l hm
 |nilp=>exact .nilp
 |ptr r sz i o=>exact .ptr r sz i o
 |dp cells a vs hc _ ih=>
  refine .dp cells a vs (fun j hj=>?_) ih;have:=s.cell (a:=a.add j) (by rw[zbU];exact(hc j hj).1) (hc j hj).2;rw[zbU] at this;exact this
 |nils=>exact .nils
 |ds elems a cap sz vs hcap hmax hsz hc _ ih=>
  refine .ds elems a cap sz vs hcap hmax hsz (fun i j hi hj=>?_) ih;have:=s.cell (a:=a.add (i*sz+j)) (by rw[zbU];exact(hc i j hi hj).1) (hc i j hi hj).2;rw[zbU] at this;exact this
 |ds0=>exact .ds0
 |os r sz off len cap hr hcap hmax hroom=>
  refine .os r sz off len cap (cy hr s.size) hcap hmax (fun c T f h=>?_)
  obtain⟨c',f',h',hs⟩:=s.shape r hr c T f h;rw[←hs];exact hroom c' T f' h'
 |nilm=>exact .nilm
 |map r=>exact .map r
 |nilf=>exact .nilf
 |fn f first cap fs cs us vs hf hcs h1 h2 _ _ ih3 ih4=>exact .fn f first cap fs cs us vs hf hcs h1 h2 ih3 ih4
 |nili=>exact .nili
 |iface t a v _ ih=>exact .iface t a v ih
 |agg l cs vs hn hc _ ih=>exact .agg l cs vs hn hc ih
 |tup l cs vs hn hc _ ih=>exact .tup l cs vs hn hc ih
 |abs b o=>exact .abs b o
inductive RepL(w:World)(own:Nat→Prop):List A→List Value→Prop
 |nil:RepL w own [] []
 |cons {a:A} {v:Value} {l:List A} {vs:List Value} (h:Rep w own a v) (t:RepL w own l vs):RepL w own (a::l) (v::vs)
theorem RepL.mono{w w':World}{own own':Nat→Prop}(s:Stays w own w' own'){l:List A}{vs:List Value}(h:RepL w own l vs):RepL w' own' l vs:=by
 induction h with
 |nil=>exact .nil
 |cons h _ ih=>exact .cons (h.mono s) ih
theorem RepL.length{w:World}{own:Nat→Prop}{l:List A}{vs:List Value}(h:RepL w own l vs):vs.length=l.length:=by
 induction h with
 |nil=>rfl
 |cons _ _ ih=>simp[ih]
theorem RepL.get{w:World}{own:Nat→Prop}{l:List A}{vs:List Value}(h:RepL w own l vs):∀(i:Nat) (a:A),l[i]?=some a→∃v,vs[i]?=some v∧Rep w own a v:=by
 induction h with
 |nil=>intro i a h;simp at h
 |cons h _ ih=>
  intro i a hi;cases i with
  |zero=>simp at hi;subst hi;exact⟨_,rfl,h⟩
  |succ i=>simpa using ih i a (by simpa using hi)
theorem RepL.append{w:World}{own:Nat→Prop}{l m:List A}{vs us:List Value}(h:RepL w own l vs)(k:RepL w own m us):RepL w own (l++m) (vs++us):=by
 induction h with
 |nil=>exact k
 |cons h _ ih=>exact .cons h ih
theorem RepL.of_get{w:World}{own:Nat→Prop}:∀(l:List A) (vs:List Value),vs.length=l.length→(∀(i:Nat) (a:A),l[i]?=some a→∃v,vs[i]?=some v∧Rep w own a v)→RepL w own l vs
 |[],[],_,_=>.nil
 |[],_::_,h,_=>by simp at h
 |_::_,[],h,_=>by simp at h
 |a::l,v::vs,h,g=>by
  refine .cons ?_ (RepL.of_get l vs (by simpa using h) fun i a hi=>by simpa using g (i+1) a (by simpa using hi))
  obtain⟨v',hv,hr⟩:=g 0 a rfl;simp at hv;subst hv;exact hr
theorem Rep.agg_of{w:World}{own:Nat→Prop}{l:List A}{vs:List Value}(h:RepL w own l vs):Rep w own (.agg l) (.agg vs.toArray):=
 .agg l vs.toArray (fun i=>vs.getD i undef) (by simp[h.length]) (fun i hi=>by
  have:i<vs.length:=by rw[h.length];exact hi
  simp[List.getD_eq_getElem?_getD,List.getElem?_eq_getElem this]) (fun i hi=>by
  obtain⟨v,hv,hr⟩:=h.get i l[i] (by simp[List.getElem?_eq_getElem hi]);simp[List.getD_eq_getElem?_getD,hv];exact hr)
theorem Rep.tup_of{w:World}{own:Nat→Prop}{l:List A}{vs:List Value}(h:RepL w own l vs):Rep w own (.tup l) (.tuple vs.toArray):=
 .tup l vs.toArray (fun i=>vs.getD i undef) (by simp[h.length]) (fun i hi=>by
  have:i<vs.length:=by rw[h.length];exact hi
  simp[List.getD_eq_getElem?_getD,List.getElem?_eq_getElem this]) (fun i hi=>by
  obtain⟨v,hv,hr⟩:=h.get i l[i] (by simp[List.getElem?_eq_getElem hi]);simp[List.getD_eq_getElem?_getD,hv];exact hr)
theorem RepL.of_fn{w:World}{own:Nat→Prop}(l:List A)(cs:Array Value)(vs:Nat→Value)(hn:cs.size=l.length)(hc:∀i,i<l.length→cs[i]?=some (vs i))
  (h:∀i (hi:i<l.length),Rep w own l[i] (vs i)):RepL w own l cs.toList:=
 RepL.of_get l cs.toList (by simpa using hn) fun i a hi=>by
  have hlt:i<l.length:=(List.getElem?_eq_some_iff.1 hi).1;have ha:l[i]=a:=(List.getElem?_eq_some_iff.1 hi).2;refine⟨vs i,?_,ha▸h i hlt⟩;rw[Array.getElem?_toList];exact hc i hlt
theorem Rep.agg_inv{w:World}{own:Nat→Prop}{l:List A}{v:Value}(h:Rep w own (.agg l) v):∃cs:Array Value,v=.agg cs∧RepL w own l cs.toList:=by
 cases h with
 |agg _ cs vs hn hc h=>exact⟨cs,rfl,RepL.of_fn l cs vs hn hc h⟩
theorem Rep.tup_inv{w:World}{own:Nat→Prop}{l:List A}{v:Value}(h:Rep w own (.tup l) v):∃cs:Array Value,v=.tuple cs∧RepL w own l cs.toList:=by
 cases h with
 |tup _ cs vs hn hc h=>exact⟨cs,rfl,RepL.of_fn l cs vs hn hc h⟩
theorem Rep.fn_inv{w:World}{own:Nat→Prop}{f:FuncId}{l m:List A}{v:Value}(h:Rep w own (.fn f l m) v):
  ∃fs cs:Array Value,v=.func (.func f) fs cs∧RepL w own l fs.toList∧RepL w own m cs.toList:=by
 cases h with
 |fn _ _ _ fs cs us vs hf hcs h1 h2 h3 h4=>exact⟨fs,cs,rfl,RepL.of_fn l fs us hf h1 h3,RepL.of_fn m cs vs hcs h2 h4⟩
theorem Rep.fn_of{w:World}{own:Nat→Prop}{f:FuncId}{l m:List A}{us vs:List Value}(h:RepL w own l us)(k:RepL w own m vs):Rep w own (.fn f l m) (.func (.func f) us.toArray vs.toArray):=
 .fn f l m us.toArray vs.toArray (fun i=>us.getD i undef) (fun i=>vs.getD i undef) (by simp[h.length]) (by simp[k.length])
  (fun i hi=>by
   have:i<us.length:=by rw[h.length];exact hi
   simp[List.getD_eq_getElem?_getD,List.getElem?_eq_getElem this])
  (fun i hi=>by
   have:i<vs.length:=by rw[k.length];exact hi
   simp[List.getD_eq_getElem?_getD,List.getElem?_eq_getElem this])
  (fun i hi=>by
   obtain⟨v,hv,hr⟩:=h.get i l[i] (by simp[List.getElem?_eq_getElem hi]);simp[List.getD_eq_getElem?_getD,hv];exact hr)
  (fun i hi=>by
   obtain⟨v,hv,hr⟩:=k.get i m[i] (by simp[List.getElem?_eq_getElem hi]);simp[List.getD_eq_getElem?_getD,hv];exact hr)
theorem Rep.cells{w:World}{own:Nat→Prop}{a:A}{v:Value}(h:Rep w own a v)(ht:a.leaf=true∨∃l,a=.agg l):RepL w own a.cells v.cells.toList:=by
 rcases ht with ht|⟨l,rfl⟩
 ·have h1:a.cells=[a]:=by cases a<;>first|rfl|cases ht
  have h2:v.cells=#[v]:=by cases h<;>first|rfl|cases ht
  rw[h1,h2];exact .cons h .nil
 ·obtain⟨cs,rfl,hl⟩:=h.agg_inv;exact hl
theorem Rep.one{w:World}{own:Nat→Prop}{a:A}{v:Value}(h:Rep w own a v)(ht:a.leaf=true):v.oneCell'=true:=by
 cases h<;>first|rfl|cases ht
abbrev Env:=List (Nat×A)
def get:Env→Nat→Option A
 |[],_=>none
 |(k,v)::r,t=>match Nat.beq k t with|true=>some v|false=>get r t
def put(d:Option Nat)(v:A)(T:Env):Env:=match d with|some d=>(d,v)::T|none=>T
structure NN where
 n:Nat
 d:List Deferred
 g:List (Nat×List A)
instance NN.lit(k:Nat):OfNat NN k:=⟨⟨k,[],[]⟩⟩
def zah(N:NN):Option Nat→Bool
 |none=>true
 |some d=>Nat.blt d N.n
inductive Blk where
 |row (T:TypeId) (sz:Nat) (elems:List (List A))
 |map (es:List (A×A))
 |iter (s:List UInt8) (pos:Nat)
 |froz (T:TypeId) (s:List UInt8)
abbrev Heap:=List (Nat×Blk)
def keys(H:Heap):List Nat:=H.map (·.1)
def own(fr:Nat→Prop)(H:Heap):Nat→Prop:=fun k=>fr k∨k∈keys H
def zdK(w:World)(o:Nat→Prop)(r:Nat):Blk→Prop
 |.row T sz elems=>∃c:Array Value,w.heap[r]?=some (.cells c T (0,0))∧elems.length*sz≤c.size∧(∀i (hi:i<elems.length),elems[i].length=sz)∧
   ∀i (hi:i<elems.length) j (hj:j<elems[i].length),∃v,c[i*sz+j]?=some v∧Rep w o elems[i][j] v∧elems[i][j].leaf=true
 |.map es=>∃(e:Array MapEntry) (clock:Nat),w.heap[r]?=some (.map e clock)∧e.size=es.length∧
   ∀i (hi:i<es.length),∃x,e[i]?=some x∧Rep w o es[i].1 x.key∧Rep w o es[i].2 x.val
 |.iter s pos=>w.heap[r]?=some (.stringIter ⟨s.toArray⟩ pos)
 |.froz T s=>∃(c:Array Value) (f:Nat×Nat),w.heap[r]?=some (.cells c T f)∧(f=(0,0)∨f=(0,s.length))∧s.length≤c.size∧∀(j:Nat) (x:UInt8),s[j]?=some x→c[j]?=some (.int .u8 x.toNat)
structure Sim(fr:Nat→Prop)(H:Heap)(w:World):Prop where
 nodup:(keys H).Nodup
 apart:∀r∈keys H,¬fr r
 old:∀k,fr k→k<w.heap.size
 ok:∀p∈H,zdK w (own fr H) p.1 p.2
structure Ext(H:Heap)(w:World)(H':Heap)(w':World):Prop where
 os:w'.os=w.os
 tape:w'.tape=w.tape
 output:w'.output=w.output
 size:w.heap.size≤w'.heap.size
 same:∀k,k<w.heap.size→k∉keys H→w'.heap[k]?=w.heap[k]?
 keys:∀k∈keys H',k∈keys H∨w.heap.size≤k
 shape:∀k,k<w.heap.size→∀c T f,w'.heap[k]?=some (.cells c T f)→∃c' f',w.heap[k]?=some (.cells c' T f')∧c'.size=c.size
theorem Ext.refl(H:Heap)(w:World):Ext H w H w:=⟨I,I,I,au _,fun _ _ _=>rfl,fun _ h=>.inl h,fun _ _ c _ f h=>⟨c,f,h,I⟩⟩
theorem Ext.trans{H H' H'':Heap}{w w' w'':World}(a:Ext H w H' w')(b:Ext H' w' H'' w''):Ext H w H'' w'' where
 os:=b.os.trans a.os
 tape:=b.tape.trans a.tape
 output:=b.output.trans a.output
 size:=cw a.size b.size
 same k hk hn:=by
  rw[b.same k (cy hk a.size) (fun h=>?_)]
  ·exact a.same k hk hn
  ·rcases a.keys k h with h|h
   ·exact hn h
   ·omega
 keys k hk:=by
  rcases b.keys k hk with h|h
  ·exact a.keys k h
  ·exact .inr (cw a.size h)
 shape k hk c T f h:=by
  obtain⟨c',f',h',hs⟩:=b.shape k (cy hk a.size) c T f h;obtain⟨c'',f'',h'',hs'⟩:=a.shape k hk c' T f' h';exact⟨c'',f'',h'',hs'.trans hs⟩
theorem Ext.stays{fr:Nat→Prop}{H H':Heap}{w w':World}(e:Ext H w H' w'):Stays w (own fr H) w' (own fr H') where
 size:=e.size
 same k hk hn:=e.same k hk (fun h=>hn (.inr h))
 un k hk hn h:=by
  rcases h with h|h
  ·exact hn (.inl h)
  ·rcases e.keys k h with h|h
   ·exact hn (.inr h)
   ·omega
 shape:=e.shape
theorem Ext.below{H':Heap}{w w':World}(e:Ext [] w H' w'):Go.RowKit.Below w.heap.size w w':=
 ⟨e.os,e.tape,e.output,e.size,fun k hk=>e.same k hk (by simp[Go.Abs.keys])⟩
def GOk(g:List (Nat×List A))(w:World)(o:Nat→Prop):Prop:=∀p∈g,Rep w o (.dp p.2) (.pointer (some ⟨p.1,0,none⟩))
theorem GOk.mono{g:List (Nat×List A)}{w w':World}{o o':Nat→Prop}(s:Stays w o w' o')(h:GOk g w o):GOk g w' o':=fun p hp=>(h p hp).mono s
theorem GOk.nil{w:World}{o:Nat→Prop}:GOk [] w o:=fun _ h=>by cases h
structure St(N:NN)(w:World)(o:Nat→Prop)(T:Env)(a:Act):Prop where
 size:a.tmps.size=N.n
 defers:a.defers=N.d
 glob:GOk N.g w o
 at_:∀t x,get T t=some x→∃v,a.tmps[t]?=some v∧Rep w o x v
theorem St.mono{N:NN}{w w':World}{o o':Nat→Prop}{T:Env}{a:Act}(s:Stays w o w' o')(h:St N w o T a):St N w' o' T a:=
 ⟨h.size,h.defers,h.glob.mono s,fun t x hx=>let ⟨v,hv,hr⟩:=h.at_ t x hx;⟨v,hv,hr.mono s⟩⟩
theorem St.sub{N:NN}{w:World}{o:Nat→Prop}{T T':Env}{a:Act}(hs:∀t x,get T' t=some x→get T t=some x)(h:St N w o T a):St N w o T' a:=
 ⟨h.size,h.defers,h.glob,fun t x hx=>h.at_ t x (hs t x hx)⟩
theorem zbc(d:Nat)(x:A)(T:Env)(t:Nat):get ((d,x)::T) t=if d=t then some x else get T t:=by
 by_cases h:d=t
 ·subst h;simp[get]
 ·rw[ac h]
  have:Nat.beq d t=false:=by
   cases hb:Nat.beq d t
   ·rfl
   ·exact absurd (bB hb) h
  simp only[get,this]
theorem St.put{N:NN}{w:World}{o:Nat→Prop}{T:Env}{a:Act}(h:St N w o T a){d:Option Nat}(hd:zah N d=true){x:A}{v:Value}(hr:Rep w o x v):
  St N w o (put d x T) (a.put d v):=by
 cases d with
 |none=>exact h
 |some d=>
  have hlt:d<N.n:=by simpa [zah,cI] using hd
  refine⟨by simp[Act.put,h.size],h.defers,h.glob,fun t y hy=>?_⟩
  simp only[Go.Abs.put,zbc] at hy;simp only[Act.put];by_cases hdt:d=t
  ·subst hdt
   rw[af I] at hy;cases hy;exact⟨v,by rw[Array.getElem?_setIfInBounds_self_of_lt (by rw[h.size];exact hlt)],hr⟩
  ·rw[ac hdt] at hy
   obtain⟨u,hu,hru⟩:=h.at_ t y hy;exact⟨u,by rw[Array.getElem?_setIfInBounds_ne hdt];exact hu,hru⟩
def zcq (P : Program) (f : FuncId) : Prop := ∃ fn, P.funcs[f]? = some fn ∧ fn.body.isNone = false ∧ (fn.name == "runtime.NumGoroutine") = false
structure Tr(P:Program)(f:FuncId)(args:List A)(H:Heap)(R:A→Heap→Prop):Prop where
 can:zcq P f
 run:∀(fr:Nat→Prop) (w:World) (vs:List Value),Sim fr H w→RepL w (own fr H) args vs→
  Calls P f vs.toArray w fun e w'=>∃r H' v,e=.returned v∧R r H'∧Sim fr H' w'∧Rep w' (own fr H') r v∧Ext H w H' w'
def Post(N:NN)(fr:Nat→Prop)(H:Heap)(w:World)(Q:Exit→Env→Heap→Prop):Exit→Act→World→Prop:=
 fun e a w'=>∃T' H',Q e T' H'∧Sim fr H' w'∧St N w' (own fr H') T' a∧Ext H w H' w'
structure AWp(P:Program)(N:NN)(c:Code)(Q:Exit→Env→Heap→Prop)(T:Env)(H:Heap):Prop where
 out:∀(fr:Nat→Prop) (w:World) (a:Act),Sim fr H w→St N w (own fr H) T a→c.wp P (Post N fr H w Q) a w
structure AOps(P:Program)(N:NN)(ops rest:List Oper)(Q:Exit→Env→Heap→Prop)(T:Env)(H:Heap):Prop where
 out:∀(fr:Nat→Prop) (w:World) (a:Act),Sim fr H w→St N w (own fr H) T a→wpList P ops.toArray (Post N fr H w Q) rest a w
def InWp(P:Program)(c:Code)(Q:Exit→Act→World→Prop)(a:Act)(w:World):Prop:=
 ∀(b:Frame) (k:List Item) (cs:List Frame),∃e a' w',Q e a' w'∧Arrives P (lone (b.at a (.inLoop c::k)) cs w) b k cs e a' w'
structure AIn(P:Program)(N:NN)(c:Code)(Q:Exit→Env→Heap→Prop)(T:Env)(H:Heap):Prop where
 out:∀(fr:Nat→Prop) (w:World) (a:Act),Sim fr H w→St N w (own fr H) T a→InWp P c (Post N fr H w Q) a w
theorem Post.of_ext{N:NN}{fr:Nat→Prop}{H H':Heap}{w w':World}{Q:Exit→Env→Heap→Prop}(x:Ext H w H' w'){e:Exit}{a:Act}{w'':World}
  (h:Post N fr H' w' Q e a w''):Post N fr H w Q e a w'':=
 let ⟨T,H'',hq,hs,hst,he⟩:=h;⟨T,H'',hq,hs,hst,x.trans he⟩
def seqQ(K:Env→Heap→Prop)(Q:Exit→Env→Heap→Prop):Exit→Env→Heap→Prop
 |.normal,T,H=>K T H
 |e,T,H=>Q e T H
def zeS(id:Nat)(Q:Exit→Env→Heap→Prop):Exit→Env→Heap→Prop
 |.exit id',T,H=>match Nat.beq id' id with|true=>Q .normal T H|false=>Q (.exit id') T H
 |e,T,H=>Q e T H
section
variable{P:Program}{N:NN}{Q:Exit→Env→Heap→Prop}{T:Env}{H:Heap}
theorem AWp.sub{c:Code}{T':Env}(hs:∀t x,get T' t=some x→get T t=some x)(h:AWp P N c Q T' H):AWp P N c Q T H:=
 ⟨fun fr w a s st=>h.out fr w a s (st.sub hs)⟩
theorem AIn.sub{c:Code}{T':Env}(hs:∀t x,get T' t=some x→get T t=some x)(h:AIn P N c Q T' H):AIn P N c Q T H:=
 ⟨fun fr w a s st=>h.out fr w a s (st.sub hs)⟩
theorem AWp.seq{x y:Code}(h:AWp P N x (seqQ (AWp P N y Q) Q) T H):AWp P N (.seq x y) Q T H:=by
 refine⟨fun fr w a s st=>?_⟩;refine wp_seq (wp_mono (h.out fr w a s st) ?_)
 rintro e a' w' ⟨T',H',q,s',st',x'⟩;cases e with
 |normal=>exact wp_mono (q.out fr w' a' s' st') fun _ _ _=>Post.of_ext x'
 |_=>exact⟨T',H',q,s',st',x'⟩
theorem AWp.skip(h:Q .normal T H):AWp P N .skip Q T H:=⟨fun _ w _ s st=>wp_skip ⟨T,H,h,s,st,Ext.refl H w⟩⟩
theorem AWp.exit{id:Nat}(h:Q (.exit id) T H):AWp P N (.exit id) Q T H:=⟨fun _ w _ s st=>wp_exit ⟨T,H,h,s,st,Ext.refl H w⟩⟩
theorem AWp.ret(h:Q .ret T H):AWp P N .ret Q T H:=⟨fun _ w _ s st=>wp_ret ⟨T,H,h,s,st,Ext.refl H w⟩⟩
theorem AWp.block{id:Nat}{c:Code}(h:AWp P N c (zeS id Q) T H):AWp P N (.block id c) Q T H:=by
 refine⟨fun fr w a s st=>?_⟩;refine wp_block (wp_mono (h.out fr w a s st) ?_)
 rintro e a' w' ⟨T',H',q,s',st',x'⟩;cases e with
 |exit id'=>
  simp only[Exit.inBlock];by_cases hid:id'=id
  ·rw[af hid]
   have:Nat.beq id' id=true:=by subst hid;simp
   simp only[zeS,this] at q;exact⟨T',H',q,s',st',x'⟩
  ·rw[ac hid]
   have:Nat.beq id' id=false:=by
    cases hb:Nat.beq id' id
    ·rfl
    ·exact absurd (bB hb) hid
   simp only[zeS,this] at q;exact⟨T',H',q,s',st',x'⟩
 |_=>exact⟨T',H',q,s',st',x'⟩
theorem InWp.round{c:Code}{Q:Exit→Act→World→Prop}{a:Act}{w:World}(h:c.wp P (Exit.then (InWp P c Q) Q) a w):InWp P c Q a w:=by
 intro b k cs;obtain⟨e,a₁,w₁,hq,harr⟩:=h b (.inLoop c::k) cs;cases e with
 |normal=>
  obtain⟨e₂,a₂,w₂,hq₂,harr₂⟩:=hq b k cs;exact⟨e₂,a₂,w₂,hq₂,.of_steps (Steps.trans (.one step_inLoop) harr) harr₂⟩
 |exit id=>exact⟨_,a₁,w₁,hq,.of_steps (.one step_inLoop) (.pass (x:=.inLoop c) I (fun _ _=>.inl (by simp)) harr)⟩
 |goto l=>exact⟨_,a₁,w₁,hq,.of_steps (.one step_inLoop) (.pass (x:=.inLoop c) I (fun _ _=>.inl (by simp)) harr)⟩
 |ret=>exact⟨_,a₁,w₁,hq,.of_steps (.one step_inLoop) (.pass (x:=.inLoop c) I (fun _ _=>.inl (by simp)) harr)⟩
 |panic ch=>exact⟨_,a₁,w₁,hq,.of_steps (.one step_inLoop) (.pass (x:=.inLoop c) I (fun _ _=>.inl (by simp)) harr)⟩
 |outgrown=>exact⟨_,a₁,w₁,hq,.of_steps (.one step_inLoop) (.pass (x:=.inLoop c) I (fun _ _=>.inl (by simp)) harr)⟩
theorem zlq{c:Code}{Q:Exit→Act→World→Prop}{a:Act}{w:World}(h:c.wp P (Exit.then (InWp P c Q) Q) a w):(Code.loop c).wp P Q a w:=by
 intro b k cs;obtain⟨e,a₁,w₁,hq,harr⟩:=h b (.inLoop c::k) cs;cases e with
 |normal=>
  obtain⟨e₂,a₂,w₂,hq₂,harr₂⟩:=hq b k cs;exact⟨e₂,a₂,w₂,hq₂,.of_steps (Steps.trans (.one step_loop) harr) harr₂⟩
 |exit id=>exact⟨_,a₁,w₁,hq,.of_steps (.one step_loop) (.pass (x:=.inLoop c) I (fun _ _=>.inl (by simp)) harr)⟩
 |goto l=>exact⟨_,a₁,w₁,hq,.of_steps (.one step_loop) (.pass (x:=.inLoop c) I (fun _ _=>.inl (by simp)) harr)⟩
 |ret=>exact⟨_,a₁,w₁,hq,.of_steps (.one step_loop) (.pass (x:=.inLoop c) I (fun _ _=>.inl (by simp)) harr)⟩
 |panic ch=>exact⟨_,a₁,w₁,hq,.of_steps (.one step_loop) (.pass (x:=.inLoop c) I (fun _ _=>.inl (by simp)) harr)⟩
 |outgrown=>exact⟨_,a₁,w₁,hq,.of_steps (.one step_loop) (.pass (x:=.inLoop c) I (fun _ _=>.inl (by simp)) harr)⟩
theorem InWp.mono{c:Code}{Q Q':Exit→Act→World→Prop}{a:Act}{w:World}(h:InWp P c Q a w)(hq:∀e a w,Q e a w→Q' e a w):InWp P c Q' a w:=
 fun b k cs=>let ⟨e,a',w',q,r⟩:=h b k cs;⟨e,a',w',hq _ _ _ q,r⟩
theorem AIn.round{c:Code}(h:AWp P N c (seqQ (AIn P N c Q) Q) T H):AIn P N c Q T H:=by
 refine⟨fun fr w a s st=>?_⟩;refine InWp.round (wp_mono (h.out fr w a s st) ?_)
 rintro e a' w' ⟨T',H',q,s',st',x'⟩;cases e with
 |normal=>exact InWp.mono (q.out fr w' a' s' st') fun _ _ _=>Post.of_ext x'
 |_=>exact⟨T',H',q,s',st',x'⟩
theorem AIn.toRound{c:Code}(h:AWp P N c (seqQ (AIn P N c Q) Q) T H):AWp P N (.loop c) Q T H:=by
 refine⟨fun fr w a s st=>?_⟩;refine zlq (wp_mono (h.out fr w a s st) ?_)
 rintro e a' w' ⟨T',H',q,s',st',x'⟩;cases e with
 |normal=>exact InWp.mono (q.out fr w' a' s' st') fun _ _ _=>Post.of_ext x'
 |_=>exact⟨T',H',q,s',st',x'⟩
end
def ziQ:Value→Option A
 |.bool b=>some (.bool b)
 |.int k n=>match decide (inR k n) with|true=>some (.int k n)|false=>none
 |.string s=>match Nat.ble s.data.toList.length 9223372036854775807 with|true=>some (.str s.data.toList)|false=>none
 |.pointer none=>some .nilp
 |.slice none 0 0=>some .nils
 |.map none=>some .nilm
 |.nilFunc=>some .nilf
 |.nilIface=>some .nili
 |.func (.func f) ⟨[]⟩ ⟨[]⟩=>some (.fn f [] [])
 |.tuple ⟨[]⟩=>some (.tup [])
 |_=>none
theorem ziL{w:World}{o:Nat→Prop}{v:Value}{x:A}(h:ziQ v=some x):Rep w o x v:=by
 unfold ziQ at h;split at h
 ·cases h;exact .bool _
 ·split at h
  ·rename_i hb;cases h;exact .int _ _ (aj hb)
  ·cases h
 ·rename_i s
  split at h
  ·rename_i hb
   cases h;have:=Rep.str (w:=w) (own:=o) s.data.toList (by simpa [maxLen] using bi hb);simpa using this
  ·cases h
 ·cases h;exact .nilp
 ·cases h;exact .nils
 ·cases h;exact .nilm
 ·cases h;exact .nilf
 ·cases h;exact .nili
 ·cases h;exact Rep.fn_of .nil .nil
 ·cases h;exact Rep.tup_of .nil
 ·cases h
def ev(T:Env):Operand→Option A
 |.tmp t=>get T t
 |.const v=>ziQ v
 |.func f=>some (.fn f [] [])
 |.global _=>none
theorem zag{N:NN}{w:World}{o:Nat→Prop}{T:Env}{a:Act}(st:St N w o T a){x:Operand}{y:A}(h:ev T x=some y):Rep w o y (a.eval x):=by
 cases x with
 |tmp t=>
  obtain⟨v,hv,hr⟩:=st.at_ t y h;simp only[Act.eval,Array.getD_eq_getD_getElem?,hv,bT];exact hr
 |const v=>exact ziL h
 |func f=>cases h;exact Rep.fn_of .nil .nil
 |global g=>cases h
def evs(T:Env):List Operand→Option (List A)
 |[]=>some []
 |x::l=>match ev T x with
  |some y=>match evs T l with
   |some r=>some (y::r)
   |none=>none
  |none=>none
theorem zeA{N:NN}{w:World}{o:Nat→Prop}{T:Env}{a:Act}(st:St N w o T a):∀{l:List Operand} {ys:List A},evs T l=some ys→RepL w o ys (l.map a.eval)
 |[],ys,h=>by cases h;exact .nil
 |x::l,ys,h=>by
  simp only[evs] at h;split at h
  ·rename_i y hy
   split at h
   ·rename_i r hr
    cases h;exact .cons (zag st hy) (zeA st hr)
   ·cases h
  ·cases h
section
variable{P:Program}{N:NN}{Q:Exit→Env→Heap→Prop}{T:Env}{H:Heap}
theorem AWp.cond{c:Operand}{x y:Code}{b:Bool}(hc:ev T c=some (.bool b))(ht:b=true→AWp P N x Q T H)(hf:b=false→AWp P N y Q T H):AWp P N (.cond c x y) Q T H:=by
 refine⟨fun fr w a s st=>?_⟩;have:=zag st hc
 generalize hv:a.eval c=v at this
 cases this;exact wp_cond_split hv (fun h=>(ht h).out fr w a s st) (fun h=>(hf h).out fr w a s st)
theorem zaS{fr:Nat→Prop}{H H':Heap}(h:H.Perm H'):own fr H=own fr H':=by
 funext k
 exact propext (or_congr Iff.rfl (h.map _).mem_iff)
theorem Sim.perm{fr:Nat→Prop}{H H':Heap}{w:World}(h:H.Perm H')(s:Sim fr H w):Sim fr H' w where
 nodup:=(h.map _).nodup_iff.1 s.nodup
 apart r hr:=s.apart r ((h.map _).mem_iff.2 hr)
 old:=s.old
 ok p hp:=by rw[←zaS h];exact s.ok p (h.mem_iff.2 hp)
theorem Ext.perm{H H' K:Heap}{w w':World}(h:H.Perm H')(e:Ext H' w K w'):Ext H w K w' where
 os:=e.os
 tape:=e.tape
 output:=e.output
 size:=e.size
 same k hk hn:=e.same k hk (fun x=>hn ((h.map _).mem_iff.2 x))
 keys k hk:=(e.keys k hk).imp (fun x=>(h.map _).mem_iff.2 x) id
 shape:=e.shape
theorem zdK.mono{w w':World}{o o':Nat→Prop}(s:Stays w o w' o'){r:Nat}{b:Blk}(hr:w'.heap[r]?=w.heap[r]?)(h:zdK w o r b):zdK w' o' r b:=by
 cases b with
 |row T sz elems=>
  obtain⟨c,h1,h2,h3,h4⟩:=h;refine⟨c,by rw[hr];exact h1,h2,h3,fun i hi j hj=>?_⟩
  obtain⟨v,hv,hrep,hl⟩:=h4 i hi j hj;exact⟨v,hv,hrep.mono s,hl⟩
 |map es=>
  obtain⟨e,clock,h1,h2,h3⟩:=h;refine⟨e,clock,by rw[hr];exact h1,h2,fun i hi=>?_⟩
  obtain⟨x,hx,h4,h5⟩:=h3 i hi;exact⟨x,hx,h4.mono s,h5.mono s⟩
 |iter l pos=>show w'.heap[r]?=_;rw[hr];exact h
 |froz T l=>obtain⟨c,f,h1,hf,h2,h3⟩:=h;exact⟨c,f,by rw[hr];exact h1,hf,h2,h3⟩
theorem zdK.lt{w:World}{o:Nat→Prop}{r:Nat}{b:Blk}(h:zdK w o r b):r<w.heap.size:=by
 cases b with
 |row T sz elems=>obtain⟨c,h1,_⟩:=h;exact(Array.getElem?_eq_some_iff.1 h1).1
 |map es=>obtain⟨e,clock,h1,_⟩:=h;exact(Array.getElem?_eq_some_iff.1 h1).1
 |iter l pos=>exact(Array.getElem?_eq_some_iff.1 (show w.heap[r]?=_ from h)).1
 |froz T l=>obtain⟨c,f,h1,_⟩:=h;exact(Array.getElem?_eq_some_iff.1 h1).1
theorem Sim.lt{fr:Nat→Prop}{H:Heap}{w:World}(s:Sim fr H w){r:Nat}(hr:r∈keys H):r<w.heap.size:=by
 obtain⟨p,hp,rfl⟩:=List.mem_map.1 hr;exact(s.ok p hp).lt
theorem Stays.less{w:World}{o o':Nat→Prop}(h:∀k,o' k→o k):Stays w o w o':=
 ⟨au _,fun _ _ _=>rfl,fun k _ hn hk=>hn (h k hk),fun _ _ c _ f h=>⟨c,f,h,I⟩⟩
theorem Sim.drop{fr:Nat→Prop}{p:Nat×Blk}{H:Heap}{w:World}(s:Sim fr (p::H) w):Sim fr H w where
 nodup:=(List.nodup_cons.1 s.nodup).2
 apart r hr:=s.apart r (aB _ hr)
 old:=s.old
 ok q hq:=(s.ok q (aB _ hq)).mono (Stays.less fun _ h=>h.imp id (aB _)) I
theorem Ext.drop{p:Nat×Blk}{H K:Heap}{w w':World}(e:Ext H w K w'):Ext (p::H) w K w' where
 os:=e.os
 tape:=e.tape
 output:=e.output
 size:=e.size
 same k hk hn:=e.same k hk (fun x=>hn (aB _ x))
 keys k hk:=(e.keys k hk).imp (aB _) id
 shape:=e.shape
theorem AWp.perm{c:Code}{H':Heap}(h:H.Perm H')(k:AWp P N c Q T H'):AWp P N c Q T H:=by
 refine⟨fun fr w a s st=>?_⟩;refine wp_mono (k.out fr w a (s.perm h) (by rw[←zaS h];exact st)) ?_;rintro e a' w' ⟨T',H'',q,s',st',x'⟩;exact⟨T',H'',q,s',st',x'.perm h⟩
theorem zaT{ops:Array Oper}{Q Q':Exit→Act→World→Prop}(hq:∀e a w,Q e a w→Q' e a w):∀(rest:List Oper) (a:Act) (w:World),wpList P ops Q rest a w→wpList P ops Q' rest a w
 |[],a,w,h=>hq _ _ _ h
 |o::rest,a,w,h=>by
  unfold wpList at h ⊢;split
  ·rename_i hw
   rw[af hw] at h;rcases h with h|⟨h1,a₀,w₀,h2⟩
   ·refine .inl ?_
    unfold Oper.wp Oper.upon at h ⊢;split at h
    ·exact zaT hq rest _ _ h
    ·exact zaT hq rest _ _ h
    ·exact zaT hq rest _ _ h
    ·refine h.mono fun e w'=>?_
     cases e with
     |returned v=>exact zaT hq rest _ _
     |panicked c=>exact hq _ _ _
     |outgrown=>exact fun⟨a₀,w₀,h⟩=>⟨a₀,w₀,hq _ _ _ h⟩
    ·exact h.mono fun v w'=>zaT hq rest _ _
    ·exact hq _ _ _ h
    ·exact h.elim
   ·exact .inr ⟨h1,a₀,w₀,hq _ _ _ h2⟩
  ·rename_i hw
   rw[ac hw] at h;exact zaT hq rest _ _ h
theorem AOps.perm{ops rest:List Oper}{H':Heap}(h:H.Perm H')(k:AOps P N ops rest Q T H'):AOps P N ops rest Q T H:=by
 refine⟨fun fr w a s st=>?_⟩;refine zaT ?_ _ _ _ (k.out fr w a (s.perm h) (by rw[←zaS h];exact st));rintro e a' w' ⟨T',H'',q,s',st',x'⟩;exact⟨T',H'',q,s',st',x'.perm h⟩
theorem AWp.drop{c:Code}{p:Nat×Blk}(k:AWp P N c Q T H):AWp P N c Q T (p::H):=by
 refine⟨fun fr w a s st=>?_⟩;refine wp_mono (k.out fr w a s.drop (st.mono (Stays.less fun _ h=>h.imp id (aB _)))) ?_;rintro e a' w' ⟨T',H'',q,s',st',x'⟩;exact⟨T',H'',q,s',st',x'.drop⟩
theorem AIn.perm{c:Code}{H':Heap}(h:H.Perm H')(k:AIn P N c Q T H'):AIn P N c Q T H:=by
 refine⟨fun fr w a s st=>?_⟩;refine InWp.mono (k.out fr w a (s.perm h) (by rw[←zaS h];exact st)) ?_;rintro e a' w' ⟨T',H'',q,s',st',x'⟩;exact⟨T',H'',q,s',st',x'.perm h⟩
theorem AIn.drop{c:Code}{p:Nat×Blk}(k:AIn P N c Q T H):AIn P N c Q T (p::H):=by
 refine⟨fun fr w a s st=>?_⟩;refine InWp.mono (k.out fr w a s.drop (st.mono (Stays.less fun _ h=>h.imp id (aB _)))) ?_;rintro e a' w' ⟨T',H'',q,s',st',x'⟩;exact⟨T',H'',q,s',st',x'.drop⟩
theorem zcR(fr:Nat→Prop)(H F:Heap):own fr (H++F)=own (fun k=>fr k∨k∈keys F) H:=by
 funext k
 apply propext
 simp only[own,keys,bd,bD];constructor
 ·rintro(h|h|h)
  ·exact .inl (.inl h)
  ·exact .inr h
  ·exact .inl (.inr h)
 ·rintro((h|h)|h)
  ·exact .inl h
  ·exact .inr (.inr h)
  ·exact .inr (.inl h)
theorem Sim.split{fr:Nat→Prop}{H F:Heap}{w:World}(s:Sim fr (H++F) w):Sim (fun k=>fr k∨k∈keys F) H w where
 nodup:=by have:=s.nodup;simp only[keys,bd] at this;exact(List.nodup_append.1 this).1
 apart r hr h:=by
  rcases h with h|h
  ·exact s.apart r (by simp only[keys,bd,bD];exact .inl hr) h
  ·have:=s.nodup
   simp only[keys,bd] at this;exact(List.nodup_append.1 this).2.2 r hr r h I
 old k h:=by
  rcases h with h|h
  ·exact s.old k h
  ·exact s.lt (by simp only[keys,bd,bD];exact .inr h)
 ok p hp:=by rw[←zcR];exact s.ok p (List.mem_append.2 (.inl hp))
theorem Sim.join{fr:Nat→Prop}{H H' F:Heap}{w w':World}(s:Sim fr (H++F) w)(s':Sim (fun k=>fr k∨k∈keys F) H' w')(e:Ext H w H' w'):Sim fr (H'++F) w' where
 nodup:=by
  simp only[keys,bd];have h0:=s.nodup;simp only[keys,bd] at h0;refine List.nodup_append.2 ⟨s'.nodup,(List.nodup_append.1 h0).2.1,fun a ha b hb hab=>?_⟩;subst hab;exact s'.apart a ha (.inr hb)
 apart r hr h:=by
  simp only[keys,bd,bD] at hr;rcases hr with hr|hr
  ·exact s'.apart r hr (.inl h)
  ·exact s.apart r (by simp only[keys,bd,bD];exact .inr hr) h
 old k h:=cy (s.old k h) e.size
 ok p hp:=by
  rw[zcR];rcases List.mem_append.1 hp with hp|hp
  ·exact s'.ok p hp
  ·have hk:p.1∈keys F:=List.mem_map.2 ⟨p,hp,I⟩
   have h1:=s.ok p (List.mem_append.2 (.inr hp));rw[zcR] at h1;refine h1.mono (e.stays (fr:=fun k=>fr k∨k∈keys F)) (e.same _ h1.lt (fun h=>?_));exact s.split.apart p.1 h (.inr hk)
theorem Ext.frame{H H' F:Heap}{w w':World}(e:Ext H w H' w'):Ext (H++F) w (H'++F) w' where
 os:=e.os
 tape:=e.tape
 output:=e.output
 size:=e.size
 same k hk hn:=e.same k hk (fun x=>hn (by simp only[Go.Abs.keys,bd,bD];exact .inl x))
 keys k hk:=by
  simp only[Go.Abs.keys,bd,bD] at hk ⊢;rcases hk with h|h
  ·exact(e.keys k h).imp .inl id
  ·exact .inl (.inr h)
 shape:=e.shape
theorem Tr.frame{f:FuncId}{args:List A}{R:A→Heap→Prop}(F:Heap)(h:Tr P f args H R):Tr P f args (H++F) fun r H'=>∃H0,R r H0∧H'=H0++F:=by
 refine⟨h.can,fun fr w vs s as=>?_⟩;rw[zcR] at as;refine(h.run _ w vs s.split as).mono ?_;rintro e w' ⟨r,H',v,rfl,hR,s',hr,x⟩;exact⟨r,H'++F,v,I,⟨H',hR,I⟩,s.join s' x,by rw[zcR];exact hr,x.frame⟩
def zc9:Nat→List A→Env
 |_,[]=>[]
 |i,a::l=>(i,a)::zc9 (i+1) l
theorem zeH:∀(l:List A) (i t:Nat) (x:A),get (zc9 i l) t=some x→i≤t∧l[t - i]?=some x
 |[],_,_,_,h=>by simp[zc9,get] at h
 |a::l,i,t,x,h=>by
  simp only[zc9,zbc] at h;by_cases hit:i=t
  ·subst hit;rw[af I] at h;cases h;exact⟨au _,by simp⟩
  ·rw[ac hit] at h
   obtain⟨h1,h2⟩:=zeH l (i+1) t x h;refine⟨by omega,?_⟩
   have:t - i=(t - (i+1))+1:=by omega
   rw[this];simpa using h2
def zac(P:Program)(fn:Func)(N:NN)(T:Env)(H:Heap)(r:A):Prop:=
 ∀(fr:Nat→Prop) (w:World) (a:Act),Sim fr H w→St N w (own fr H) T a→∃v,(results fn a.tmps).run P w=.ok v w∧Rep w (own fr H) r v
def zkT(P:Program)(fn:Func)(N:NN)(R:A→Heap→Prop):Exit→Env→Heap→Prop
 |.ret,T,H|.normal,T,H=>∃r,zac P fn N T H r∧R r H
 |_,_,_=>False
theorem Tr.of_body {N : Nat} {f : FuncId} {fn : Func} {c : Code} {args : List A} {R : A → Heap → Prop} (hf : P.funcs[f]? = some fn) (hb : fn.body = some c) (hn : (fn.name == "runtime.NumGoroutine") = false)
  (hN:args.length+(fn.ntmps - args.length)=N) (h:AWp P ⟨N,[],[]⟩ c (zkT P fn ⟨N,[],[]⟩ R) (zc9 0 args) H):Tr P f args H R:=by
 refine⟨⟨fn,hf,by simp[hb],hn⟩,fun fr w vs s as=>?_⟩
 refine calls_of_wp hf hb (wp_mono (h.out fr w _ s ⟨?_,I,GOk.nil,fun t x hx=>?_⟩) ?_)
 ·simp[as.length,hN]
 ·obtain⟨_,h2⟩:=zeH args 0 t x hx
  obtain⟨v,hv,hr⟩:=as.get t x (by simpa using h2);refine⟨v,?_,hr⟩;have hlt:t<vs.length:=(List.getElem?_eq_some_iff.1 hv).1;rw[Array.getElem?_append_left (by simpa using hlt)];simpa using hv
 ·rintro e a w' ⟨T',H',q,s',st',x'⟩
  cases e with
  |normal=>
   obtain⟨r,hr,hR⟩:=q;obtain⟨v,h1,h2⟩:=hr fr w' a s' st';exact⟨st'.defers,v,h1,r,H',v,I,hR,s',h2,x'⟩
  |ret=>
   obtain⟨r,hr,hR⟩:=q;obtain⟨v,h1,h2⟩:=hr fr w' a s' st';exact⟨st'.defers,v,h1,r,H',v,I,hR,s',h2,x'⟩
  |_=>exact q.elim
theorem zaH{w:World}{o:Nat→Prop}{a:Act}(st:St N w o T a){t:Nat}{x:A}(h:get T t=some x):Rep w o x (a.tmps.getD t undef):=zag (x:=.tmp t) st h
theorem zac.none{fn:Func}(h:fn.results=#[]):zac P fn N T H (.tup []):=fun _ _ a _ _=>⟨_,results_none h a.tmps P _,Rep.tup_of .nil⟩
theorem zac.one{fn:Func}{t:Nat}{x:A}(h:fn.results=#[.tmp t])(hx:get T t=some x):zac P fn N T H x:=
 fun _ _ a _ st=>⟨_,results_tmp h a.tmps P _,zaH st hx⟩
theorem zac.two{fn:Func}{t u:Nat}{x y:A}(h:fn.results=#[.tmp t,.tmp u])(hx:get T t=some x)(hy:get T u=some y):zac P fn N T H (.tup [x,y]):=
 fun _ _ a _ st=>⟨_,results_tmp2 h a.tmps P _,Rep.tup_of (.cons (zaH st hx) (.cons (zaH st hy) .nil))⟩
structure AOp(P:Program)(N:NN)(ops:List Oper)(o:Oper)(rest:List Oper)(Q:Exit→Env→Heap→Prop)(T:Env)(H:Heap):Prop where
 out:∀(fr:Nat→Prop) (w:World) (a:Act),Sim fr H w→St N w (own fr H) T a→o.wp P a w (wpList P ops.toArray (Post N fr H w Q) rest) (Post N fr H w Q)
theorem AWp.region{id:Nat}{ops:List Oper}(h:AOps P N ops ops Q T H):AWp P N (.region id ops.toArray false) Q T H:=⟨fun fr w a s st=>wp_region_lit (h.out fr w a s st)⟩
theorem AOps.nil{ops:List Oper}(h:Q .normal T H):AOps P N ops [] Q T H:=⟨fun _ w _ s st=>wpList_nil ⟨T,H,h,s,st,Ext.refl H w⟩⟩
theorem AOps.plain{ops rest:List Oper}{o:Oper}(hg:o.guard=none)(h:AOp P N ops o rest Q T H):AOps P N ops (o::rest) Q T H:=by
 refine⟨fun fr w a s st=>?_⟩;unfold wpList;rw[af (by simp[Region.wanted,hg])];exact .inl (h.out fr w a s st)
theorem zlj{ops:List Oper}{w:World}{o:Nat→Prop}{a:Act}(st:St N w o T a){j d:Nat}{b:Bool}(hd:(ops[j]?).bind (·.dst)=some d)(ht:get T d=some (.bool b)):
  yielded ops.toArray a.tmps j=some b:=by
 obtain⟨v,hv,hr⟩:=st.at_ d _ ht;cases hr;unfold yielded;simp only[List.getElem?_toArray,hd,cz,hv]
theorem AOps.guarded{ops rest:List Oper}{o:Oper}{j d:Nat}{b b':Bool}(hg:o.guard=some (j,b))(hd:(ops[j]?).bind (·.dst)=some d)(ht:get T d=some (.bool b'))
  (hdst:zah N o.dst=true) (h1:b'=b→AOp P N ops o rest Q T H) (h2:b'=!b→AOps P N ops rest Q (put o.dst (.tup []) T) H):AOps P N ops (o::rest) Q T H:=by
 refine⟨fun fr w a s st=>?_⟩;have hy:=zlj st hd ht;unfold wpList;by_cases hb:b'=b
 ·rw[af (by simp[Region.wanted,hg,hy,hb])]
  exact .inl ((h1 hb).out fr w a s st)
 ·rw[ac (by simp[Region.wanted,hg,hy,hb])]
  exact(h2 (by cases b<;>cases b'<;>simp_all)).out fr w _ s (st.put hdst (Rep.tup_of .nil))
def zky(P:Program)(N:NN)(o:Oper)(T:Env)(H:Heap)(R:A→Heap→Prop):Prop:=
 ∀(fr:Nat→Prop) (w:World) (a:Act),Sim fr H w→St N w (own fr H) T a→∃w' v v' H',((execOp a.eval o).run P w=.ok (.value v') w'∨((execOp a.eval o).run P w=.ok .skip w'∧v'=undef))∧
  R v H'∧Sim fr H' w'∧Rep w' (own fr H') v v'∧Ext H w H' w'
theorem AOps.ext{ops rest:List Oper}{H':Heap}{fr:Nat→Prop}{w w':World}{a:Act}(x:Ext H w H' w')(k:wpList P ops.toArray (Post N fr H' w' Q) rest a w'):wpList P ops.toArray (Post N fr H w Q) rest a w':=
 zaT (fun _ _ _=>Post.of_ext x) _ _ _ k
theorem AOp.sem{ops rest:List Oper}{o:Oper}{R:A→Heap→Prop}(h:zky P N o T H R)(hd:zah N o.dst=true)(k:∀v H',R v H'→AOps P N ops rest Q (put o.dst v T) H'):AOp P N ops o rest Q T H:=by
 refine⟨fun fr w a s st=>?_⟩;obtain⟨w',v,v',H',hrun,hR,s',hr,x⟩:=h fr w a s st;have hk:=AOps.ext (ops:=ops) (rest:=rest) (Q:=Q) x ((k v H' hR).out fr w' (a.put o.dst v') s' ((st.mono x.stays).put hd hr));unfold Oper.wp;rcases hrun with hrun|⟨hrun,rfl⟩
 ·rw[hrun];exact hk
 ·rw[hrun];exact hk
def zlB(P:Program)(N:NN)(o:Oper)(T:Env)(H:Heap)(v:A):Prop:=
 ∀(fr:Nat→Prop) (w:World) (a:Act),Sim fr H w→St N w (own fr H) T a→∃v',(execOp a.eval o).run P w=.ok (.value v') w∧Rep w (own fr H) v v'
theorem zlB.sem{o:Oper}{v:A}(h:zlB P N o T H v):zky P N o T H fun r H'=>r=v∧H'=H:=
 fun fr w a s st=>let ⟨v',hr,hv⟩:=h fr w a s st;⟨w,v,v',H,.inl hr,⟨I,I⟩,s,hv,Ext.refl H w⟩
theorem AOp.pure{ops rest:List Oper}{o:Oper}{v:A}(h:zlB P N o T H v)(hd:zah N o.dst=true)(k:AOps P N ops rest Q (put o.dst v T) H):AOp P N ops o rest Q T H:=
 AOp.sem h.sem hd fun _ _ ⟨h1,h2⟩=>by subst h1;subst h2;exact k
theorem zc5{f:FuncId}(hc:zcq P f)(args:Array Value)(w:World):(callFunc f args).run P w=.ok (.enter f args) w:=by
 obtain⟨fn,h1,h2,h3⟩:=hc;have h2':¬fn.body=none:=by intro h;rw[h] at h2;cases h2
 have h3' : ¬ fn.name = "runtime.NumGoroutine" := by intro h; rw [h] at h3; simp at h3
 unfold callFunc;simp[program,h1,h3',h2',Sem.run]
theorem AOp.callFn{ops rest:List Oper}{dst:Option Nat}{callee:Operand}{args:List Operand}{ats:Array TypeId}{ty:TypeId}{pos:String}{after:Array Edge}{guard:Option (Nat×Bool)}
  {f:FuncId} {first cap as:List A} {Hc F:Heap} {R:A→Heap→Prop} (hf:ev T callee=some (.fn f first cap)) (ha:evs T args=some as) (hd:zah N dst=true)
  (hH:H.Perm (Hc++F)) (ht:Tr P f (first++as++cap) Hc R) (k:∀r H',R r H'→AOps P N ops rest Q (put dst r T) (H'++F)):
  AOp P N ops ⟨dst,.call {callee:=.value callee,args:=args.toArray,argTypes:=ats},ty,pos,after,guard⟩ rest Q T H:=by
 refine⟨fun fr w a s st=>?_⟩;have s1:=s.perm hH;have e1:own fr H=own fr (Hc++F):=zaS hH;rw[e1] at st;obtain⟨fs,cs,hv,r1,r2⟩:=(zag st hf).fn_inv;have r3:=zeA st ha;have hargs:=(r1.append r3).append r2;have hcall:=(ht.frame F).run fr w _ s1 hargs;unfold Oper.wp execOp;simp only[resolve,Deferred.ofValue,hv,Sem.run_bind,Sem.run_pure,Result.andThen_ok,invoke,zc5 ht.can,Oper.upon_enter];have e2:((fs.toList++args.map a.eval)++cs.toList).toArray=fs++args.toArray.map a.eval++cs:=by simp
 rw[e2] at hcall;refine hcall.mono ?_;rintro e w' ⟨r,H',v,rfl,⟨H0,hR,rfl⟩,s',hr,x⟩;have x':Ext H w (H0++F) w':=x.perm hH;exact AOps.ext x' ((k r H0 hR).out fr w' (a.put dst v) s' ((st.mono x.stays).put hd hr))
end
inductive TD where
 |bool|int (k:IntKind)|string|pointer (e:Nat)|slice (e:Nat)|array (n e:Nat)|map (k e:Nat)|struct (fs:List (Nat×Nat))|func|iface|other
 deriving DecidableEq
def TD.isAgg:TD→Bool
 |.struct _|.array _ _=>true
 |_=>false
structure TI where
 td:TD
 size:Nat
 bytes:Nat
 zero:List A
def tdOf:TypeDesc→TD
 |.bool=>.bool
 |.int k=>.int k
 |.string=>.string
 |.pointer e=>.pointer e
 |.slice e=>.slice e
 |.array n e=>.array n e
 |.map k e=>.map k e
 |.struct fs=>.struct (fs.toList.map fun f=>(f.offset,f.type))
 |.func .. =>.func
 |.interface _=>.iface
 |_=>.other
abbrev Lay:=List (Nat×TI)
def lay:Lay→Nat→Option TI
 |[],_=>none
 |(k,v)::r,t=>match Nat.beq k t with|true=>some v|false=>lay r t
structure TIOk(P:Program)(t:Nat)(i:TI):Prop where
 und:∃d,P.underlying t=some d∧tdOf d=i.td
 info:∃n z,P.info? t=some n∧n.size=i.size∧n.bytes=i.bytes∧n.zero=some z∧z.cells.size=i.size∧(∀w o,RepL w o i.zero z.cells.toList)∧(∀w o,Rep w o (if i.td.isAgg then .agg i.zero else i.zero.headD default) z)
def zaq(P:Program)(L:Lay):Prop:=∀t i,lay L t=some i→TIOk P t i
def zcJ:List A→List Value→Bool
 |[],[]=>true
 |a::l,v::vs=>(match a,v with
   |.bool x,.bool y=>x==y
   |.int k n,.int k' n'=>decide (k=k')&&(n==n'&&decide (inR k n))
   |.str [],.string s=>s.size==0
   |.nilp,.pointer none=>true
   |.nils,.slice none 0 0=>true
   |.nilm,.map none=>true
   |.nilf,.nilFunc=>true
   |.nili,.nilIface=>true
   |_,_=>false)&&zcJ l vs
 |_,_=>false
theorem zcS{w:World}{o:Nat→Prop}:∀{l:List A} {vs:List Value},zcJ l vs=true→RepL w o l vs
 |[],[],_=>.nil
 |[],_::_,h=>by simp[zcJ] at h
 |_::_,[],h=>by simp[zcJ] at h
 |a::l,v::vs,h=>by
  simp only[zcJ,aO] at h;refine .cons ?_ (zcS h.2);have h1:=h.1;split at h1
  ·rw[bu] at h1
   subst h1;exact .bool _
  ·rw[aO,aO,bu] at h1
   obtain⟨h2,h3,h4⟩:=h1;have h2:=aj h2;subst h2;subst h3;exact .int _ _ (aj h4)
  ·rename_i s
   have hs:s=⟨#[]⟩:=by
    have:s.size=0:=by simpa using h1
    cases s with|mk d=>simp[ByteArray.size] at this;subst this;rfl
   subst hs;exact .str [] (by simp)
  ·exact .nilp
  ·exact .nils
  ·exact .nilm
  ·exact .nilf
  ·exact .nili
  ·cases h1
def ziV(P:Program)(p:Nat×TI):Bool:=
 (match P.underlying p.1 with|some d=>decide (tdOf d=p.2.td)|none=>false)&&
 (match P.info? p.1 with
  |some n=>n.size==p.2.size&&n.bytes==p.2.bytes&&
   (match n.zero with
    |some z=>z.cells.size==p.2.size&&zcJ p.2.zero z.cells.toList&&(match z with|.agg _=>p.2.td.isAgg|.tuple _=>false|_=>!p.2.td.isAgg)
    |none=>false)
  |none=>false)
theorem zlh{P:Program}{t:Nat}{i:TI}(h:ziV P (t,i)=true):TIOk P t i:=by
 simp only[ziV,aO] at h;obtain⟨h1,h2⟩:=h;constructor
 ·split at h1
  ·rename_i d hd;exact⟨d,hd,by simpa using h1⟩
  ·cases h1
 ·split at h2
  ·rename_i n hn
   simp only[aO] at h2;obtain⟨⟨h3,h4⟩,h5⟩:=h2;split at h5
   ·rename_i z hz
    simp only[aO] at h5;obtain⟨⟨h6,h7⟩,h8⟩:=h5;refine⟨n,z,hn,by simpa using h3,by simpa using h4,hz,by simpa using h6,fun w o=>zcS h7,fun w o=>?_⟩
    have hr:=zcS (w:=w) (o:=o) h7;split at h8
    ·rename_i cs
     rw[af h8];have:=Rep.agg_of hr;simpa [Value.cells] using this
    ·cases h8
    ·rename_i hn1 hn2
     have h8':i.td.isAgg=false:=by simpa using h8
     rw[ac (by simp[h8'])];have hc:z.cells=#[z]:=by cases z<;>first|rfl|exact absurd I (hn1 _)
     rw[hc] at hr;cases hz:i.zero with
     |nil=>rw[hz] at hr;cases hr
     |cons a l=>rw[hz] at hr;cases hr with|cons h _=>exact h
   ·cases h5
  ·cases h2
theorem zaq.of_check{P:Program}{L:Lay}(h:L.all (ziV P)=true):zaq P L:=by
 induction L with
 |nil=>intro t i h;simp[lay] at h
 |cons p L ih=>
  simp only[List.all_cons,aO] at h;intro t i hi;obtain⟨k,v⟩:=p;simp only[lay] at hi;split at hi
  ·rename_i hb
   cases hi;have:=bB hb;subst this;exact zlh h.1
  ·exact ih h.2 t i hi
section
variable{P:Program}{N:NN}{Q:Exit→Env→Heap→Prop}{T:Env}{H:Heap}{ops rest:List Oper}{dst:Option Nat}{ty:TypeId}{pos:String}{after:Array Edge}{guard:Option (Nat×Bool)}{L:Lay}
theorem AOp.move{x:Operand}{v:A}(h:ev T x=some v)(hd:zah N dst=true)(k:AOps P N ops rest Q (put dst v T) H):AOp P N ops ⟨dst,.move x,ty,pos,after,guard⟩ rest Q T H:=
 AOp.pure (fun _ _ a _ st=>⟨a.eval x,by simp[execOp],zag st h⟩) hd k
theorem AOp.assign{x:Operand}{v:A}(h:ev T x=some v)(hd:zah N dst=true)(k:AOps P N ops rest Q (put dst v T) H):AOp P N ops ⟨dst,.assign x,ty,pos,after,guard⟩ rest Q T H:=
 AOp.pure (fun _ _ a _ st=>⟨a.eval x,by simp[execOp],zag st h⟩) hd k
theorem AOp.pick{c x y:Operand}{b:Bool}{v:A}(hc:ev T c=some (.bool b))(h:(bif b then ev T x else ev T y)=some v)(hd:zah N dst=true)(k:AOps P N ops rest Q (put dst v T) H):
  AOp P N ops ⟨dst,.pick c x y,ty,pos,after,guard⟩ rest Q T H:=
 AOp.pure (fun _ _ a _ st=>by
  have hr:=zag st hc
  generalize hv:a.eval c=u at hr
  cases hr;cases b with
  |true=>exact⟨a.eval x,by simp[execOp,hv,asBool],zag st h⟩
  |false=>exact⟨a.eval y,by simp[execOp,hv,asBool],zag st h⟩) hd k
def binI(op:BinOp)(k:IntKind)(a b:Int):Option A:=
 match op with
 |.add=>some (.int k (k.wrap (a+b)))
 |.sub=>some (.int k (k.wrap (a - b)))
 |.mul=>some (.int k (k.wrap (a*b)))
 |.eql=>some (.bool (a==b))
 |.neq=>some (.bool (a !=b))
 |.lss=>some (.bool (decide (a<b)))
 |.leq=>some (.bool (decide (a≤b)))
 |.gtr=>some (.bool (decide (a>b)))
 |.geq=>some (.bool (decide (a≥b)))
 |.and=>some (.int k (k.wrap (BitVec.ofInt k.bits a&&&BitVec.ofInt k.bits b).toNat))
 |.or=>some (.int k (k.wrap (BitVec.ofInt k.bits a|||BitVec.ofInt k.bits b).toNat))
 |.xor=>some (.int k (k.wrap (BitVec.ofInt k.bits a^^^BitVec.ofInt k.bits b).toNat))
 |.andNot=>some (.int k (k.wrap (BitVec.ofInt k.bits a&&&~~~BitVec.ofInt k.bits b).toNat))
 |.quo=>match decide (b=0) with|true=>none|false=>some (.int k (k.wrap (a.tdiv b)))
 |.rem=>match decide (b=0) with|true=>none|false=>some (.int k (a.tmod b))
 |.shl|.shr=>none
theorem zoA{k:IntKind}{a:Int}(b:Int)(ha:inR k a):inR k (a.tmod b):=by
 unfold inR at*;have h0:k.min≤0:=by cases k<;>decide
 have h1:0≤k.max:=by cases k<;>decide
 have h2:(a.tmod b).natAbs≤a.natAbs:=by rw[Int.natAbs_tmod];exact Nat.mod_le _ _
 rcases Int.le_total 0 a with h|h
 ·have:=Int.tmod_nonneg b h;omega
 ·have:a.tmod b≤0:=by
   have:=Int.tmod_nonneg b (show 0≤-a by omega)
   rw[Int.neg_tmod] at this;omega
  omega
theorem zqM{k:IntKind}{a:Int}(n:Nat)(ha:inR k a):inR k (a.fdiv (2^n)):=by
 unfold inR at*;have h0:k.min≤0:=by cases k<;>decide
 have h1:0≤k.max:=by cases k<;>decide
 have hp:(1:Int)≤2^n:=by
  have:=Nat.one_le_two_pow (n:=n)
  exact_mod_cast this
 rw[Int.fdiv_eq_ediv_of_nonneg _ (by omega)];constructor
 ·have:k.min*2^n≤a:=by
   have:k.min*2^n≤k.min*1:=Int.mul_le_mul_of_nonpos_left h0 hp;omega
  exact Int.le_ediv_of_mul_le (by omega) this
 ·rcases Int.le_total 0 a with h|h
  ·have:=Int.ediv_le_self (2^n) h;omega
  ·have:a / 2^n≤0:=by
    have:=Int.ediv_le_ediv (show(0:Int)<2^n by omega) h
    simpa using this
   omega
theorem zon{w:World}{o:Nat→Prop}{op:BinOp}{xt:TypeId}{x y:Operand}{k:IntKind}{a b:Int}{r:A}(ha:inR k a)(h:binI op k a b=some r):
  ∃z,(do eqGuard op xt x y (.int k a) (.int k b);binOp op xt (.int k a) (.int k b):Sem Value).run P w=.ok z w∧Rep w o r z:=by
 cases op<;>simp only[binI] at h
 case quo=>
  split at h
  ·cases h
  ·rename_i hb
   have hb:=ao hb;cases h;exact⟨.int k (k.wrap (a.tdiv b)),by simp[go_sem,Op.intDiv,hb],.int _ _ (zdZ _ _)⟩
 case rem=>
  split at h
  ·cases h
  ·rename_i hb
   have hb:=ao hb;cases h;exact⟨.int k (a.tmod b),by simp[go_sem,Op.intDiv,hb],.int _ _ (zoA _ ha)⟩
 all_goals first|(cases h;done)|(cases h;exact⟨_,by simp[go_sem,Op.intArith,Op.intBits];rfl,by first|exact .bool _|exact .int _ _ (zdZ _ _)⟩)
theorem AOp.binI{op:BinOp}{xt yt:TypeId}{x y:Operand}{k:IntKind}{a b:Int}{r:A}(hx:ev T x=some (.int k a))(hy:ev T y=some (.int k b))(h:binI op k a b=some r)(hd:zah N dst=true)
  (k:AOps P N ops rest Q (put dst r T) H):AOp P N ops ⟨dst,.binOp op xt x y yt,ty,pos,after,guard⟩ rest Q T H:=
 AOp.pure (fun _ w act _ st=>by
  have hu:=zag st hx;have hv:=zag st hy
  generalize h1:act.eval x=u at hu
  generalize h2:act.eval y=v at hv
  cases hu with|int _ _ hua=>
  cases hv;obtain⟨z,hz,hr⟩:=zon (P:=P) (w:=w) (xt:=xt) (x:=x) (y:=y) hua h;exact⟨z,by simp only[execOp,h1,h2,Sem.run_bind,hz,Result.andThen_ok,Sem.run_pure],hr⟩) hd k
theorem AOp.shr{xt yt:TypeId}{x y:Operand}{k yk:IntKind}{a b:Int}(hx:ev T x=some (.int k a))(hy:ev T y=some (.int yk b))(hb:0≤b)(hd:zah N dst=true)
  (kk:AOps P N ops rest Q (put dst (.int k (a.fdiv (2^(min b.toNat k.bits)))) T) H):AOp P N ops ⟨dst,.binOp .shr xt x y yt,ty,pos,after,guard⟩ rest Q T H:=
 AOp.pure (fun _ w act _ st=>by
  have hu:=zag st hx;have hv:=zag st hy
  generalize h1:act.eval x=u at hu
  generalize h2:act.eval y=v at hv
  cases hu with|int _ _ hua=>
  cases hv;exact⟨.int k _,by simp only[execOp,h1,h2];simp[binOp_shl,binOp_shr,eqGuard_shl,eqGuard_shr,Op.shift,show¬b<0 by omega],.int _ _ (zqM _ hua)⟩) hd kk
theorem AOp.unI{u:UnOp}{xt:TypeId}{x:Operand}{k:IntKind}{a:Int}{r:A}(hx:ev T x=some (.int k a))(h:(match u with|.neg=>some (A.int k (k.wrap (0 - a)))|.xor=>some (.int k (k.wrap (BitVec.ofInt k.bits (if k.signed then -1 else k.max)^^^BitVec.ofInt k.bits a).toNat))|_=>none)=some r)(hd:zah N dst=true)
  (kk:AOps P N ops rest Q (put dst r T) H):AOp P N ops ⟨dst,.unOp u xt x,ty,pos,after,guard⟩ rest Q T H:=
 AOp.pure (fun _ w act _ st=>by
  have hu:=zag st hx
  generalize h1:act.eval x=v at hu
  cases hu;cases u<;>first|(cases h;done)|(cases h;exact⟨.int k _,by simp only[execOp,h1];simp[Op.unary,Op.intArith,Op.intBits],.int _ _ (zdZ _ _)⟩)) hd kk
theorem AOp.not{xt:TypeId}{x:Operand}{b:Bool}(hx:ev T x=some (.bool b))(hd:zah N dst=true)
  (kk:AOps P N ops rest Q (put dst (.bool (!b)) T) H):AOp P N ops ⟨dst,.unOp .not xt x,ty,pos,after,guard⟩ rest Q T H:=
 AOp.pure (fun _ w act _ st=>by
  have hu:=zag st hx
  generalize h1:act.eval x=v at hu
  cases hu;exact⟨.bool _,by simp only[execOp,h1];simp[Op.unary],.bool _⟩) hd kk
theorem AOp.extract{x:Operand}{i:Nat}{l:List A}{v:A}(hx:ev T x=some (.tup l))(hi:l[i]?=some v)(hd:zah N dst=true)
  (kk:AOps P N ops rest Q (put dst v T) H):AOp P N ops ⟨dst,.extract x i,ty,pos,after,guard⟩ rest Q T H:=
 AOp.pure (fun _ w act _ st=>by
  obtain⟨cs,h1,hr⟩:=(zag st hx).tup_inv;obtain⟨u,hu,hv⟩:=hr.get i v hi;rw[Array.getElem?_toList] at hu;exact⟨u,by simp[execOp,h1,Instr.extract,hu],hv⟩) hd kk
theorem AOp.makeFunc{f:FuncId}{first cap:List Operand}{l m:List A}(h1:evs T first=some l)(h2:evs T cap=some m)(hd:zah N dst=true)
  (kk:AOps P N ops rest Q (put dst (.fn f l m) T) H):AOp P N ops ⟨dst,.makeFunc (.func f) first.toArray cap.toArray,ty,pos,after,guard⟩ rest Q T H:=
 AOp.pure (fun _ w act _ st=>by
  exact⟨.func (.func f) (first.map act.eval).toArray (cap.map act.eval).toArray,by simp[execOp,Instr.makeFunc],Rep.fn_of (zeA st h1) (zeA st h2)⟩) hd kk
theorem AOp.convI{src dt:TypeId}{x:Operand}{k k':IntKind}{a:Int}{i j:TI}(hL:zaq P L)(hx:ev T x=some (.int k a))(hs:lay L src=some i)(hj:lay L dt=some j)(ht:j.td=.int k')(hd:zah N dst=true)
  (kk:AOps P N ops rest Q (put dst (.int k' (k'.wrap a)) T) H):AOp P N ops ⟨dst,.convert src dt x,ty,pos,after,guard⟩ rest Q T H:=
 AOp.pure (fun _ w act _ st=>by
  have hu:=zag st hx
  generalize h1:act.eval x=v at hu
  cases hu;obtain⟨d,hd1,hd2⟩:=(hL _ _ hs).und;obtain⟨e,he1,he2⟩:=(hL _ _ hj).und;rw[ht] at he2;have he:e=.int k':=by cases e<;>simp[tdOf] at he2;subst he2;rfl
  subst he;exact⟨.int k' (k'.wrap a),by simp[execOp,h1,convert,run_underlying hd1,run_underlying he1,Conv.intToInt],.int _ _ (zdZ _ _)⟩) hd kk
end
inductive At:Heap→Nat→Blk→Blk→Heap→Prop
 |here {r:Nat} {b b':Blk} {H:Heap}:At ((r,b)::H) r b b' ((r,b')::H)
 |there {p:Nat×Blk} {r:Nat} {b b':Blk} {H H':Heap} (h:At H r b b' H'):At (p::H) r b b' (p::H')
theorem At.mem{H H':Heap}{r:Nat}{b b':Blk}(h:At H r b b' H'):(r,b)∈H:=by
 induction h with
 |here=>exact aE
 |there _ ih=>exact aB _ ih
theorem At.keys{H H':Heap}{r:Nat}{b b':Blk}(h:At H r b b' H'):keys H'=keys H:=by
 induction h with
 |here=>rfl
 |there _ ih=>simp only[Go.Abs.keys,aU] at ih ⊢;rw[ih]
theorem At.cases'{H H':Heap}{r:Nat}{b b':Blk}(h:At H r b b' H')(hn:(Go.Abs.keys H).Nodup):∀p∈H',p=(r,b')∨(p∈H∧p.1≠r):=by
 induction h with
 |here=>
  intro p hp;rcases List.mem_cons.1 hp with hp|hp
  ·exact .inl hp
  ·refine .inr ⟨aB _ hp,fun he=>?_⟩
   have:=(List.nodup_cons.1 (show((_:Nat)::_).Nodup from hn)).1
   exact this (List.mem_map.2 ⟨p,hp,he⟩)
 |there h ih=>
  intro p hp;have hn':=List.nodup_cons.1 (show((_:Nat)::_).Nodup from hn)
  rcases List.mem_cons.1 hp with hp|hp
  ·subst hp
   refine .inr ⟨aE,fun he=>?_⟩;exact hn'.1 (List.mem_map.2 ⟨_,h.mem,he.symm⟩)
  ·rcases ih hn'.2 p hp with hp|⟨h1,h2⟩
   ·exact .inl hp
   ·exact .inr ⟨aB _ h1,h2⟩
def zbt(w:World)(a:Addr)(vs:List Value):Prop:=∀(j:Nat) (v:Value),vs[j]?=some v→w.cell? (a.add j)=some v
theorem add_plain(g o j:Nat):(⟨g,o,none⟩:Addr).add j=⟨g,o+j,none⟩:=Addr.add_lit g o j
theorem zc6(a:Addr)(m n:Nat):(a.add m).add n=a.add (m+n):=by
 unfold Addr.add;by_cases hm:m=0
 ·subst hm;simp
 ·by_cases hn:n=0
  ·subst hn;simp[hm]
  ·simp[hm,hn,cH]
theorem zbt.drop{w:World}{a:Addr}{vs:List Value}(h:zbt w a vs)(n:Nat):zbt w (a.add n) (vs.drop n):=by
 intro j v hj;rw[List.getElem?_drop] at hj;rw[zc6];exact h _ v hj
theorem zbt.take{w:World}{a:Addr}{vs:List Value}(h:zbt w a vs)(n:Nat):zbt w a (vs.take n):=by
 intro j v hj;rw[List.getElem?_take] at hj;split at hj
 ·exact h j v hj
 ·cases hj
theorem RepL.drop{w:World}{o:Nat→Prop}:∀{l:List A} {vs:List Value} (n:Nat),RepL w o l vs→RepL w o (l.drop n) (vs.drop n)
 |_,_,0,h=>h
 |_,_,n+1,.nil=>.nil
 |_,_,n+1,.cons _ t=>t.drop n
theorem RepL.take{w:World}{o:Nat→Prop}:∀{l:List A} {vs:List Value} (n:Nat),RepL w o l vs→RepL w o (l.take n) (vs.take n)
 |_,_,0,_=>.nil
 |_,_,n+1,.nil=>.nil
 |_,_,n+1,.cons h t=>.cons h (t.take n)
theorem Rep.dp_of{w:World}{o:Nat→Prop}{cells:List A}{vs:List Value}{a:Addr}(hr:RepL w o cells vs)(hc:zbt w a vs)(ho:¬o a.block):Rep w o (.dp cells) (.pointer (some a)):=
 .dp cells a (fun j=>vs.getD j undef) (fun j hj=>by
  have hlt:j<vs.length:=by rw[hr.length];exact hj
  refine⟨ho,?_⟩;rw[hc j vs[j] (by simp[List.getElem?_eq_getElem hlt])];simp[List.getD_eq_getElem?_getD,List.getElem?_eq_getElem hlt]) (fun j hj=>by
  obtain⟨v,hv,h⟩:=hr.get j cells[j] (by simp[List.getElem?_eq_getElem hj]);simp[List.getD_eq_getElem?_getD,hv];exact h)
theorem Rep.dp_inv{w:World}{o:Nat→Prop}{cells:List A}{v:Value}(h:Rep w o (.dp cells) v):∃a vs,v=.pointer (some a)∧RepL w o cells vs∧zbt w a vs∧(cells≠[]→¬o a.block):=by
 cases h with
 |dp _ a vs hc h=>
  refine⟨a,(List.range cells.length).map vs,I,RepL.of_get _ _ (by simp) fun i x hx=>?_,fun j v hj=>?_,fun hne=>?_⟩
  ·have hi:=(List.getElem?_eq_some_iff.1 hx).1
   have hxx:=(List.getElem?_eq_some_iff.1 hx).2;exact⟨vs i,by simp[hi],hxx▸h i hi⟩
  ·by_cases hj':j<cells.length
   ·simp[hj'] at hj;subst hj;exact(hc j hj').2
   ·simp[hj'] at hj
  ·exact(hc 0 (List.length_pos_iff.2 hne)).1
theorem Rep.ds_inv{w:World}{o:Nat→Prop}{elems:List (List A)}{v:Value}(h:Rep w o (.ds elems) v):(elems=[]∧v=.slice none 0 0)∨∃a cap sz,v=.slice (some a) elems.length cap∧elems.length≤cap∧cap≤maxLen∧
  ∀i e,elems[i]?=some e→e.length=sz∧∃vs,RepL w o e vs∧zbt w (a.add (i*sz)) vs∧(e≠[]→¬o a.block):=by
 cases h with
 |ds0=>exact .inl ⟨rfl,rfl⟩
 |ds _ a cap sz vs hcap hmax hsz hc h=>
  refine .inr ⟨a,cap,sz,I,hcap,hmax,fun i e he=>?_⟩;obtain⟨hi,rfl⟩:=List.getElem?_eq_some_iff.1 he;have hs:=hsz i hi;refine⟨hs,(List.range elems[i].length).map (vs i),RepL.of_get _ _ (by simp) fun j x hx=>?_,fun j v hj=>?_,fun hne=>?_⟩
  ·obtain⟨hj,rfl⟩:=List.getElem?_eq_some_iff.1 hx
   exact⟨vs i j,by simp[hj],h i hi j hj⟩
  ·by_cases hj':j<elems[i].length
   ·simp[hj'] at hj;subst hj;rw[zc6];exact(hc i j hi (by omega)).2
   ·simp[hj'] at hj
  ·exact(hc i 0 hi (by have:=List.length_pos_iff.2 hne;omega)).1
theorem Rep.ds_of{w:World}{o:Nat→Prop}{elems:List (List A)}{a:Addr}{cap sz:Nat}(hcap:elems.length≤cap)(hmax:cap≤maxLen)
  (h:∀i e,elems[i]?=some e→e.length=sz∧∃vs,RepL w o e vs∧zbt w (a.add (i*sz)) vs∧(e≠[]→¬o a.block)):Rep w o (.ds elems) (.slice (some a) elems.length cap):=by
 refine .ds elems a cap sz (fun i j=>(w.cell? (a.add (i*sz+j))).getD undef) hcap hmax (fun i hi=>(h i elems[i] (by simp[List.getElem?_eq_getElem hi])).1) (fun i j hi hj=>?_) (fun i hi j hj=>?_)
 ·obtain⟨h1,vs,h2,h3,h4⟩:=h i elems[i] (by simp[List.getElem?_eq_getElem hi])
  have hj':j<vs.length:=by rw[h2.length,h1];exact hj
  have hc:=h3 j vs[j] (by simp[List.getElem?_eq_getElem hj']);rw[zc6] at hc;refine⟨h4 (fun hn=>?_),by rw[hc];rfl⟩
  rw[hn] at h1;simp at h1;omega
 ·obtain⟨h1,vs,h2,h3,h4⟩:=h i elems[i] (by simp[List.getElem?_eq_getElem hi])
  obtain⟨v,hv,hr⟩:=h2.get j elems[i][j] (by simp[List.getElem?_eq_getElem hj]);have hc:=h3 j v hv;rw[zc6] at hc
  show Rep w o elems[i][j] ((w.cell? (a.add (i*sz+j))).getD undef)
  rw[hc];exact hr
def zan:List A→Bool
 |[]=>true
 |a::l=>match a.leaf with|true=>zan l|false=>false
theorem zay:∀{l:List A},zan l=true↔∀a∈l,a.leaf=true
 |[]=>by simp[zan]
 |a::l=>by
  simp only[zan];cases ha:a.leaf
  ·simp[ha]
  ·simp[ha,zay (l:=l)]
theorem Sim.elem{fr:Nat→Prop}{H:Heap}{w:World}(s:Sim fr H w){r Te sz i:Nat}{elems:List (List A)}{e:List A}(hm:(r,Blk.row Te sz elems)∈H)(he:elems[i]?=some e):
  ∃vs,RepL w (own fr H) e vs∧zbt w ⟨r,i*sz,none⟩ vs∧zan e=true∧e.length=sz:=by
 obtain⟨c,h1,h2,h3,h4⟩:=s.ok _ hm;obtain⟨hi,rfl⟩:=List.getElem?_eq_some_iff.1 he;refine⟨(List.range elems[i].length).map fun j=>(c[i*sz+j]?).getD undef,RepL.of_get _ _ (by simp) fun j x hx=>?_,fun j v hj=>?_,zay.2 fun a ha=>?_,h3 i hi⟩
 ·have hj:=(List.getElem?_eq_some_iff.1 hx).1
  have hxx:=(List.getElem?_eq_some_iff.1 hx).2;obtain⟨v,hv,hr,_⟩:=h4 i hi j hj;exact⟨v,by simp[hj,hv],hxx▸hr⟩
 ·by_cases hj':j<elems[i].length
  ·obtain⟨u,hu,_,_⟩:=h4 i hi j hj'
   simp[hj',hu] at hj
   subst hj;rw[add_plain,cell_of_row w r _ c Te (0,0) h1];exact hu
  ·simp[hj'] at hj
 ·obtain⟨j,hj,rfl⟩:=List.mem_iff_getElem.1 ha
  exact(h4 i hi j hj).choose_spec.2.2
def zbw(i:TI)(cells:List A)(o:Nat):Option A:=
 match i.td.isAgg with
 |true=>match Nat.ble (o+i.size) cells.length with
  |true=>some (.agg ((cells.drop o).take i.size))
  |false=>none
 |false=>cells[o]?
theorem zhs{P:Program}{t:Nat}{i:TI}(h:TIOk P t i)(w:World):(isAgg t).run P w=.ok i.td.isAgg w:=by
 obtain⟨d,h1,h2⟩:=h.und;unfold isAgg;simp only[Sem.run_bind,run_underlying h1,Result.andThen_ok];rw[←h2];cases d<;>rfl
theorem zaR{P:Program}{t:Nat}{i:TI}(h:TIOk P t i)(w:World):(sizeOf t).run P w=.ok i.size w:=by
 obtain⟨n,z,h1,h2,_⟩:=h.info;simp[sizeOf,typeInfo,h1,h2]
theorem zdv{P:Program}{t:Nat}{i:TI}(h:TIOk P t i)(w:World):∃z,(zeroValue t).run P w=.ok z w∧z.cells.size=i.size∧(∀w o,RepL w o i.zero z.cells.toList)∧(∀w o,Rep w o (if i.td.isAgg then .agg i.zero else i.zero.headD default) z):=by
 obtain⟨n,z,h1,h2,h3,h4,h5,h6,h7⟩:=h.info;exact⟨z,by simp[zeroValue,typeInfo,h1,h4],h5,h6,h7⟩
theorem zbK{P:Program}{t:Nat}{i:TI}(h:TIOk P t i){w:World}{own:Nat→Prop}{cells:List A}{vs:List Value}{a:Addr}{o:Nat}{v:A}(hr:RepL w own cells vs)
  (hc:zbt w (a.add o) (vs.drop o)) (hl:zbw i cells o=some v):∃z,(loadVar t (a.add o)).run P w=.ok z w∧Rep w own v z:=by
 unfold zbw at hl;unfold loadVar;simp only[Sem.run_bind,zhs h,Result.andThen_ok];split at hl
 ·rename_i hag
  rw[af hag];split at hl
  ·rename_i hb
   have hb:=bi hb;cases hl;have hlen:((vs.drop o).take i.size).length=i.size:=by
    have:=hr.length;simp only[be,ba];omega
   have h1:=run_loadCells_list (P:=P) w (a.add o) ((vs.drop o).take i.size) (hc.take i.size);rw[hlen] at h1;refine⟨_,by simp only[Sem.run_bind,zaR h,Result.andThen_ok,h1,Sem.run_pure],Rep.agg_of ((hr.drop o).take i.size)⟩
  ·cases hl
 ·rename_i hag
  rw[ac (by simp[hag])];obtain⟨u,hu,hru⟩:=hr.get o v hl;have h1:=hc 0 u (by rw[List.getElem?_drop];simpa using hu);rw[zc6] at h1;exact⟨u,by simp only[run_load];rw[show a.add o=a.add (o+0) from rfl,h1],hru⟩
section
variable{P:Program}{N:NN}{Q:Exit→Env→Heap→Prop}{T:Env}{H:Heap}{ops rest:List Oper}{dst:Option Nat}{ty:TypeId}{pos:String}{after:Array Edge}{guard:Option (Nat×Bool)}{L:Lay}
theorem AOp.load{t:TypeId}{x:Operand}{r Te sz i o:Nat}{elems:List (List A)}{e:List A}{ti:TI}{v:A}(hL:zaq P L)(hx:ev T x=some (.ptr r sz i o))(hm:(r,Blk.row Te sz elems)∈H)(he:elems[i]?=some e)
  (ht:lay L t=some ti) (hv:zbw ti e o=some v) (hd:zah N dst=true) (k:AOps P N ops rest Q (put dst v T) H):
  AOp P N ops ⟨dst,.load t x,ty,pos,after,guard⟩ rest Q T H:=
 AOp.pure (fun _ w act s st=>by
  have hu:=zag st hx
  generalize h1:act.eval x=u at hu
  cases hu;obtain⟨vs,h2,h3,_,_⟩:=s.elem hm he;obtain⟨z,hz,hr⟩:=zbK (hL _ _ ht) h2 (h3.drop o) hv;rw[add_plain] at hz;exact⟨z,by simp only[execOp,h1,Instr.loadAt,Instr.sureAddr,Sem.run_bind,Sem.run_pure,Result.andThen_ok,hz],hr⟩) hd k
theorem AOp.loadD{t:TypeId}{x:Operand}{cells:List A}{ti:TI}{v:A}(hL:zaq P L)(hx:ev T x=some (.dp cells))(ht:lay L t=some ti)(hv:zbw ti cells 0=some v)(hd:zah N dst=true)
  (k:AOps P N ops rest Q (put dst v T) H):AOp P N ops ⟨dst,.load t x,ty,pos,after,guard⟩ rest Q T H:=
 AOp.pure (fun _ w act s st=>by
  obtain⟨a,vs,h1,h2,h3,_⟩:=(zag st hx).dp_inv;obtain⟨z,hz,hr⟩:=zbK (a:=a) (o:=0) (hL _ _ ht) h2 (h3.drop 0) hv;rw[Addr.add_zero'] at hz;exact⟨z,by simp only[execOp,h1,Instr.loadAt,Instr.sureAddr,Sem.run_bind,Sem.run_pure,Result.andThen_ok,hz],hr⟩) hd k
theorem za3(w:World)(o:Obj)(i:Nat)(h:i<w.heap.size):(w.alloc o).heap[i]?=w.heap[i]?:=by
 show(w.heap.push o)[i]?=_
 rw[Array.getElem?_push,ac (by omega)]
theorem zba{fr:Nat→Prop}{H:Heap}{w:World}(s:Sim fr H w):w.heap.size∉keys H∧¬fr w.heap.size:=
 ⟨fun h=>Nat.lt_irrefl _ (s.lt h),fun h=>Nat.lt_irrefl _ (s.old _ h)⟩
theorem Ext.new(H:Heap)(w:World)(o:Obj)(b:Blk):Ext H w ((w.heap.size,b)::H) (w.alloc o) where
 os:=rfl
 tape:=rfl
 output:=rfl
 size:=by simp
 same k hk _:=za3 w o k hk
 keys k hk:=by
  simp only[Go.Abs.keys,aU,bx] at hk;rcases hk with rfl|hk
  ·exact .inr (au _)
  ·exact .inl hk
 shape k hk c T f h:=by rw[za3 w o k hk] at h;exact⟨c,f,h,I⟩
theorem Sim.new{fr:Nat→Prop}{H:Heap}{w:World}(s:Sim fr H w){o:Obj}{b:Blk}(hb:zdK (w.alloc o) (own fr ((w.heap.size,b)::H)) w.heap.size b):Sim fr ((w.heap.size,b)::H) (w.alloc o) where
 nodup:=List.nodup_cons.2 ⟨(zba s).1,s.nodup⟩
 apart r hr:=by
  simp only[keys,aU,bx] at hr;rcases hr with rfl|hr
  ·exact(zba s).2
  ·exact s.apart r hr
 old k h:=by have:=s.old k h;simp;omega
 ok p hp:=by
  rcases List.mem_cons.1 hp with rfl|hp
  ·exact hb
  ·have h:=s.ok p hp
   exact h.mono (Ext.new H w o b).stays (za3 w o _ h.lt)
theorem zhH{w:World}{o:Nat→Prop}{r Te:Nat}{cells:List A}{vs:List Value}(hg:w.heap[r]?=some (.cells vs.toArray Te (0,0)))(hr:RepL w o cells vs)(hl:zan cells=true):
  zdK w o r (.row Te cells.length [cells]):=by
 refine⟨vs.toArray,hg,by simp[hr.length],fun i hi=>?_,fun i hi j hj=>?_⟩
 ·obtain rfl:i=0:=by simp at hi;omega
  rfl
 ·obtain rfl:i=0:=by simp at hi;omega
  simp only[bQ] at hj ⊢;obtain⟨v,hv,h⟩:=hr.get j cells[j] (by simp[List.getElem?_eq_getElem hj]);exact⟨v,by simpa using hv,h,zay.1 hl _ (bz hj)⟩
theorem AOp.box{t:TypeId}{x:Operand}{v:A}{cells:List A}(hx:ev T x=some v)(hc:v.cells=cells)(hv:v.leaf=true∨∃l,v=.agg l)(hl:zan cells=true)(hd:zah N dst=true)
  (k:∀r,r∉keys H→AOps P N ops rest Q (put dst (.ptr r cells.length 0 0) T) ((r,.row t cells.length [cells])::H)):
  AOp P N ops ⟨dst,.box t x,ty,pos,after,guard⟩ rest Q T H:=by
 subst hc;refine AOp.sem (R:=fun v' H'=>∃r,r∉keys H∧v'=.ptr r v.cells.length 0 0∧H'=(r,.row t v.cells.length [v.cells])::H) (fun fr w act s st=>?_) hd ?_
 ·have hr:=(zag st hx).cells hv
  refine⟨w.alloc (.cells (act.eval x).cells t),_,.pointer (some ⟨w.heap.size,0,none⟩),_,.inl ?_,⟨w.heap.size,(zba s).1,I,I⟩,s.new ?_,?_,Ext.new H w _ _⟩
  ·simp only[execOp,Instr.box,newVar,newRow,Sem.run_bind,run_newObj,Result.andThen_ok,Sem.run_pure];rfl
  ·have hr':=hr.mono (Ext.new H w (.cells (act.eval x).cells t) (.row t v.cells.length [v.cells])).stays
   exact zhH (by rw[heap_alloc_new]) hr' hl
  ·have:=Rep.ptr (w:=w.alloc (.cells (act.eval x).cells t)) (own:=own fr ((w.heap.size,.row t v.cells.length [v.cells])::H)) w.heap.size v.cells.length 0 0
   simpa using this
 ·rintro v' H' ⟨r,h1,rfl,rfl⟩
  exact k r h1
theorem AOp.alloc{t:TypeId}{ti:TI}(hL:zaq P L)(ht:lay L t=some ti)(hl:zan ti.zero=true)(hd:zah N dst=true)
  (k:∀r,r∉keys H→AOps P N ops rest Q (put dst (.ptr r ti.zero.length 0 0) T) ((r,.row t ti.zero.length [ti.zero])::H)):
  AOp P N ops ⟨dst,.alloc t,ty,pos,after,guard⟩ rest Q T H:=by
 refine AOp.sem (R:=fun v' H'=>∃r,r∉keys H∧v'=.ptr r ti.zero.length 0 0∧H'=(r,.row t ti.zero.length [ti.zero])::H) (fun fr w act s st=>?_) hd ?_
 ·obtain⟨z,hz,_,hr,_⟩:=zdv (hL _ _ ht) w
  refine⟨w.alloc (.cells z.cells t),_,.pointer (some ⟨w.heap.size,0,none⟩),_,.inl ?_,⟨w.heap.size,(zba s).1,I,I⟩,s.new ?_,?_,Ext.new H w _ _⟩
  ·simp only[execOp,Instr.alloc,hz,newVar,newRow,Sem.run_bind,run_newObj,Result.andThen_ok,Sem.run_pure];rfl
  ·exact zhH (by rw[heap_alloc_new]) (hr _ _) hl
  ·have:=Rep.ptr (w:=w.alloc (.cells z.cells t)) (own:=own fr ((w.heap.size,.row t ti.zero.length [ti.zero])::H)) w.heap.size ti.zero.length 0 0
   simpa using this
 ·rintro v' H' ⟨r,h1,rfl,rfl⟩
  exact k r h1
theorem Ext.write{H H':Heap}{r Te:Nat}{b b':Blk}{w:World}{c c':Array Value}(hat:At H r b b' H')(hg:w.heap[r]?=some (.cells c Te (0,0)))(hs:c'.size=c.size):Ext H w H' (w.setRow r c') where
 os:=rfl
 tape:=rfl
 output:=rfl
 size:=by simp
 same k hk hn:=setRow_other w r k c' (fun h=>hn (h▸List.mem_map.2 ⟨_,hat.mem,I⟩))
 keys k hk:=by rw[hat.keys] at hk;exact .inl hk
 shape k hk d T f h:=by
  by_cases hkr:k=r
  ·subst hkr
   rw[setRow_heap w k c c' Te (0,0) hg] at h;cases h;exact⟨c,(0,0),hg,hs.symm⟩
  ·rw[setRow_other w r k c' hkr] at h;exact⟨d,f,h,I⟩
theorem Sim.write{fr:Nat→Prop}{H H':Heap}{r Te:Nat}{b b':Blk}{w:World}{c c':Array Value}(s:Sim fr H w)(hat:At H r b b' H')(hg:w.heap[r]?=some (.cells c Te (0,0)))(hs:c'.size=c.size)
  (hb:zdK (w.setRow r c') (own fr H') r b'):Sim fr H' (w.setRow r c') where
 nodup:=by rw[hat.keys];exact s.nodup
 apart k hk:=s.apart k (by rw[←hat.keys];exact hk)
 old k h:=by have:=s.old k h;simpa using this
 ok p hp:=by
  rcases hat.cases' s.nodup p hp with rfl|⟨h1,h2⟩
  ·exact hb
  ·exact(s.ok p h1).mono (Ext.write hat hg hs).stays (setRow_other w r _ c' h2)
def zcf(l:List A)(o:Nat)(xs:List A):Option (List A):=
 match Nat.ble (o+xs.length) l.length with
 |true=>some (l.take o++(xs++l.drop (o+xs.length)))
 |false=>none
theorem zlQ{t:TypeId}{x y:Operand}{r Te sz i o:Nat}{elems:List (List A)}{e e':List A}{ti:TI}{v:A}{cells:List A}{H':Heap}(hL:TIOk P t ti)(hx:ev T x=some (.ptr r sz i o))(hy:ev T y=some v)(hc:v.cells=cells)
  (hv:v.leaf=true∨∃l,v=.agg l) (hl:zan cells=true) (hsz:cells.length=ti.size) (hat:At H r (.row Te sz elems) (.row Te sz (elems.set i e')) H') (he:elems[i]?=some e)
  (hsp:zcf e o cells=some e'):zky P N ⟨dst,.store t x y,ty,pos,after,guard⟩ T H fun v' K=>v'=.tup []∧K=H':=by
 subst hc;intro fr w act s st
 ·have hu:=zag st hx
  generalize h1:act.eval x=u at hu
  cases hu;have hr:=(zag st hy).cells hv;obtain⟨c,hg,h2,h3,h4⟩:=s.ok _ hat.mem;obtain⟨hi,rfl⟩:=List.getElem?_eq_some_iff.1 he;unfold zcf at hsp;split at hsp
  case h_2=>cases hsp
  rename_i hb;have hb:=bi hb;cases hsp;have hlen:=h3 i hi;have hvl:=hr.length;have hin:i*sz+sz≤elems.length*sz:=by
   calc i*sz+sz=(i+1)*sz:=by rw[b9,Nat.one_mul]
    _≤elems.length*sz:=bJ _ hi
  have hfit:i*sz+o+0+(act.eval y).cells.toList.length≤c.size:=by omega
  have hone:∀u∈(act.eval y).cells.toList,u.oneCell'=true:=by
   intro u hu;obtain⟨j,hj,rfl⟩:=List.mem_iff_getElem.1 hu;have hj':j<v.cells.length:=by omega
   obtain⟨u',hu',hru⟩:=hr.get j v.cells[j] (by simp[List.getElem?_eq_getElem hj']);rw[List.getElem?_eq_getElem hj] at hu';cases hu';exact hru.one (zay.1 hl _ (bz hj'))
  have hst:=run_storeCells_at P r (i*sz+o) Te (act.eval y).cells.toList 0 c w hg hfit hone;simp only[bG] at hst;have hs:((c.toList.take (i*sz+o)++(act.eval y).cells.toList++c.toList.drop (i*sz+o+(act.eval y).cells.toList.length)).toArray).size=c.size:=by
   simp only[bR,aT,be,ba,cQ];have:(act.eval y).cells.toList.length=(act.eval y).cells.size:=by simp
   omega
  have hext:=Ext.write (c':=(c.toList.take (i*sz+o)++(act.eval y).cells.toList++c.toList.drop (i*sz+o+(act.eval y).cells.toList.length)).toArray) hat hg hs;refine⟨_,.tup [],undef,H',.inr ⟨?_,I⟩,⟨I,I⟩,s.write hat hg hs ?_,Rep.tup_of .nil,hext⟩
  ·simp only[execOp,h1,Instr.storeAt,Instr.sureAddr,storeVar,Sem.run_bind,Sem.run_pure,Result.andThen_ok,zaR hL]
   rw[ac (by have:(act.eval y).cells.size=(act.eval y).cells.toList.length:=(by simp);simp;omega)];simp only[Sem.run_pure,Result.andThen_ok,hst]
  ·refine⟨_,setRow_heap w r c _ Te (0,0) hg,?_,fun i' hi'=>?_,fun i' hi' j hj=>?_⟩
   ·rw[hs,dl];exact h2
   ·rw[dl] at hi'
    rw[List.getElem_set];split
    ·simp only[aT,be,ba];omega
    ·exact h3 i' hi'
   ·have hst':=hext.stays (fr:=fr)
    rw[dl] at hi';have hlen':=h3 i' hi';by_cases hii:i=i'
    ·subst hii
     simp only[List.getElem_set_self] at hj ⊢;have hjs:j<sz:=by simp only[aT,be,ba] at hj;omega
     have hcj:∀(j':Nat),j'<sz→∃u,c[i*sz+j']?=some u∧∀(hh:j'<elems[i].length),Rep w (own fr H) elems[i][j'] u∧elems[i][j'].leaf=true:=by
      intro j' hj';obtain⟨u,hu,h5,h6⟩:=h4 i hi j' (by omega);exact⟨u,hu,fun _=>⟨h5,h6⟩⟩
     simp only[List.getElem?_toArray];by_cases hjo:j<o
     ·obtain⟨u,hu,h5⟩:=hcj j hjs
      obtain⟨h5,h6⟩:=h5 (by omega);refine⟨u,?_,?_,?_⟩
      ·rw[aI,List.getElem?_append_left (by simp;have:=(Array.getElem?_eq_some_iff.1 hu).1;omega),List.getElem?_take,af (by omega)]
       simpa using hu
      ·rw[cO (by simp;omega),dG];exact h5.mono hst'
      ·rw[cO (by simp;omega),dG];exact h6
     ·by_cases hjv:j<o+v.cells.length
      ·have hjv':j - o<v.cells.length:=by omega
       obtain⟨u,hu,hru⟩:=hr.get (j - o) v.cells[j - o] (by simp[List.getElem?_eq_getElem hjv']);have hidx:((elems[i].take o)++(v.cells++elems[i].drop (o+v.cells.length)))[j]=v.cells[j - o]:=by
        rw[dx (by simp;omega)];simp only[be];rw[cO (by omega)];congr 1;omega
       refine⟨u,?_,?_,?_⟩
       ·have e1:(c.toList.take (i*sz+o)).length=i*sz+o:=by simp;omega
        rw[aI,List.getElem?_append_right (by omega),e1,List.getElem?_append_left (by omega)];rw[show i*sz+j - (i*sz+o)=j - o by omega];exact hu
       ·rw[hidx];exact hru.mono hst'
       ·rw[hidx];exact zay.1 hl _ (bz hjv')
      ·obtain⟨u,hu,h5⟩:=hcj j hjs
       obtain⟨h5,h6⟩:=h5 (by omega);have hidx:((elems[i].take o)++(v.cells++elems[i].drop (o+v.cells.length)))[j]=elems[i][j]'(by omega):=by
        rw[dx (by simp;omega)];simp only[be];rw[dx (by omega),dH];congr 1;omega
       refine⟨u,?_,?_,?_⟩
       ·have e1:(c.toList.take (i*sz+o)).length=i*sz+o:=by simp;omega
        rw[aI,List.getElem?_append_right (by omega),e1,List.getElem?_append_right (by omega),List.getElem?_drop];rw[show i*sz+o+(act.eval y).cells.toList.length+(i*sz+j - (i*sz+o) - (act.eval y).cells.toList.length)=i*sz+j by omega]
        simpa using hu
       ·rw[hidx];exact h5.mono hst'
       ·rw[hidx];exact h6
    ·simp only[dD hii] at hj ⊢
     obtain⟨u,hu,h5,h6⟩:=h4 i' hi' j hj;refine⟨u,?_,h5.mono hst',h6⟩;have hjs:j<sz:=by omega
     simp only[List.getElem?_toArray];by_cases hlt:i'<i
     ·have:i'*sz+sz≤i*sz:=by
       calc i'*sz+sz=(i'+1)*sz:=by rw[b9,Nat.one_mul]
        _≤i*sz:=bJ _ hlt
      rw[aI,List.getElem?_append_left (by simp;have:=(Array.getElem?_eq_some_iff.1 hu).1;omega),List.getElem?_take,af (by omega)];simpa using hu
     ·have:i*sz+sz≤i'*sz:=by
       calc i*sz+sz=(i+1)*sz:=by rw[b9,Nat.one_mul]
        _≤i'*sz:=bJ _ (by omega)
      have e1:(c.toList.take (i*sz+o)).length=i*sz+o:=by simp;omega
      rw[aI,List.getElem?_append_right (by omega),e1,List.getElem?_append_right (by omega),List.getElem?_drop];rw[show i*sz+o+(act.eval y).cells.toList.length+(i'*sz+j - (i*sz+o) - (act.eval y).cells.toList.length)=i'*sz+j by omega]
      simpa using hu
theorem AOp.store{t:TypeId}{x y:Operand}{r Te sz i o:Nat}{elems:List (List A)}{e e':List A}{ti:TI}{v:A}{cells:List A}{H':Heap}(hL:zaq P L)(hx:ev T x=some (.ptr r sz i o))(hy:ev T y=some v)(hc:v.cells=cells)
  (hv:v.leaf=true∨∃l,v=.agg l) (hl:zan cells=true) (ht:lay L t=some ti) (hsz:cells.length=ti.size) (hat:At H r (.row Te sz elems) (.row Te sz (elems.set i e')) H') (he:elems[i]?=some e)
  (hsp:zcf e o cells=some e') (hd:zah N dst=true) (k:AOps P N ops rest Q (put dst (.tup []) T) H'):
  AOp P N ops ⟨dst,.store t x y,ty,pos,after,guard⟩ rest Q T H:=by
 refine AOp.sem (zlQ (hL _ _ ht) hx hy hc hv hl hsz hat he hsp) hd ?_
 ·rintro v' K ⟨rfl,rfl⟩
  exact k
end
section
variable{P:Program}{N:NN}{Q:Exit→Env→Heap→Prop}{T:Env}{H:Heap}{ops rest:List Oper}{dst:Option Nat}{ty:TypeId}{pos:String}{after:Array Edge}{guard:Option (Nat×Bool)}{L:Lay}
theorem zdo{t:Nat}{i:TI}(h:TIOk P t i){fs:List (Nat×Nat)}(e:i.td=.struct fs):∃g:Array Field,P.underlying t=some (.struct g)∧g.toList.map (fun f=>(f.offset,f.type))=fs:=by
 obtain⟨d,h1,h2⟩:=h.und;rw[e] at h2;cases d<;>simp[tdOf] at h2
 exact⟨_,h1,h2⟩
theorem zaW{t:Nat}{i:TI}(h:TIOk P t i){e:Nat}(he:i.td=.slice e):P.underlying t=some (.slice e):=by
 obtain⟨d,h1,h2⟩:=h.und;rw[he] at h2;cases d<;>simp[tdOf] at h2
 subst h2;exact h1
theorem ze8{t:Nat}{i:TI}(h:TIOk P t i){n e:Nat}(he:i.td=.array n e):P.underlying t=some (.array n e):=by
 obtain⟨d,h1,h2⟩:=h.und;rw[he] at h2;cases d<;>simp[tdOf] at h2
 obtain⟨rfl,rfl⟩:=h2;exact h1
theorem zbf{t:Nat}{i:TI}(h:TIOk P t i)(he:i.td=.string):P.underlying t=some .string:=by
 obtain⟨d,h1,h2⟩:=h.und;rw[he] at h2;cases d<;>simp[tdOf] at h2
 exact h1
theorem zfV{t:Nat}{i:TI}(h:TIOk P t i){k:IntKind}(he:i.td=.int k):P.underlying t=some (.int k):=by
 obtain⟨d,h1,h2⟩:=h.und;rw[he] at h2;cases d<;>simp[tdOf] at h2
 subst h2;exact h1
theorem zjL{t:Nat}{i:TI}(h:TIOk P t i){k e:Nat}(he:i.td=.map k e):P.underlying t=some (.map k e):=by
 obtain⟨d,h1,h2⟩:=h.und;rw[he] at h2;cases d<;>simp[tdOf] at h2
 obtain⟨rfl,rfl⟩:=h2;exact h1
theorem zfH{t f off ft:Nat}{i fi:TI}{fs:List (Nat×Nat)}(hi:TIOk P t i)(hfi:TIOk P ft fi)(e:i.td=.struct fs)(hf:fs[f]?=some (off,ft))(hz:fi.size≠0)(a:Addr)(w:World):
  (Instr.fieldAt t (.pointer (some a)) f).run P w=.ok (.pointer (some (a.add off))) w:=by
 obtain⟨g,h1,rfl⟩:=zdo hi e;rw[List.getElem?_map] at hf;cases hg:g.toList[f]? with
 |none=>rw[hg] at hf;cases hf
 |some fd=>
  rw[hg] at hf;simp only[bh,aY,b5] at hf;obtain⟨rfl,rfl⟩:=hf;rw[Array.getElem?_toList] at hg;simp only[Instr.fieldAt,Sem.run_bind,run_underlying h1,Result.andThen_ok,hg,Instr.sureAddr,Sem.run_pure,fieldPlace,zaR hfi,ac hz]
theorem AOp.fieldAddr{t f off ft:Nat}{x:Operand}{r sz i o:Nat}{ti fi:TI}{fs:List (Nat×Nat)}(hL:zaq P L)(hx:ev T x=some (.ptr r sz i o))(ht:lay L t=some ti)(e:ti.td=.struct fs)(hf:fs[f]?=some (off,ft))
  (hfi:lay L ft=some fi) (hz:Nat.beq fi.size 0=false) (hd:zah N dst=true) (k:AOps P N ops rest Q (put dst (.ptr r sz i (o+off)) T) H):
  AOp P N ops ⟨dst,.fieldAddr t x f,ty,pos,after,guard⟩ rest Q T H:=
 AOp.pure (fun _ w act s st=>by
  have hu:=zag st hx
  generalize h1:act.eval x=u at hu
  cases hu;have hz':fi.size≠0:=fun h=>by rw[h] at hz;cases hz
  have:=zfH (hL _ _ ht) (hL _ _ hfi) e hf hz' ⟨r,i*sz+o,none⟩ w;refine⟨_,by simp only[execOp,h1,Sem.run_bind,this,Result.andThen_ok,Sem.run_pure];rfl,?_⟩
  rw[add_plain,cH];exact .ptr _ _ _ _) hd k
theorem AOp.fieldAddrD{t f off ft:Nat}{x:Operand}{cells:List A}{ti fi:TI}{fs:List (Nat×Nat)}(hL:zaq P L)(hx:ev T x=some (.dp cells))(ht:lay L t=some ti)(e:ti.td=.struct fs)(hf:fs[f]?=some (off,ft))
  (hfi:lay L ft=some fi) (hz:Nat.beq fi.size 0=false) (hd:zah N dst=true) (k:AOps P N ops rest Q (put dst (.dp (cells.drop off)) T) H):
  AOp P N ops ⟨dst,.fieldAddr t x f,ty,pos,after,guard⟩ rest Q T H:=
 AOp.pure (fun _ w act s st=>by
  obtain⟨a,vs,h1,h2,h3,h4⟩:=(zag st hx).dp_inv;have hz':fi.size≠0:=fun h=>by rw[h] at hz;cases hz
  have:=zfH (hL _ _ ht) (hL _ _ hfi) e hf hz' a w;refine⟨_,by simp only[execOp,h1,Sem.run_bind,this,Result.andThen_ok,Sem.run_pure];rfl,?_⟩
  by_cases hc:cells=[]
  ·subst hc
   exact .dp _ _ (fun _=>undef) (fun j hj=>by simp at hj) (fun j hj=>by simp at hj)
  ·exact Rep.dp_of (h2.drop off) (h3.drop off) (by rw[zbU];exact h4 hc)) hd k
theorem zdz{t:Nat}{i:TI}(h:TIOk P t i){w:World}{own:Nat→Prop}{cells:List A}{cs:Array Value}{o:Nat}{v:A}(hr:RepL w own cells cs.toList)(hl:zbw i cells o=some v):
  ∃z,(part t cs o).run P w=.ok z w∧Rep w own v z:=by
 unfold zbw at hl;unfold part;simp only[Sem.run_bind,zhs h,Result.andThen_ok];split at hl
 ·rename_i hag
  rw[af hag];split at hl
  ·cases hl
   refine⟨_,by simp only[Sem.run_bind,zaR h,Result.andThen_ok,Sem.run_pure];rfl,?_⟩
   have:=Rep.agg_of ((hr.drop o).take i.size);have e:(List.take i.size (List.drop o cs.toList)).toArray=cs.extract o (o+i.size):=by
    apply Array.ext'
    rw[Array.toList_extract];simp[List.extract,Nat.add_sub_cancel_left]
   rw[e] at this;exact this
  ·cases hl
 ·rename_i hag
  rw[ac (by simp[hag])];obtain⟨u,hu,hru⟩:=hr.get o v hl;rw[Array.getElem?_toList] at hu;exact⟨u,by rw[hu];rfl,hru⟩
theorem AOp.field{t f off ft:Nat}{x:Operand}{cells:List A}{ti fi:TI}{fs:List (Nat×Nat)}{v:A}(hL:zaq P L)(hx:ev T x=some (.agg cells))(ht:lay L t=some ti)(e:ti.td=.struct fs)(hf:fs[f]?=some (off,ft))
  (hfi:lay L ft=some fi) (hv:zbw fi cells off=some v) (hd:zah N dst=true) (k:AOps P N ops rest Q (put dst v T) H):
  AOp P N ops ⟨dst,.field t x f,ty,pos,after,guard⟩ rest Q T H:=
 AOp.pure (fun _ w act s st=>by
  obtain⟨cs,h1,h2⟩:=(zag st hx).agg_inv;obtain⟨g,h3,rfl⟩:=zdo (hL _ _ ht) e;rw[List.getElem?_map] at hf;cases hg:g.toList[f]? with
  |none=>rw[hg] at hf;cases hf
  |some fd=>
   rw[hg] at hf;simp only[bh,aY,b5] at hf;obtain⟨rfl,rfl⟩:=hf;rw[Array.getElem?_toList] at hg;obtain⟨z,hz,hr⟩:=zdz (hL _ _ hfi) h2 hv;exact⟨z,by simp only[execOp,h1,Instr.field,Sem.run_bind,run_underlying h3,Result.andThen_ok,hg,asAgg,Sem.run_pure,hz],hr⟩) hd k
theorem AOp.nilCheckP{x:Operand}{r sz i o:Nat}(hx:ev T x=some (.ptr r sz i o))(hd:zah N dst=true)(k:AOps P N ops rest Q (put dst (.ptr r sz i o) T) H):
  AOp P N ops ⟨dst,.nilCheck x,ty,pos,after,guard⟩ rest Q T H:=
 AOp.pure (fun _ w act s st=>by
  have hu:=zag st hx
  generalize h1:act.eval x=u at hu
  cases hu;exact⟨_,by simp only[execOp,h1,Sem.run_pure],.ptr _ _ _ _⟩) hd k
theorem AOp.nilCheckD{x:Operand}{cells:List A}(hx:ev T x=some (.dp cells))(hd:zah N dst=true)(k:AOps P N ops rest Q (put dst (.dp cells) T) H):
  AOp P N ops ⟨dst,.nilCheck x,ty,pos,after,guard⟩ rest Q T H:=
 AOp.pure (fun _ w act s st=>by
  have hu:=zag st hx;obtain⟨a,vs,h1,_⟩:=hu.dp_inv;rw[h1] at hu;exact⟨_,by simp only[execOp,h1,Sem.run_pure],hu⟩) hd k
theorem zeh{t:Nat}{ti ei:TI}{e:Nat}(ht:TIOk P t ti)(he:ti.td=.slice e)(hei:TIOk P e ei){a:Addr}{len cap:Nat}{k:IntKind}{j:Int}(h0:0≤j)(hj:j<len)(w:World):
  (Instr.indexAt t (.slice (some a) len cap) (.int k j)).run P w=.ok (.pointer (some (a.add (j.toNat*ei.size)))) w:=by
 simp only[Instr.indexAt,asIntOf,Sem.run_bind,Sem.run_pure,Result.andThen_ok,run_underlying (zaW ht he),Sem.run_ite,af (And.intro h0 hj),zaR hei]
theorem AOp.indexAddrD{t e:Nat}{x ix:Operand}{elems:List (List A)}{k:IntKind}{j:Int}{c:List A}{ti ei:TI}(hL:zaq P L)(hx:ev T x=some (.ds elems))(hi:ev T ix=some (.int k j))(ht:lay L t=some ti)(he:ti.td=.slice e)
  (hei:lay L e=some ei) (h0:0≤j) (hc:elems[j.toNat]?=some c) (hsz:c.length=ei.size) (hd:zah N dst=true) (kk:AOps P N ops rest Q (put dst (.dp c) T) H):
  AOp P N ops ⟨dst,.indexAddr t x ix,ty,pos,after,guard⟩ rest Q T H:=
 AOp.pure (fun _ w act s st=>by
  rcases(zag st hx).ds_inv with ⟨rfl,_⟩|⟨a,cap,sz,h1,h2,_,h3⟩
  ·simp at hc
  have hu:=zag st hi
  generalize h4:act.eval ix=u at hu
  cases hu;obtain⟨h5,vs,h6,h7,h8⟩:=h3 _ _ hc;have hlt:=(List.getElem?_eq_some_iff.1 hc).1;have:=zeh (P:=P) (a:=a) (len:=elems.length) (cap:=cap) (k:=k) (hL _ _ ht) he (hL _ _ hei) h0 (by omega) w;refine⟨_,by simp only[execOp,h1,h4,Sem.run_bind,this,Result.andThen_ok,Sem.run_pure];rfl,?_⟩
  rw[←hsz,h5];by_cases hcn:c=[]
  ·subst hcn;exact .dp _ _ (fun _=>undef) (fun j hj=>by simp at hj) (fun j hj=>by simp at hj)
  ·exact Rep.dp_of h6 h7 (by rw[zbU];exact h8 hcn)) hd kk
theorem AOp.indexAddrO{t e:Nat}{x ix:Operand}{r sz off len:Nat}{k:IntKind}{j:Int}{ti ei:TI}(hL:zaq P L)(hx:ev T x=some (.os r sz off len))(hi:ev T ix=some (.int k j))(ht:lay L t=some ti)(he:ti.td=.slice e)
  (hei:lay L e=some ei) (h0:0≤j) (hj:j<len) (hsz:sz=ei.size) (hd:zah N dst=true) (kk:AOps P N ops rest Q (put dst (.ptr r sz (off+j.toNat) 0) T) H):
  AOp P N ops ⟨dst,.indexAddr t x ix,ty,pos,after,guard⟩ rest Q T H:=
 AOp.pure (fun _ w act s st=>by
  have hv:=zag st hx
  generalize h1:act.eval x=v at hv
  cases hv;rename_i cap _ _ _ _;have hu:=zag st hi
  generalize h4:act.eval ix=u at hu
  cases hu;have:=zeh (P:=P) (a:=⟨r,off*sz,none⟩) (len:=len) (cap:=cap) (k:=k) (hL _ _ ht) he (hL _ _ hei) h0 hj w;refine⟨_,by simp only[execOp,h1,h4,Sem.run_bind,this,Result.andThen_ok,Sem.run_pure];rfl,?_⟩
  rw[add_plain,←hsz,←b9];have:=Rep.ptr (w:=w) (own:=own ‹_› H) r sz (off+j.toNat) 0;simpa using this) hd kk
theorem AOp.indexAddrA{t e n:Nat}{x ix:Operand}{r sz i o:Nat}{k:IntKind}{j:Int}{ti ei:TI}(hL:zaq P L)(hx:ev T x=some (.ptr r sz i o))(hi:ev T ix=some (.int k j))(ht:lay L t=some ti)(he:ti.td=.array n e)
  (hei:lay L e=some ei) (h0:0≤j) (hj:j<n) (hd:zah N dst=true) (kk:AOps P N ops rest Q (put dst (.ptr r sz i (o+j.toNat*ei.size)) T) H):
  AOp P N ops ⟨dst,.indexAddr t x ix,ty,pos,after,guard⟩ rest Q T H:=
 AOp.pure (fun _ w act s st=>by
  have hv:=zag st hx
  generalize h1:act.eval x=v at hv
  cases hv;have hu:=zag st hi
  generalize h4:act.eval ix=u at hu
  cases hu;refine⟨.pointer (some ((⟨r,i*sz+o,none⟩:Addr).add (j.toNat*ei.size))),?_,?_⟩
  ·simp only[execOp,h1,h4,Instr.indexAt,asIntOf,Sem.run_bind,Sem.run_pure,Result.andThen_ok,run_underlying (ze8 (hL _ _ ht) he),Instr.sureAddr,Sem.run_ite,af (And.intro h0 hj),zaR (hL _ _ hei)]
  ·rw[add_plain,cH];exact .ptr _ _ _ _) hd kk
theorem AOp.indexS{t:Nat}{x ix:Operand}{s:List UInt8}{k:IntKind}{j:Int}{b:UInt8}{ti:TI}(hL:zaq P L)(hx:ev T x=some (.str s))(hi:ev T ix=some (.int k j))(ht:lay L t=some ti)(he:ti.td=.string)
  (h0:0≤j) (hb:s[j.toNat]?=some b) (hd:zah N dst=true) (kk:AOps P N ops rest Q (put dst (.int .u8 b.toNat) T) H):
  AOp P N ops ⟨dst,.index t x ix,ty,pos,after,guard⟩ rest Q T H:=
 AOp.pure (fun _ w act sm st=>by
  have hv:=zag st hx
  generalize h1:act.eval x=v at hv
  cases hv;have hu:=zag st hi
  generalize h4:act.eval ix=u at hu
  cases hu;have hlt:=(List.getElem?_eq_some_iff.1 hb).1;have hbb:=(List.getElem?_eq_some_iff.1 hb).2;have hg:(⟨s.toArray⟩:ByteArray)[j.toNat]?=some b:=by
   rw[getElem?_pos (⟨s.toArray⟩:ByteArray) j.toNat (by simpa [ByteArray.size] using hlt)];exact ai some hbb
  exact⟨.int .u8 b.toNat,by simp only[execOp,h1,h4,Instr.index,asIntOf,Sem.run_bind,Sem.run_pure,Result.andThen_ok,run_underlying (zbf (hL _ _ ht) he),af h0,hg],.int _ _ (zhV.2 (by have:=b.toNat_lt;omega))⟩) hd kk
theorem AOp.indexA{t e n:Nat}{x ix:Operand}{cells:List A}{k:IntKind}{j:Int}{v:A}{ti ei:TI}(hL:zaq P L)(hx:ev T x=some (.agg cells))(hi:ev T ix=some (.int k j))(ht:lay L t=some ti)(he:ti.td=.array n e)
  (hei:lay L e=some ei) (h0:0≤j) (hj:j<n) (hv:zbw ei cells (j.toNat*ei.size)=some v) (hd:zah N dst=true) (kk:AOps P N ops rest Q (put dst v T) H):
  AOp P N ops ⟨dst,.index t x ix,ty,pos,after,guard⟩ rest Q T H:=
 AOp.pure (fun _ w act s st=>by
  obtain⟨cs,h1,h2⟩:=(zag st hx).agg_inv;have hu:=zag st hi
  generalize h4:act.eval ix=u at hu
  cases hu;obtain⟨z,hz,hr⟩:=zdz (hL _ _ hei) h2 hv;exact⟨z,by simp only[execOp,h1,h4,Instr.index,asIntOf,Sem.run_bind,Sem.run_pure,Result.andThen_ok,run_underlying (ze8 (hL _ _ ht) he),Sem.run_ite,af (And.intro h0 hj),zaR (hL _ _ hei),hz],hr⟩) hd kk
def zqf(td:TD)(v:A):Bool:=match v with
 |.str _=>decide (td=.string)
 |_=>!decide (td=.string)
def lenA:A→Option Nat
 |.str s=>some s.length
 |.nils=>some 0
 |.ds l=>some l.length
 |.os _ _ _ n=>some n
 |_=>none
theorem AOp.len{t:Nat}{x:Operand}{v:A}{n:Nat}{ti:TI}(hL:zaq P L)(hx:ev T x=some v)(ht:lay L t=some ti)(hk:(match ti.td with|.string=>true|.slice _=>true|_=>false)=true)
  (hs:zqf ti.td v=true) (hn:lenA v=some n) (hd:zah N dst=true) (kk:AOps P N ops rest Q (put dst (.int .i64 n) T) H):
  AOp P N ops ⟨dst,.call {callee:=.builtin .len,args:=[x].toArray,argTypes:=[t].toArray},ty,pos,after,guard⟩ rest Q T H:=
 AOp.pure (fun _ w act s st=>by
  have hv:=zag st hx
  generalize h1:act.eval x=u at hv
  have hnb:n≤maxLen:=by
   cases hv<;>simp only[lenA,aY] at hn<;>first|(cases hn;done)|(subst hn;first|assumption|(simp only[br];exact aM _)|omega)
  refine⟨.int .i64 n,?_,.int _ _ (zeP.2 (by simp only[maxLen] at hnb;omega))⟩;simp only[execOp,resolve,invoke,builtin,Sem.run_bind,Sem.run_pure,Result.andThen_ok,bq,aU,bk,h1,Builtin.len_,List.getElem?_toArray,List.getElem?_cons_zero];have hti:=hL _ _ ht;unfold zqf at hs;cases htd:ti.td<;>rw[htd] at hk hs<;>simp only[bZ] at hk
  ·rw[run_underlying (zbf hti htd)]
   cases hv<;>simp at hs<;>simp only[lenA,aY] at hn<;>first|(cases hn;done)|(subst hn;rfl)
  ·rw[run_underlying (zaW hti htd)]
   cases hv<;>simp at hs<;>simp only[lenA,aY] at hn<;>first|(cases hn;done)|(subst hn;rfl)) hd kk
end
theorem zfg:∀{l:List (List A)} {sz:Nat},(∀i (hi:i<l.length),l[i].length=sz)→∀(i:Nat) (hi:i<l.length) (j:Nat),j<sz→l.flatten[i*sz+j]?=l[i][j]?
 |[],_,_,i,hi,_,_=>by simp at hi
 |a::l,sz,h,0,_,j,hj=>by
  have h0:=h 0 (by simp);simp only[bQ] at h0 ⊢;rw[cn,ce,aS,List.getElem?_append_left (by omega)]
 |a::l,sz,h,i+1,hi,j,hj=>by
  have h0:=h 0 (by simp);simp only[bQ] at h0;have ih:=zfg (l:=l) (sz:=sz) (fun k hk=>h (k+1) (dg hk)) i (by simpa using hi) j hj;simp only[dy];rw[←ih,cn,List.getElem?_append_right (by rw[h0,b9];omega)];congr 1;rw[h0,b9];omega
theorem zcN:∀{l:List (List A)} {sz:Nat},(∀i (hi:i<l.length),l[i].length=sz)→l.flatten.length=l.length*sz
 |[],_,_=>by simp
 |a::l,sz,h=>by
  have h0:=h 0 (by simp);simp only[bQ] at h0;rw[cn,aT,h0,zcN (l:=l) (sz:=sz) (fun k hk=>h (k+1) (dg hk)),aX,b9];omega
theorem zhw{sz:Nat}:∀(l:List (List A)) (n:Nat),(∀i (hi:i<l.length),l[i].length=sz)→(l.drop n).flatten=l.flatten.drop (n*sz)
 |[],n,_=>by simp
 |b::l,0,_=>by simp
 |b::l,n+1,h=>by
  have h0:b.length=sz:=h 0 (Nat.succ_pos _);have ih:=zhw l n (fun k hk=>h (k+1) (dg hk));rw[List.drop_succ_cons,ih,cn,List.drop_append,aW (as:=b) (by rw[h0,b9];omega),b7];congr 1;rw[h0,b9];omega
theorem zcB{sz:Nat}:∀(l:List (List A)) (n:Nat),(∀i (hi:i<l.length),l[i].length=sz)→(l.take n).flatten=l.flatten.take (n*sz)
 |[],n,_=>by simp
 |b::l,0,_=>by simp
 |b::l,n+1,h=>by
  have h0:b.length=sz:=h 0 (Nat.succ_pos _);have ih:=zcB l n (fun k hk=>h (k+1) (dg hk));rw[List.take_succ_cons,cn,ih,cn,List.take_append,bF (l:=b) (by rw[h0,b9];omega)];congr 2;rw[h0,b9];omega
theorem za4{w:World}{o:Nat→Prop}{r Te sz:Nat}{elems:List (List A)}{c:Array Value}{vs:List Value}(hg:w.heap[r]?=some (.cells c Te (0,0)))(hs:∀i (hi:i<elems.length),elems[i].length=sz)
  (hr:RepL w o elems.flatten vs) (hl:zan elems.flatten=true) (hc:∀(j:Nat) (u:Value),vs[j]?=some u→c[j]?=some u):zdK w o r (.row Te sz elems):=by
 have hfl:=zcN hs;refine⟨c,hg,?_,hs,fun i hi j hj=>?_⟩
 ·rw[←hfl,←hr.length]
  rcases cR vs.length with h0|h0
  ·omega
  ·have:=hc (vs.length - 1) vs[vs.length - 1] (by rw[List.getElem?_eq_getElem (by omega)])
   have:=(Array.getElem?_eq_some_iff.1 this).1;omega
 ·have hj':j<sz:=by rw[hs i hi] at hj;exact hj
  have hf:=zfg hs i hi j hj';rw[List.getElem?_eq_getElem hj] at hf;obtain⟨u,hu,h⟩:=hr.get _ _ hf;exact⟨u,hc _ _ hu,h,zay.1 hl _ (List.mem_of_getElem? hf)⟩
theorem zcK{w:World}{o:Nat→Prop}{r Te sz:Nat}{elems:List (List A)}(h:zdK w o r (.row Te sz elems)):
  ∃c:Array Value,w.heap[r]?=some (.cells c Te (0,0))∧(∀i (hi:i<elems.length),elems[i].length=sz)∧elems.length*sz≤c.size∧RepL w o elems.flatten (c.toList.take (elems.length*sz))∧zan elems.flatten=true:=by
 obtain⟨c,h1,h2,h3,h4⟩:=h;have hfl:=zcN h3;have key:∀(k:Nat) (a:A),elems.flatten[k]?=some a→∃v,c[k]?=some v∧Rep w o a v∧a.leaf=true:=by
  intro k a hk;have hlt:k<elems.length*sz:=by rw[←hfl];exact(List.getElem?_eq_some_iff.1 hk).1
  have hsz:0<sz:=by
   rcases cR sz with h0|h0
   ·subst h0;simp at hlt
   ·exact h0
  have hi:k / sz<elems.length:=(Nat.div_lt_iff_lt_mul hsz).2 hlt;have hj:k%sz<sz:=Nat.mod_lt _ hsz;have e:k / sz*sz+k%sz=k:=by rw[Nat.mul_comm];exact Nat.div_add_mod k sz
  have hf:=zfg h3 (k / sz) hi (k%sz) hj;rw[e,hk] at hf;obtain⟨hj',hjj⟩:=List.getElem?_eq_some_iff.1 hf.symm;obtain⟨v,hv,hr,hl⟩:=h4 (k / sz) hi (k%sz) hj';rw[e] at hv;exact⟨v,hv,hjj▸hr,hjj▸hl⟩
 refine⟨c,h1,h3,h2,RepL.of_get _ _ ?_ fun k a hk=>?_,zay.2 fun a ha=>?_⟩
 ·rw[hfl];simp;omega
 ·obtain⟨v,hv,hr,_⟩:=key k a hk
  refine⟨v,?_,hr⟩;have hlt:k<elems.length*sz:=by rw[←hfl];exact(List.getElem?_eq_some_iff.1 hk).1
  rw[List.getElem?_take,af hlt,Array.getElem?_toList];exact hv
 ·obtain⟨k,hk⟩:=List.getElem?_of_mem ha
  obtain⟨v,_,_,hl⟩:=key k a hk;exact hl
structure Lies(w:World)(o:Nat→Prop)(elems:List (List A))(sz:Nat)(a:Addr)(vs:List Value):Prop where
 lens:∀i (hi:i<elems.length),elems[i].length=sz
 rep:RepL w o elems.flatten vs
 at_:zbt w a vs
theorem Lies.of_pts{w:World}{o:Nat→Prop}{elems:List (List A)}{sz:Nat}{a:Addr}(h:∀i e,elems[i]?=some e→e.length=sz∧∃vs,RepL w o e vs∧zbt w (a.add (i*sz)) vs∧(e≠[]→¬o a.block)):
  ∃vs,Lies w o elems sz a vs:=by
 induction elems generalizing a with
 |nil=>exact⟨[],fun i hi=>by simp at hi,.nil,fun j v hj=>by simp at hj⟩
 |cons e l ih=>
  obtain⟨h1,vs,h2,h3,h4⟩:=h 0 e rfl;rw[ce,Addr.add_zero'] at h3;obtain⟨us,k1,k2,k3⟩:=ih (a:=a.add sz) (fun i x hx=>by
   obtain⟨h5,ws,h6,h7,h8⟩:=h (i+1) x (by simpa using hx);refine⟨h5,ws,h6,?_,by rw[zbU];exact h8⟩
   rw[zc6];rw[b9,Nat.one_mul,Nat.add_comm] at h7;exact h7)
  refine⟨vs++us,fun i hi=>?_,?_,fun j v hj=>?_⟩
  ·cases i with
   |zero=>exact h1
   |succ i=>simpa using k1 i (by simpa using hi)
  ·rw[cn];exact h2.append k2
  ·have hvl:vs.length=sz:=by rw[h2.length,h1]
   by_cases hjv:j<vs.length
   ·rw[List.getElem?_append_left hjv] at hj;exact h3 j v hj
   ·rw[List.getElem?_append_right (by omega)] at hj
    have:=k3 _ _ hj;rw[zc6] at this;rw[show sz+(j - vs.length)=j by omega] at this;exact this
theorem RepL.flatLeaf{l:List (List A)}(h:∀e∈l,zan e=true):zan l.flatten=true:=by
 rw[zay];intro a ha;obtain⟨e,he,hae⟩:=List.mem_flatten.1 ha;exact zay.1 (h e he) a hae
inductive RowOf(H:Heap):A→List (List A)→Prop
 |ds (l:List (List A)):RowOf H (.ds l) l
 |os {r Te sz off len:Nat} {elems:List (List A)} (hm:(r,Blk.row Te sz elems)∈H) (hle:off+len≤elems.length):RowOf H (.os r sz off len) ((elems.drop off).take len)
theorem RowOf.lies{fr:Nat→Prop}{H:Heap}{w:World}(s:Sim fr H w){x:A}{l:List (List A)}{v:Value}(h:RowOf H x l)(hr:Rep w (own fr H) x v):(l=[]∧v=.slice none 0 0)∨∃a cap sz vs,v=.slice (some a) l.length cap∧l.length≤cap∧cap≤maxLen∧Lies w (own fr H) l sz a vs:=by
 cases h with
 |ds=>
  rcases hr.ds_inv with h|⟨a,cap,sz,h1,h2,h3,h4⟩
  ·exact .inl h
  obtain⟨vs,hv⟩:=Lies.of_pts h4;exact .inr ⟨a,cap,sz,vs,h1,h2,h3,hv⟩
 |@os r Te sz off len elems hm hle=>
  cases hr with
  |os _ _ _ _ cap hrr hcap hmax hroom=>
   have hlen:((elems.drop off).take len).length=len:=by simp;omega
   refine .inr ⟨⟨r,off*sz,none⟩,cap,sz,?_⟩;have:∃vs,Lies w (own fr H) ((elems.drop off).take len) sz ⟨r,off*sz,none⟩ vs:=by
    obtain⟨c,h1,h3,h2,h5,h6⟩:=zcK (s.ok _ hm);refine⟨((c.toList.take (elems.length*sz)).drop (off*sz)).take (len*sz),fun i hi=>?_,?_,fun j v hj=>?_⟩
    ·rw[dG,dH];exact h3 _ _
    ·have e:((elems.drop off).take len).flatten=(elems.flatten.drop (off*sz)).take (len*sz):=by
      rw[zcB _ _ (fun i hi=>by rw[dH];exact h3 _ _),zhw _ _ h3]
     rw[e];exact(h5.drop _).take _
    ·rw[List.getElem?_take] at hj
     split at hj
     ·rw[List.getElem?_drop,List.getElem?_take] at hj
      split at hj
      ·rw[add_plain,cell_of_row w r _ c Te (0,0) h1]
       rw[Array.getElem?_toList] at hj;exact hj
      ·cases hj
     ·cases hj
   obtain⟨vs,hv⟩:=this;exact⟨vs,by rw[hlen],by rw[hlen];exact hcap,hmax,hv⟩
section
variable{P:Program}{N:NN}{Q:Exit→Env→Heap→Prop}{T:Env}{H:Heap}{ops rest:List Oper}{dst:Option Nat}{ty:TypeId}{pos:String}{after:Array Edge}{guard:Option (Nat×Bool)}{L:Lay}
theorem zmZ(a b:List UInt8):(⟨a.toArray⟩:ByteArray)++⟨b.toArray⟩=⟨(a++b).toArray⟩:=by
 apply ByteArray.ext
 apply Array.ext'
 simp
theorem AOp.strAdd{xt yt:TypeId}{x y:Operand}{a b:List UInt8}(hx:ev T x=some (.str a))(hy:ev T y=some (.str b))(hb:a.length+b.length≤maxLen)(hd:zah N dst=true)
  (kk:AOps P N ops rest Q (put dst (.str (a++b)) T) H):AOp P N ops ⟨dst,.binOp .add xt x y yt,ty,pos,after,guard⟩ rest Q T H:=
 AOp.pure (fun _ w act _ st=>by
  have hu:=zag st hx;have hv:=zag st hy
  generalize h1:act.eval x=u at hu
  generalize h2:act.eval y=v at hv
  cases hu;cases hv;have hm:¬(((⟨a.toArray⟩:ByteArray).size+(⟨b.toArray⟩:ByteArray).size:Nat):Int)>IntKind.i64.max:=by
   simp only[maxLen] at hb;simp[ByteArray.size];omega
  refine⟨.string ⟨(a++b).toArray⟩,?_,.str _ (by simpa using hb)⟩;simp only[execOp,h1,h2,eqGuard_add,Sem.run_bind,Sem.run_pure,Result.andThen_ok,binOp,Op.stringOp,Sem.run_ite,ac hm,zmZ]) hd kk
def binS(op:BinOp)(a b:List UInt8):Option A:=
 match op with
 |.eql=>some (.bool (a==b))
 |.neq=>some (.bool !(a==b))
 |.lss=>some (.bool (Op.bytesLess a b))
 |.leq=>some (.bool (Op.bytesLess a b||a==b))
 |.gtr=>some (.bool !(Op.bytesLess a b||a==b))
 |.geq=>some (.bool !Op.bytesLess a b)
 |.add=>match Nat.ble (a.length+b.length) 9223372036854775807 with
  |true=>some (.str (a++b))
  |false=>none
 |_=>none
theorem zie(a b:List UInt8):(⟨a.toArray⟩:ByteArray)++(⟨b.toArray⟩:ByteArray)=⟨(a++b).toArray⟩:=by
 apply ByteArray.ext
 simp
theorem AOp.binS{op:BinOp}{xt yt:TypeId}{x y:Operand}{a b:List UInt8}{r:A}(hx:ev T x=some (.str a))(hy:ev T y=some (.str b))(h:binS op a b=some r)(hd:zah N dst=true)
  (kk:AOps P N ops rest Q (put dst r T) H):AOp P N ops ⟨dst,.binOp op xt x y yt,ty,pos,after,guard⟩ rest Q T H:=
 AOp.pure (fun _ w act _ st=>by
  have hu:=zag st hx;have hv:=zag st hy
  generalize h1:act.eval x=u at hu
  generalize h2:act.eval y=v at hv
  cases hu;cases hv;cases op<;>simp only[Go.Abs.binS] at h<;>first|(cases h;done)|(cases h;exact⟨.bool _,by simp only[execOp,h1,h2,eqGuard_at_string,Sem.run_bind,Sem.run_pure,Result.andThen_ok,binOp,Op.stringOp,ByteArray.toList_mk],.bool _⟩)|skip
  split at h
  ·rename_i hle
   have hle:=bi hle;cases h;refine⟨.string ⟨(a++b).toArray⟩,?_,.str _ (by unfold maxLen;simp;omega)⟩;simp only[execOp,h1,h2,eqGuard_at_string,Sem.run_bind,Sem.run_pure,Result.andThen_ok,binOp,Op.stringOp,ByteArray.toList_mk];rw[ac (by have:IntKind.i64.max=9223372036854775807:=rfl;rw[this];simp[ByteArray.size];omega),zie];rfl
  ·cases h) hd kk
theorem AOp.binB{op:BinOp}{xt yt:TypeId}{x y:Operand}{a b:Bool}{r:A}{ti:TI}(hL:zaq P L)(hx:ev T x=some (.bool a))(hy:ev T y=some (.bool b))(ht:lay L xt=some ti)(hti:ti.td=.bool)
  (h:(match op with|.eql=>some (A.bool (a==b))|.neq=>some (A.bool !(a==b))|_=>none)=some r) (hd:zah N dst=true)
  (kk:AOps P N ops rest Q (put dst r T) H):AOp P N ops ⟨dst,.binOp op xt x y yt,ty,pos,after,guard⟩ rest Q T H:=
 AOp.pure (fun _ w act _ st=>by
  have hu:=zag st hx;have hv:=zag st hy
  generalize h1:act.eval x=u at hu
  generalize h2:act.eval y=v at hv
  cases hu;cases hv;have hund:P.underlying xt=some .bool:=by
   obtain⟨d,e1,e2⟩:=(hL _ _ ht).und;rw[hti] at e2;cases d<;>simp[tdOf] at e2
   exact e1
  have hq:=run_equalIn_bool' (P:=P) w 9999 xt a b hund;cases op<;>simp only at h<;>first|(cases h;done)|(cases h;exact⟨.bool _,by simp only[execOp,h1,h2,eqGuard_at_bool,Sem.run_bind,Sem.run_pure,Result.andThen_ok];simp only[binOp];simp only[Op.equal,Op.maxDepth,Sem.run_bind,hq,Result.andThen_ok,Sem.run_pure],.bool _⟩)) hd kk
theorem zbP{i:Int}{kd:IntKind}{y:Nat}{code:BoundsCode}(h0:0≤i)(h1:i≤y)(w:World):(Instr.sliceBound (.int kd i) y code).run P w=.ok i.toNat w:=by
 simp only[Instr.sliceBound,asIntOf,Sem.run_bind,Sem.run_pure,Result.andThen_ok,Sem.run_ite,af (And.intro h0 h1)]
def bnd(T:Env)(d:Nat):Option Operand→Option Int
 |none=>some d
 |some x=>match ev T x with|some (.int _ j)=>some j|_=>none
theorem znf{w:World}{o:Nat→Prop}{a:Act}{d:Nat}{x:Option Operand}{j:Int}(st:St N w o T a)(h:bnd T d x=some j):
  (x=none∧j=d)∨∃y k,x=some y∧a.eval y=.int k j:=by
 cases x with
 |none=>cases h;exact .inl ⟨rfl,rfl⟩
 |some y=>
  simp only[bnd] at h;split at h
  ·rename_i k i hy
   cases h;have:=zag st hy
   generalize hv:a.eval y=v at this
   cases this;exact .inr ⟨y,k,I,hv⟩
  ·cases h
theorem zbp{isS:Bool}{len cap:Nat}{lo hi:Option Operand}{l h:Int}{w:World}{o:Nat→Prop}{a:Act}(st:St N w o T a)(hl:bnd T 0 lo=some l)(hh:bnd T len hi=some h)(h0:0≤l)(h1:l≤h)(h2:h≤cap):
  (Instr.sliceBounds isS len cap (lo.map a.eval) (hi.map a.eval) none).run P w=.ok (l.toNat,h.toNat,cap) w:=by
 have e1:=znf st hl;have e2:=znf st hh;unfold Instr.sliceBounds;rcases e1 with ⟨rfl,rfl⟩|⟨y,k,rfl,hy⟩
 ·rcases e2 with ⟨rfl,rfl⟩|⟨z,k',rfl,hz⟩
  ·simp
  ·simp only[bh,cq,hz,Sem.run_bind,Sem.run_pure,Result.andThen_ok,zbP (show(0:Int)≤h by omega) h2]
   rfl
 ·rcases e2 with ⟨rfl,rfl⟩|⟨z,k',rfl,hz⟩
  ·have hb:l≤(len:Int):=h1
   simp only[bh,cq,hy,Sem.run_bind,Sem.run_pure,Result.andThen_ok,zbP h0 hb];rfl
  ·have hb:l≤((h.toNat:Nat):Int):=by omega
   simp only[bh,hy,hz,Sem.run_bind,Sem.run_pure,Result.andThen_ok,zbP (show(0:Int)≤h by omega) h2,zbP h0 hb]
theorem AOp.sliceS{t:TypeId}{x:Operand}{lo hi:Option Operand}{s:List UInt8}{l h:Int}{ti:TI}(hL:zaq P L)(hx:ev T x=some (.str s))(hl:bnd T 0 lo=some l)(hh:bnd T s.length hi=some h)(ht:lay L t=some ti)(he:ti.td=.string)
  (h0:0≤l) (h1:l≤h) (h2:h≤s.length) (hd:zah N dst=true) (kk:AOps P N ops rest Q (put dst (.str ((s.drop l.toNat).take (h.toNat - l.toNat))) T) H):
  AOp P N ops ⟨dst,.slice t x lo hi none,ty,pos,after,guard⟩ rest Q T H:=
 AOp.pure (fun _ w act sm st=>by
  have hv:=zag st hx
  generalize h3:act.eval x=v at hv
  cases hv with
  |str _ hm=>
  have hb:=zbp (P:=P) (isS:=false) (len:=s.length) (cap:=s.length) st hl hh h0 h1 (by omega);refine⟨.string ((⟨s.toArray⟩:ByteArray).extract l.toNat h.toNat),?_,?_⟩
  ·simp only[execOp,h3,Instr.sliceAt,Instr.slice,Sem.run_bind,Sem.run_pure,Result.andThen_ok,run_underlying (zbf (hL _ _ ht) he),cq,Option.isSome_none,bZ,bP]
   have hsz:(⟨s.toArray⟩:ByteArray).size=s.length:=by simp[ByteArray.size]
   rw[hsz,hb];rfl
  ·have:=Rep.str (w:=w) (own:=own ‹_› H) ((s.drop l.toNat).take (h.toNat - l.toNat)) (by simp only[be,ba];omega)
   rw[Lib.extract_eq];exact this) hd kk
end
theorem zgw(off:Nat):∀(l:List Value) (k:Nat) (cells:Array Value),off+k+l.length≤cells.size→
  ((l.zipIdx k).foldl (fun cs (p:Value×Nat)=>cs.setIfInBounds (off+p.2) p.1) cells).toList=cells.toList.take (off+k)++l++cells.toList.drop (off+k+l.length)
 |[],k,cells,_=>by simp
 |v::rest,k,cells,h=>by
  have ih:=zgw off rest (k+1) (cells.setIfInBounds (off+k) v) (by simp at h ⊢;omega);have e:=list_seg_step cells.toList (off+k) v rest (by simp at h ⊢;omega);simp only[List.zipIdx_cons,de];rw[ih,Array.toList_setIfInBounds];simpa [cH,Nat.add_comm,Nat.add_left_comm] using e
theorem zio(place:Nat→Option (Nat×Nat))(cells:Array Value)(i:Nat)(v:Value)(rest:List (Nat×Value))(off size:Nat)(hp:place i=some (off,size))(hs:v.cells.size=size)(hf:off+size≤cells.size):
  ∃c:Array Value,Instr.fill place cells ((i,v)::rest)=Instr.fill place c rest∧c.toList=cells.toList.take off++v.cells.toList++cells.toList.drop (off+size):=by
 refine⟨v.cells.zipIdx.foldl (fun cs (c,j)=>cs.setIfInBounds (off+j) c) cells,?_,?_⟩
 ·simp only[Instr.fill,hp]
  rw[ac];simp;omega
 ·have:=zgw off v.cells.toList 0 cells (by simp;omega)
  rw[←Array.foldl_toList,Array.toList_zipIdx];rw[show(v.cells.toList.zipIdx 0).foldl (fun cs (x:Value×Nat)=>match x with|(c,j)=>cs.setIfInBounds (off+j) c) cells=(v.cells.toList.zipIdx 0).foldl (fun cs (p:Value×Nat)=>cs.setIfInBounds (off+p.2) p.1) cells from rfl,this]
  simp[hs]
def zcl(T:Env):List (Nat×Operand)→Option (List (Nat×A))
 |[]=>some []
 |(i,x)::l=>match ev T x with
  |some y=>match zcl T l with
   |some r=>some ((i,y)::r)
   |none=>none
  |none=>none
def zp2:A→Bool
 |.tup _=>false
 |_=>true
theorem zab{a:A}(h:zp2 a=true):a.leaf=true∨∃l,a=.agg l:=by
 cases a<;>first|(exact .inl I)|(exact .inr ⟨_,rfl⟩)|(cases h;done)
def zmW(L:Lay)(fs:List (Nat×Nat)):List A→List (Nat×A)→Option (List A)
 |cells,[]=>some cells
 |cells,(i,v)::rest=>match fs[i]? with
  |some (off,ft)=>match lay L ft with
   |some fi=>match Nat.beq v.cells.length fi.size,zp2 v with
    |true,true=>match zcf cells off v.cells with
     |some c=>zmW L fs c rest
     |none=>none
    |_,_=>none
   |none=>none
  |none=>none
def zhU(sz:Nat):List A→List (Nat×A)→Option (List A)
 |cells,[]=>some cells
 |cells,(i,v)::rest=>match Nat.beq v.cells.length sz,zp2 v with
  |true,true=>match zcf cells (i*sz) v.cells with
   |some c=>zhU sz c rest
   |none=>none
  |_,_=>none
theorem zgf{w:World}{o:Nat→Prop}{cells xs c:List A}{off:Nat}{vs us ws:List Value}(h:zcf cells off xs=some c)(hr:RepL w o cells vs)(hx:RepL w o xs us)(hw:ws=vs.take off++us++vs.drop (off+us.length)):RepL w o c ws∧off+us.length≤vs.length:=by
 unfold zcf at h;split at h
 ·rename_i hb
  have hb:=bi hb;cases h;subst hw;refine⟨?_,by rw[hx.length,hr.length];exact hb⟩
  rw[aI,hx.length];exact(hr.take _).append (hx.append (hr.drop _))
 ·cases h
theorem zkF{cells xs c:List A}{off:Nat}(h:zcf cells off xs=some c):c.length=cells.length:=by
 unfold zcf at h;split at h
 ·rename_i hb
  have hb:=bi hb;cases h;simp;omega
 ·cases h
section
variable{P:Program}{N:NN}{Q:Exit→Env→Heap→Prop}{T:Env}{H:Heap}{ops rest:List Oper}{dst:Option Nat}{ty:TypeId}{pos:String}{after:Array Edge}{guard:Option (Nat×Bool)}{L:Lay}
theorem zhZ{w:World}{o:Nat→Prop}{a:Act}(hL:zaq P L)(st:St N w o T a){g:Array Field}{places:Array (Nat×Nat)}(hp:∀(i:Nat) (off ft:Nat),(g.toList.map fun f=>(f.offset,f.type))[i]?=some (off,ft)→∀fi,lay L ft=some fi→places[i]?=some (off,fi.size)):
  ∀(parts:List (Nat×Operand)) (ps:List (Nat×A)) (cells:List A) (cs:Array Value) (out:List A),zcl T parts=some ps→RepL w o cells cs.toList→zmW L (g.toList.map fun f=>(f.offset,f.type)) cells ps=some out→
   ∃c:Array Value,Instr.fill (places[·]?) cs (parts.map fun p=>(p.1,a.eval p.2))=some c∧RepL w o out c.toList
 |[],ps,cells,cs,out,h1,h2,h3=>by
  cases h1;cases h3;exact⟨cs,I,h2⟩
 |(i,x)::l,ps,cells,cs,out,h1,h2,h3=>by
  simp only[zcl] at h1;split at h1
  case h_2=>cases h1
  rename_i y hy;split at h1
  case h_2=>cases h1
  rename_i r hr;cases h1;simp only[zmW] at h3;split at h3
  case h_2=>cases h3
  rename_i off ft hf;split at h3
  case h_2=>cases h3
  rename_i fi hfi;split at h3
  case h_2=>cases h3
  rename_i hb hv;split at h3
  case h_2=>cases h3
  rename_i c hc;have hb:=bB hb;have hry:=(zag st hy).cells (zab hv);have hplace:=hp i off ft hf fi hfi;have hlen:(a.eval x).cells.size=fi.size:=by have:=hry.length;simp at this;omega
  have hsl:=zkF hc;obtain⟨h5,h6⟩:=zgf hc h2 hry rfl;obtain⟨c',e1,e2⟩:=zio (places[·]?) cs i (a.eval x) (l.map fun p=>(p.1,a.eval p.2)) off fi.size hplace hlen (by simp at h6;omega);simp only[aU];rw[e1];refine zhZ hL st hp l r c c' out hr ?_ h3;rw[e2];have e3:(a.eval x).cells.toList.length=fi.size:=by simpa using hlen
  rw[e3] at h5;exact h5
theorem AOp.build{t:TypeId}{parts:List (Nat×Operand)}{ps:List (Nat×A)}{ti:TI}{fs:List (Nat×Nat)}{out:List A}(hL:zaq P L)(hp:zcl T parts=some ps)(ht:lay L t=some ti)(e:ti.td=.struct fs)
  (hfl:(fs.all fun f=>(lay L f.2).isSome)=true) (ho:zmW L fs ti.zero ps=some out) (hd:zah N dst=true) (k:AOps P N ops rest Q (put dst (.agg out) T) H):
  AOp P N ops ⟨dst,.build t parts.toArray,ty,pos,after,guard⟩ rest Q T H:=
 AOp.pure (fun fr w act s st=>by
  obtain⟨g,h1,rfl⟩:=zdo (hL _ _ ht) e;obtain⟨z,hz,_,hzr,_⟩:=zdv (hL _ _ ht) w;have hplaces:∀(l:List Field),(∀f∈l,(lay L f.type).isSome=true)→(l.mapM (fun f=>do Pure.pure (f.offset,←sizeOf f.type):Field→Sem (Nat×Nat))).run P w=.ok (l.map fun f=>(f.offset,((lay L f.type).map (·.size)).getD 0)) w:=by
   intro l
   induction l with
   |nil=>intro _;rfl
   |cons f l ih=>
    intro hh;obtain⟨fi,hfi⟩:=Option.isSome_iff_exists.1 (hh f aE);have ih:=ih fun f hf=>hh f (aB _ hf);rw[List.mapM_cons];simp only[Sem.run_bind,Sem.run_pure,Result.andThen_ok,zaR (hL _ _ hfi),ih,aU,hfi,bh,bT]
  have hall:∀f∈g.toList,(lay L f.type).isSome=true:=by
   intro f hf;have:=List.all_eq_true.1 hfl (f.offset,f.type) (List.mem_map.2 ⟨f,hf,I⟩);exact this
  have hpl:=hplaces g.toList hall;have hmap:(g.mapM (fun f=>do Pure.pure (f.offset,←sizeOf f.type):Field→Sem (Nat×Nat))).run P w=.ok (g.toList.map fun f=>(f.offset,((lay L f.type).map (·.size)).getD 0)).toArray w:=by
   rw[Array.mapM_eq_mapM_toList];simp only[Sem.run_map,hpl,Result.andThen_ok]
  obtain⟨c,h5,h6⟩:=zhZ (places:=(g.toList.map fun f=>(f.offset,((lay L f.type).map (·.size)).getD 0)).toArray) hL st (fun i off ft hi fi hfi=>by
   rw[List.getElem?_map] at hi;cases hg:g.toList[i]? with
   |none=>rw[hg] at hi;cases hi
   |some fd=>
    rw[hg] at hi;simp only[bh,aY,b5] at hi;obtain⟨rfl,rfl⟩:=hi;rw[List.getElem?_toArray,List.getElem?_map,hg];simp[hfi]) parts ps ti.zero z.cells out hp (hzr _ _) ho
  refine⟨.agg c,?_,?_⟩
  ·simp only[execOp,Instr.build,Sem.run_bind,hz,Result.andThen_ok,run_underlying h1,hmap]
   have e1:(parts.toArray.map fun(x:Nat×Operand)=>match x with|(i,x)=>(i,act.eval x)).toList=parts.map fun p=>(p.1,act.eval p.2):=by simp
   rw[e1,h5];rfl
  ·have:=Rep.agg_of h6
   simpa using this) hd k
theorem zfZ{w:World}{o:Nat→Prop}{a:Act}(st:St N w o T a){sz:Nat}:
  ∀(parts:List (Nat×Operand)) (ps:List (Nat×A)) (cells:List A) (cs:Array Value) (out:List A),zcl T parts=some ps→RepL w o cells cs.toList→zhU sz cells ps=some out→
   ∃c:Array Value,Instr.fill (fun i=>some (i*sz,sz)) cs (parts.map fun p=>(p.1,a.eval p.2))=some c∧RepL w o out c.toList∧c.size=cs.size
 |[],ps,cells,cs,out,h1,h2,h3=>by
  cases h1;cases h3;exact⟨cs,I,h2,I⟩
 |(i,x)::l,ps,cells,cs,out,h1,h2,h3=>by
  simp only[zcl] at h1;split at h1
  case h_2=>cases h1
  rename_i y hy;split at h1
  case h_2=>cases h1
  rename_i r hr;cases h1;simp only[zhU] at h3;split at h3
  case h_2=>cases h3
  rename_i hb hv;split at h3
  case h_2=>cases h3
  rename_i c hc;have hb:=bB hb;have hry:=(zag st hy).cells (zab hv);have hlen:(a.eval x).cells.size=sz:=by have:=hry.length;simp at this;omega
  obtain⟨h5,h6⟩:=zgf hc h2 hry rfl;obtain⟨c',e1,e2⟩:=zio (fun i=>some (i*sz,sz)) cs i (a.eval x) (l.map fun p=>(p.1,a.eval p.2)) (i*sz) sz rfl hlen (by simp at h6;omega);simp only[aU];rw[e1];have e3:(a.eval x).cells.toList.length=sz:=by simpa using hlen
  obtain⟨c2,k1,k2,k3⟩:=zfZ st l r c c' out hr (by rw[e2,←e3];rw[e3] at h5 ⊢;exact h5) h3;refine⟨c2,k1,k2,?_⟩;have hc':c'.size=cs.size:=by
   rw[←cQ,e2];simp at h6 ⊢;omega
  omega
theorem AOp.buildA{t e n:Nat}{parts:List (Nat×Operand)}{ps:List (Nat×A)}{ti ei:TI}{out:List A}(hL:zaq P L)(hp:zcl T parts=some ps)(ht:lay L t=some ti)(ha:ti.td=.array n e)(hei:lay L e=some ei)
  (ho:zhU ei.size ti.zero ps=some out) (hd:zah N dst=true) (k:AOps P N ops rest Q (put dst (.agg out) T) H):
  AOp P N ops ⟨dst,.build t parts.toArray,ty,pos,after,guard⟩ rest Q T H:=
 AOp.pure (fun fr w act s st=>by
  obtain⟨z,hz,_,hzr,_⟩:=zdv (hL _ _ ht) w;obtain⟨c,h5,h6,_⟩:=zfZ st parts ps ti.zero z.cells out hp (hzr _ _) ho;refine⟨.agg c,?_,?_⟩
  ·simp only[execOp,Instr.build,Sem.run_bind,hz,Result.andThen_ok,run_underlying (ze8 (hL _ _ ht) ha),zaR (hL _ _ hei)]
   have e1:(parts.toArray.map fun(x:Nat×Operand)=>match x with|(i,x)=>(i,act.eval x)).toList=parts.map fun p=>(p.1,act.eval p.2):=by simp
   rw[e1,h5];rfl
  ·have:=Rep.agg_of h6
   simpa using this) hd k
def zdn(sz:Nat):Nat→List A→List (List A)
 |0,_=>[]
 |n+1,l=>l.take sz::zdn sz n (l.drop sz)
theorem zgh{sz:Nat}:∀(n:Nat) (l:List A),l.length=n*sz→(zdn sz n l).flatten=l∧(zdn sz n l).length=n∧∀i (hi:i<(zdn sz n l).length),(zdn sz n l)[i].length=sz
 |0,l,h=>by
  have:l=[]:=bE (by simpa using h);subst this;exact⟨I,I,fun i hi=>by simp[zdn] at hi⟩
 |n+1,l,h=>by
  obtain⟨h1,h2,h3⟩:=zgh (sz:=sz) n (l.drop sz) (by rw[ba,h,b9];omega);refine⟨by simp[zdn,h1],by simp[zdn,h2],fun i hi=>?_⟩
  cases i with
  |zero=>simp only[zdn,bQ,be];rw[h,b9];omega
  |succ i=>simp only[zdn,dy];exact h3 i (by simpa [zdn] using hi)
def rep(n:Nat)(z:List A):List A:=(List.replicate n z).flatten
theorem zi5(n:Nat)(z:List A):(rep n z).length=n*z.length:=by simp[rep]
theorem zhy{w:World}{o:Nat→Prop}{zs:List A}{z:Array Value}(hr:RepL w o zs z.toList)(hp:0<z.size):∀n,RepL w o (rep n zs) ((Array.range (n*z.size)).map (z[·%z.size]!)).toList:=by
 intro n;refine RepL.of_get _ _ ?_ fun k a hk=>?_
 ·rw[zi5];have:=hr.length;simp at this;simp[this]
 ·have hl:zs.length=z.size:=by have:=hr.length;simp at this;omega
  have hlt:k<n*zs.length:=by rw[←zi5];exact(List.getElem?_eq_some_iff.1 hk).1
  have hsz:0<zs.length:=by omega
  have hmod:k%zs.length<zs.length:=Nat.mod_lt _ hsz;have e:k / zs.length*zs.length+k%zs.length=k:=by rw[Nat.mul_comm];exact Nat.div_add_mod k _
  have hf:=zfg (l:=List.replicate n zs) (sz:=zs.length) (fun i hi=>by simp) (k / zs.length) (by simp;exact(Nat.div_lt_iff_lt_mul hsz).2 hlt) (k%zs.length) hmod
  rw[e] at hf;have hk':(List.replicate n zs).flatten[k]?=some a:=hk;rw[hk'] at hf;simp only[List.getElem_replicate] at hf;obtain⟨v,hv,hra⟩:=hr.get _ _ hf.symm;refine⟨v,?_,hra⟩;rw[hl] at hlt hv;have hm:k%z.size<z.size:=Nat.mod_lt _ hp;rw[Array.getElem?_toList] at hv ⊢;rw[Array.getElem?_map,Array.getElem?_range,af hlt];simp only[bh];rw[getElem!_pos z _ hm];rw[Array.getElem?_eq_getElem hm] at hv;exact hv
theorem AOp.buildSlice{t:TypeId}{n e:Nat}{parts:List (Nat×Operand)}{ps:List (Nat×A)}{ti ei:TI}{out:List A}{elems:List (List A)}(hL:zaq P L)(hp:zcl T parts=some ps)(ht:lay L t=some ti)(he:ti.td=.slice e)
  (hei:lay L e=some ei) (ho:zhU ei.size (rep n ei.zero) ps=some out) (hel:zdn ei.size n out=elems) (hsm:Nat.ble (n*ei.size) 16777216=true) (hpos:Nat.ble 1 ei.size=true) (hz:Nat.beq ei.zero.length ei.size=true) (hl:zan out=true) (hd:zah N dst=true)
  (k:∀r,r∉keys H→AOps P N ops rest Q (put dst (.os r ei.size 0 n) T) ((r,.row e ei.size elems)::H)):
  AOp P N ops ⟨dst,.buildSlice t n parts.toArray,ty,pos,after,guard⟩ rest Q T H:=by
 subst hel;have hsm:=bi hsm;have hpos:=bi hpos;have hz:=bB hz;refine AOp.sem (R:=fun v' H'=>∃r,r∉keys H∧v'=.os r ei.size 0 n∧H'=(r,.row e ei.size (zdn ei.size n out))::H) (fun fr w act s st=>?_) hd ?_
 ·obtain⟨z,hzv,hzs,hzr,_⟩:=zdv (hL _ _ hei) w
  have hzero:RepL w (own fr H) (rep n ei.zero) (if n*ei.size=0 then #[] else (Array.range (n*ei.size)).map (z.cells[·%z.cells.size]!)).toList:=by
   split
   ·rename_i h0
    have:rep n ei.zero=[]:=bE (by rw[zi5,hz];exact h0);rw[this];exact .nil
   ·rw[←hzs];exact zhy (hzr _ _) (by omega) n
  obtain⟨c,h1,h2,h3⟩:=zfZ (sz:=ei.size) st parts ps _ ((Array.range (n*ei.size)).map ((if n*ei.size=0 then #[] else z.cells)[·%(if n*ei.size=0 then #[] else z.cells).size]!)) out hp (by
   rcases cR (n*ei.size) with h0|h0
   ·rw[af h0] at hzero
    simpa [h0] using hzero
   ·have h0':¬n*ei.size=0:=by omega
    simp only[ac h0'] at hzero ⊢;exact hzero) ho
  have hcl:c.size=n*ei.size:=by rw[h3];simp
  have hol:out.length=n*ei.size:=by have:=h2.length;simp at this;omega
  obtain⟨k1,k2,k3⟩:=zgh n out hol;refine⟨w.alloc (.cells c e),.os w.heap.size ei.size 0 n,.slice (some ⟨w.heap.size,0,none⟩) n n,_,.inl ?_,⟨w.heap.size,(zba s).1,I,I⟩,s.new ?_,?_,Ext.new H w _ _⟩
  ·simp only[execOp,Instr.buildSlice,Sem.run_bind,run_underlying (zaW (hL _ _ ht) he),Result.andThen_ok,zaR (hL _ _ hei)]
   rw[ac (by omega)];have e1:(parts.toArray.map fun(x:Nat×Operand)=>match x with|(i,x)=>(i,act.eval x)).toList=parts.map fun p=>(p.1,act.eval p.2):=by simp
   rw[e1];by_cases h0:n*ei.size=0
   ·simp only[af h0,Sem.run_bind,Sem.run_pure,Result.andThen_ok] at h1 ⊢
    rw[h1];rfl
   ·simp only[ac h0,Sem.run_bind,hzv,Sem.run_pure,Result.andThen_ok] at h1 ⊢
    rw[h1];rfl
  ·refine za4 (vs:=c.toList) (by rw[heap_alloc_new]) k3 ?_ (by rw[k1];exact hl) (fun j u hj=>by rw[Array.getElem?_toList] at hj;exact hj)
   rw[k1];exact h2.mono (Ext.new H w (.cells c e) (.row e ei.size (zdn ei.size n out))).stays
  ·have:=Rep.os (w:=w.alloc (.cells c e)) (own:=own fr ((w.heap.size,.row e ei.size (zdn ei.size n out))::H)) w.heap.size ei.size 0 n n (by simp) (au _) (by
    simp only[maxLen];have:n≤n*ei.size:=Nat.le_mul_of_pos_right _ hpos;omega) (fun c' T' f h=>by
    rw[heap_alloc_new] at h;cases h;rw[aS];omega)
   simpa using this
 ·rintro v' H' ⟨r,h1,rfl,rfl⟩
  exact k r h1
end
section
variable{P:Program}{N:NN}{Q:Exit→Env→Heap→Prop}{T:Env}{H:Heap}{ops rest:List Oper}{dst:Option Nat}{ty:TypeId}{pos:String}{after:Array Edge}{guard:Option (Nat×Bool)}{L:Lay}
theorem zef(z:Array Value)(n:Nat):(Builtin.zeroCells z n).size=n*z.size:=by simp[Builtin.zeroCells]
theorem Ext.drew(H:Heap)(w:World):Ext H w H w.drew:=⟨I,I,I,au _,fun _ _ _=>rfl,fun _ h=>.inl h,fun _ _ c _ f h=>⟨c,f,h,I⟩⟩
theorem Sim.drew{fr:Nat→Prop}{w:World}(s:Sim fr H w):Sim fr H w.drew where
 nodup:=s.nodup
 apart:=s.apart
 old:=s.old
 ok p hp:=(s.ok p hp).mono (Ext.drew H w).stays I
theorem zbo(a b:List (List A)):(a++b).flatten=a.flatten++b.flatten:=by simp
theorem zbS{a b:List A}(h:zan a=true)(k:zan b=true):zan (a++b)=true:=by
 rw[zay] at*;intro x hx;rcases List.mem_append.1 hx with hx|hx
 ·exact h x hx
 ·exact k x hx
theorem zev{t e:Nat}{x y:Operand}{r:Nat}{elems news:List (List A)}{sv xv:A}{ti ei:TI}{Hr:Heap}(hL:zaq P L)(hx:ev T x=some sv)(hy:ev T y=some xv)(ht:lay L t=some ti)(he:ti.td=.slice e)
  (hei:lay L e=some ei) (hpos:0<ei.size)
  (hs:(sv=.nils∧elems=[]∧H.Perm Hr)∨(sv=.os r ei.size 0 elems.length∧∃all,elems=all.take elems.length∧H.Perm ((r,.row e ei.size all)::Hr)))
  (hy':RowOf H xv news) (hnl:∀i (hi:i<news.length),news[i].length=ei.size) (hnf:∀c∈news,zan c=true) (hne:sv=.nils→news≠[])
  (hb1:elems.length+news.length≤maxLen) (hb2:(elems.length+news.length)*ei.bytes≤140737488355328):
  zky P N ⟨dst,.call {callee:=.builtin .append,args:=[x,y].toArray,argTypes:=[t,t].toArray},ty,pos,after,guard⟩ T H
   fun v H'=>∃r',r'∉keys Hr∧v=.os r' ei.size 0 (elems.length+news.length)∧H'=(r',.row e ei.size (elems++news))::Hr:=by
 intro fr w act s st;obtain⟨info,zv,hinfo,hi1,hi2,hi3,hzs,hzr,_⟩:=(hL _ _ hei).info;have hund:=zaW (hL _ _ ht) he;by_cases hnil:act.eval y=.slice none 0 0
 ·-- nothing is appended
  have hnews:news=[]:=by
   rcases hy'.lies s (zag st hy) with ⟨h,_⟩|⟨a,cap,sz,vs,h1,_⟩
   ·exact h
   ·rw[hnil] at h1;cases h1
  subst hnews;rcases hs with ⟨rfl,rfl,hp⟩|⟨rfl,all,hall,hp⟩
  ·exact absurd I (hne I)
  have hu:=zag st hx
  generalize h1:act.eval x=u at hu
  have sp:=s.perm hp;have hnd:=List.nodup_cons.1 (show(r::keys Hr).Nodup from sp.nodup)
  cases hu with
  |os _ _ _ _ cap hrr hcap hmax hroom=>
  have hb:=zcK (sp.ok _ aE);obtain⟨cur,g1,g3,g2,g4,g5⟩:=hb;have hle:elems.length≤all.length:=by
   have:=ai List.length hall;rw[be] at this;omega
  have hown:=zaS (fr:=fr) hp;have hat:At ((r,Blk.row e ei.size all)::Hr) r (.row e ei.size all) (.row e ei.size (elems++[])) ((r,.row e ei.size (elems++[]))::Hr):=.here;refine⟨w,.os r ei.size 0 (elems.length+[].length),act.eval x,(r,.row e ei.size (elems++[]))::Hr,.inl ?_,⟨r,hnd.1,I,I⟩,⟨sp.nodup,sp.apart,sp.old,fun p hp'=>?_⟩,?_,?_⟩
  ·simp only[execOp,resolve,invoke,builtin,Sem.run_bind,Sem.run_pure,Result.andThen_ok,bq,aU,bk,h1,hnil]
   have hroom0:elems.length+0≤cap:=by omega
   simp[Builtin.append_,run_underlying hund,sizeOf,typeInfo,hinfo,Builtin.lenOf,hcap,Builtin.firstCells,storeCells]
  ·rcases hat.cases' sp.nodup p hp' with rfl|⟨h2,_⟩
   ·refine za4 (vs:=(cur.toList.take (all.length*ei.size)).take (elems.length*ei.size)) g1 (fun i hi=>?_) ?_ ?_ (fun j u hj=>?_)
    ·simp only[aQ] at hi ⊢
     have:elems[i]=all[i]'(by omega):=by
      have h2:elems[i]?=(all.take elems.length)[i]?:=by rw[←hall]
      rw[List.getElem?_eq_getElem hi,List.getElem?_take,af hi,List.getElem?_eq_getElem (show i<all.length by omega)] at h2
      exact bU h2
     rw[this];exact g3 _ _
    ·rw[aQ]
     have e1:elems.flatten=all.flatten.take (elems.length*ei.size):=by
      have:=zcB (sz:=ei.size) all elems.length g3;rw[←hall] at this;exact this
     rw[e1];exact g4.take _
    ·rw[aQ,zay]
     intro q hq;rw[hall] at hq;obtain⟨l,hl1,hl2⟩:=List.mem_flatten.1 hq;exact zay.1 g5 q (List.mem_flatten.2 ⟨l,d8 hl1,hl2⟩)
    ·rw[List.getElem?_take] at hj
     split at hj
     ·rw[List.getElem?_take] at hj
      split at hj
      ·rw[Array.getElem?_toList] at hj;exact hj
      ·cases hj
     ·cases hj
   ·exact sp.ok p h2
  ·rw[h1]
   exact .os _ _ _ _ cap hrr (by simpa using hcap) hmax hroom
  ·refine⟨I,I,I,au _,fun _ _ _=>rfl,fun k hk=>.inl ?_,fun _ _ c _ f h=>⟨c,f,h,I⟩⟩
   exact(hp.map _).mem_iff.2 hk
 obtain⟨a,m,c,news',e1,e2,e3,e4,e5,e6⟩:∃(a:Addr) (m c:Nat) (vs:List Value),act.eval y=.slice (some a) m c∧m=news.length∧vs.length=m*info.size∧RepL w (own fr H) news.flatten vs∧zbt w a vs∧∀u∈vs,u.oneCell'=true:=by
  rcases hy'.lies s (zag st hy) with ⟨_,h⟩|⟨a,cap,sz,vs,h1,h2,h3,h4⟩
  ·exact absurd h hnil
  refine⟨a,_,cap,vs,h1,I,?_,h4.rep,h4.at_,fun u hu=>?_⟩
  ·rw[h4.rep.length,zcN hnl,hi1]
  ·obtain⟨j,hj⟩:=List.getElem?_of_mem hu
   have hlt:j<news.flatten.length:=by rw[←h4.rep.length];exact(List.getElem?_eq_some_iff.1 hj).1
   obtain⟨v,hv,hr⟩:=h4.rep.get j news.flatten[j] (by simp[List.getElem?_eq_getElem hlt]);rw[hj] at hv;cases hv;exact hr.one (zay.1 (RepL.flatLeaf hnf) _ (bz hlt))
 subst e2;have hnl1:news'.length=news.length*ei.size:=by rw[e3,hi1]
 have hexec:∀u,act.eval x=u→(execOp act.eval ⟨dst,.call {callee:=.builtin .append,args:=[x,y].toArray,argTypes:=[t,t].toArray},ty,pos,after,guard⟩).run P w=
   ((Builtin.append_ #[t,t] ty #[u,.slice (some a) news.length c]).run P w).andThen fun v w'=>.ok (.value v) w':=by
  intro u hu;simp only[execOp,resolve,invoke,builtin,Sem.run_bind,Sem.run_pure,Result.andThen_ok,bq,aU,bk,hu,e1]
 -- the new block's state
 have fresh:∀(olds:List Value) (old:Nat),RepL w (own fr H) elems.flatten olds→olds.length=elems.length*ei.size→zan elems.flatten=true→(∀i (hi:i<elems.length),elems[i].length=ei.size)→keys Hr ⊆ keys H→(∀p∈Hr,p∈H)→
   ∀(wn:World),wn=w.drew.alloc (.cells (olds.toArray++news'.toArray++Builtin.zeroCells zv.cells (grownCap w (elems.length+news.length) old e - (elems.length+news.length))) e)→
    (keys Hr).Nodup→Sim fr ((w.heap.size,.row e ei.size (elems++news))::Hr) wn∧Rep wn (own fr ((w.heap.size,.row e ei.size (elems++news))::Hr)) (.os w.heap.size ei.size 0 (elems.length+news.length)) (.slice (some ⟨w.heap.size,0,none⟩) (elems.length+news.length) (grownCap w (elems.length+news.length) old e))∧
    Ext H w ((w.heap.size,.row e ei.size (elems++news))::Hr) wn:=by
  intro olds old ho hol hlf helen hsub hmem wn hwn hnd;subst hwn;have hge:=grownCap_ge w (elems.length+news.length) old e;have hcm:=grownCap_le_maxLen w (elems.length+news.length) old e hb1;have hstay:Stays w (own fr H) (w.drew.alloc (.cells (olds.toArray++news'.toArray++Builtin.zeroCells zv.cells (grownCap w (elems.length+news.length) old e - (elems.length+news.length))) e)) (own fr ((w.heap.size,.row e ei.size (elems++news))::Hr)):=by
   refine⟨by simp,fun k hk _=>za3 w.drew _ k hk,fun k hk hn h=>?_,fun k hk c' T' f h=>?_⟩
   ·rcases h with h|h
    ·exact hn (.inl h)
    ·simp only[keys,aU,bx] at h
     rcases h with h|h
     ·omega
     ·exact hn (.inr (hsub h))
   ·have:=za3 w.drew (.cells (olds.toArray++news'.toArray++Builtin.zeroCells zv.cells (grownCap w (elems.length+news.length) old e - (elems.length+news.length))) e) k hk
    rw[this] at h;exact⟨c',f,h,I⟩
  have hsize:(olds.toArray++news'.toArray++Builtin.zeroCells zv.cells (grownCap w (elems.length+news.length) old e - (elems.length+news.length))).size=grownCap w (elems.length+news.length) old e*ei.size:=by
   simp only[Array.size_append,bR,zef,hzs,hol,hnl1,←b9];congr 1;omega
  refine⟨⟨?_,?_,?_,?_⟩,?_,?_⟩
  ·exact List.nodup_cons.2 ⟨fun h=>(zba s).1 (hsub h),hnd⟩
  ·intro k hk
   simp only[keys,aU,bx] at hk;rcases hk with rfl|hk
   ·exact(zba s).2
   ·exact s.apart k (hsub hk)
  ·intro k hk;have:=s.old k hk;simp;omega
  ·intro p hp
   rcases List.mem_cons.1 hp with rfl|hp
   ·refine za4 (vs:=olds++news') (heap_alloc_new w.drew _) (fun i hi=>?_) (by rw[zbo];exact(ho.append e4).mono hstay) (by rw[zbo];exact zbS hlf (RepL.flatLeaf hnf)) (fun j u hj=>?_)
    ·rw[db];split
     ·exact helen _ _
     ·exact hnl _ _
    ·have hlt:=(List.getElem?_eq_some_iff.1 hj).1
     rw[Array.getElem?_append_left (by simpa using hlt)];rw[←Array.getElem?_toList];simpa using hj
   ·exact(s.ok p (hmem p hp)).mono hstay (za3 w.drew _ _ (s.ok p (hmem p hp)).lt)
  ·have:=Rep.os (w:=w.drew.alloc (.cells (olds.toArray++news'.toArray++Builtin.zeroCells zv.cells (grownCap w (elems.length+news.length) old e - (elems.length+news.length))) e)) (own:=own fr ((w.heap.size,.row e ei.size (elems++news))::Hr))
    w.heap.size ei.size 0 (elems.length+news.length) (grownCap w (elems.length+news.length) old e) (by simp) hge hcm (fun c' T' f h=>by
     have hh:=heap_alloc_new w.drew (.cells (olds.toArray++news'.toArray++Builtin.zeroCells zv.cells (grownCap w (elems.length+news.length) old e - (elems.length+news.length))) e);have hh':(w.drew.alloc (.cells (olds.toArray++news'.toArray++Builtin.zeroCells zv.cells (grownCap w (elems.length+news.length) old e - (elems.length+news.length))) e)).heap[w.heap.size]?=some (.cells (olds.toArray++news'.toArray++Builtin.zeroCells zv.cells (grownCap w (elems.length+news.length) old e - (elems.length+news.length))) e):=hh;rw[hh'] at h;cases h;rw[aS,hsize])
   simpa using this
  ·refine⟨I,I,I,by simp,fun k hk _=>za3 w.drew _ k hk,fun k hk=>?_,hstay.shape⟩
   simp only[keys,aU,bx] at hk;rcases hk with rfl|hk
   ·exact .inr (au _)
   ·exact .inl (hsub hk)
 have hfitting:∀old,old<elems.length+news.length→Builtin.nextslicecap (elems.length+news.length) old*info.bytes≤281474976710656:=fun old ho=>by rw[hi2];exact growslice_fits ho hb2
 have h63:((elems.length+news.length:Nat):Int)≤9223372036854775807:=by simp only[maxLen] at hb1;omega
 rcases hs with ⟨rfl,rfl,hp⟩|⟨rfl,all,hall,hp⟩
 ·-- nil
  have hu:=zag st hx
  generalize h1:act.eval x=u at hu
  cases hu;have hn0:0<news.length:=List.length_pos_iff.2 (hne I);have hr:=run_append_nil (P:=P) w t ty e info zv hund hinfo hi3 a news.length c news' e3 e5 hn0 (by simpa using h63) (by have:=hfitting 0 (by simpa using hn0);rw[show([]:List (List A)).length+news.length=news.length by simp,nextslicecap_zero hn0] at this;exact this)
  obtain⟨f1,f2,f3⟩:=fresh [] 0 .nil (by simp) rfl (fun i hi=>by simp at hi) (fun k hk=>(hp.map _).mem_iff.2 hk) (fun p h=>hp.mem_iff.2 h) _ rfl (by have:=(s.perm hp).nodup;exact this)
  refine⟨_,_,_,_,.inl ?_,⟨w.heap.size,fun h=>(zba s).1 ((hp.map _).mem_iff.2 h),I,I⟩,f1,f2,f3⟩;rw[hexec _ h1,hr];simp
 ·-- a block of the call's own
  have hu:=zag st hx
  generalize h1:act.eval x=u at hu
  have hmemr:(r,Blk.row e ei.size all)∈H:=hp.mem_iff.2 aE;have sp:=s.perm hp;have hnd:=List.nodup_cons.1 (show(r::keys Hr).Nodup from sp.nodup)
  cases hu with
  |os _ _ _ _ cap hrr hcap hmax hroom=>
  obtain⟨cur,g1,g3,g2,g4,g5⟩:=zcK (s.ok _ hmemr);have hcs:=hroom _ _ _ g1;rw[aS] at hcs;have hle:elems.length≤all.length:=by
   have:=ai List.length hall;rw[be] at this;omega
  have helen:∀i (hi:i<elems.length),elems[i].length=ei.size:=by
   intro i hi;have:elems[i]=all[i]'(by omega):=by
    have h2:elems[i]?=(all.take elems.length)[i]?:=by rw[←hall]
    rw[List.getElem?_eq_getElem hi,List.getElem?_take,af hi,List.getElem?_eq_getElem (show i<all.length by omega)] at h2
    exact bU h2
   rw[this];exact g3 _ _
  have heflat:elems.flatten=all.flatten.take (elems.length*ei.size):=by
   have:=zcB (sz:=ei.size) all elems.length g3;rw[←hall] at this;exact this
  have hin:elems.length*ei.size≤all.length*ei.size:=bJ _ hle;have holds:RepL w (own fr H) elems.flatten (cur.toList.take (elems.length*ei.size)):=by
   rw[heflat];have:=g4.take (elems.length*ei.size);rw[List.take_take,Nat.min_eq_left hin] at this;exact this
  have hol:(cur.toList.take (elems.length*ei.size)).length=elems.length*ei.size:=by simp;omega
  have hlf:zan elems.flatten=true:=by
   rw[zay] at g5 ⊢;intro q hq;rw[heflat] at hq;exact g5 q (d8 hq)
  have hpk:keys Hr ⊆ keys H:=fun k hk=>(hp.map _).mem_iff.2 (aB _ hk);have hpm:∀p∈Hr,p∈H:=fun p h=>hp.mem_iff.2 (aB _ h);simp only[ce] at h1;by_cases hroom2:elems.length+news.length≤cap
  ·-- room
   have hfit:elems.length*info.size+news'.length≤cur.size:=by
    rw[hnl1,hi1,←b9,←hcs];exact bJ _ hroom2
   have hr:=run_append_room (P:=P) w t ty e info hund hinfo r elems.length cap cur g1 a news.length c news' e3 e5 e6 hroom2 hfit;have hsz:((cur.toList.take (elems.length*info.size)++news'++cur.toList.drop (elems.length*info.size+news'.length)).toArray).size=cur.size:=by
    simp only[bR,aT,be,ba,cQ];omega
   have hat:At ((r,Blk.row e ei.size all)::Hr) r (.row e ei.size all) (.row e ei.size (elems++news)) ((r,.row e ei.size (elems++news))::Hr):=.here;have hext:=Ext.write (c':=(cur.toList.take (elems.length*info.size)++news'++cur.toList.drop (elems.length*info.size+news'.length)).toArray) hat g1 hsz;have hstay:=hext.stays (fr:=fr);have hown:=zaS (fr:=fr) hp;refine⟨_,.os r ei.size 0 (elems.length+news.length),_,(r,.row e ei.size (elems++news))::Hr,.inl (by rw[hexec _ h1,hr];rfl),⟨r,hnd.1,I,I⟩,sp.write hat g1 hsz ?_,?_,hext.perm hp⟩
   ·refine za4 (vs:=cur.toList.take (elems.length*ei.size)++news') (setRow_heap w r cur _ e (0,0) g1) (fun i hi=>?_) ?_ (by rw[zbo];exact zbS hlf (RepL.flatLeaf hnf)) (fun j u hj=>?_)
    ·rw[db];split
     ·exact helen _ _
     ·exact hnl _ _
    ·rw[zbo]
     have:=holds.append e4;rw[hown] at this;exact this.mono hstay
    ·rw[List.getElem?_toArray,hi1,List.getElem?_append_left (by exact(List.getElem?_eq_some_iff.1 hj).1)]
     exact hj
   ·have:=Rep.os (w:=w.setRow r (cur.toList.take (elems.length*info.size)++news'++cur.toList.drop (elems.length*info.size+news'.length)).toArray) (own:=own fr ((r,.row e ei.size (elems++news))::Hr)) r ei.size 0 (elems.length+news.length) cap (by simpa using hrr) hroom2 hmax (fun c' T' f h=>by
     rw[setRow_heap w r cur _ e (0,0) g1] at h;cases h;rw[aS,hsz,hcs])
    simpa using this
  ·-- it grows
   have hcell:∀(j:Nat) (v:Value),(cur.toList.take (elems.length*ei.size))[j]?=some v→w.cell? ((⟨r,0,none⟩:Addr).add j)=some v:=by
    intro j v hj;rw[List.getElem?_take] at hj;split at hj
    ·rw[add_plain,aS,cell_of_row w r _ cur e (0,0) g1,←Array.getElem?_toList];exact hj
    ·cases hj
   have hr:=run_append_grow (P:=P) w t ty e info zv hund hinfo hi3 ⟨r,0,none⟩ elems.length cap (cur.toList.take (elems.length*ei.size)) (by rw[hol,hi1]) hcell a news.length c news' e3 e5 (by omega) h63 (hfitting cap (by omega));obtain⟨f1,f2,f3⟩:=fresh _ cap holds hol hlf helen hpk hpm _ rfl hnd.2;refine⟨_,_,_,_,.inl ?_,⟨w.heap.size,fun h=>(zba s).1 (hpk h),I,I⟩,f1,f2,f3⟩;rw[hexec _ h1,hr];rfl
end
def Sub(x y:A):Prop:=∀(w:World) (o:Nat→Prop) (v:Value),Rep w o x v→Rep w o y v
theorem Sub.refl(x:A):Sub x x:=fun _ _ _ h=>h
theorem Sub.nils:Sub .nils (.ds []):=fun _ _ _ h=>by cases h;exact .ds0
section
variable{P:Program}{N:NN}{Q:Exit→Env→Heap→Prop}{T:Env}{H:Heap}{ops rest:List Oper}{dst:Option Nat}{ty:TypeId}{pos:String}{after:Array Edge}{guard:Option (Nat×Bool)}{L:Lay}
theorem St.cast{w:World}{o:Nat→Prop}{T':Env}{a:Act}(h:∀t x',get T' t=some x'→∃x,get T t=some x∧Sub x x')(st:St N w o T a):St N w o T' a:=
 ⟨st.size,st.defers,st.glob,fun t x' hx=>let ⟨x,h1,h2⟩:=h t x' hx;let ⟨v,h3,h4⟩:=st.at_ t x h1;⟨v,h3,h2 _ _ _ h4⟩⟩
theorem AWp.cast{c:Code}{T':Env}(h:∀t x',get T' t=some x'→∃x,get T t=some x∧Sub x x')(k:AWp P N c Q T' H):AWp P N c Q T H:=⟨fun fr w a s st=>k.out fr w a s (st.cast h)⟩
theorem AOps.cast{T':Env}(h:∀t x',get T' t=some x'→∃x,get T t=some x∧Sub x x')(k:AOps P N ops rest Q T' H):AOps P N ops rest Q T H:=⟨fun fr w a s st=>k.out fr w a s (st.cast h)⟩
theorem AOps.sub{T':Env}(hs:∀t x,get T' t=some x→get T t=some x)(k:AOps P N ops rest Q T' H):AOps P N ops rest Q T H:=⟨fun fr w a s st=>k.out fr w a s (st.sub hs)⟩
theorem zfC{t:Nat}{x x':A}(hx:get T t=some x)(h:Sub x x'):∀u y,get ((t,x')::T) u=some y→∃x,get T u=some x∧Sub x y:=by
 intro u y hy;rw[zbc] at hy;by_cases htu:t=u
 ·subst htu
  rw[af I] at hy;cases hy;exact⟨x,hx,h⟩
 ·rw[ac htu] at hy
  exact⟨y,hy,Sub.refl y⟩
theorem AOps.slot{t:Nat}{x x':A}(hx:get T t=some x)(h:Sub x x')(k:AOps P N ops rest Q ((t,x')::T) H):AOps P N ops rest Q T H:=AOps.cast (zfC hx h) k
theorem AWp.slot{c:Code}{t:Nat}{x x':A}(hx:get T t=some x)(h:Sub x x')(k:AWp P N c Q ((t,x')::T) H):AWp P N c Q T H:=AWp.cast (zfC hx h) k
theorem AOps.drop{p:Nat×Blk}(k:AOps P N ops rest Q T H):AOps P N ops rest Q T (p::H):=by
 refine⟨fun fr w a s st=>?_⟩;refine zaT ?_ _ _ _ (k.out fr w a s.drop (st.mono (Stays.less fun _ h=>h.imp id (aB _))));rintro e a' w' ⟨T',H'',q,s',st',x'⟩;exact⟨T',H'',q,s',st',x'.drop⟩
theorem AOp.appendNil{t e:Nat}{x y:Operand}{news:List (List A)}{xv:A}{ti ei:TI}{Hr:Heap}(hL:zaq P L)(hx:ev T x=some .nils)(hy:ev T y=some xv)(ht:lay L t=some ti)(he:ti.td=.slice e)
  (hei:lay L e=some ei) (hpos:Nat.ble 1 ei.size=true) (hy':RowOf H xv news) (hp:H.Perm Hr∨∃p,H.Perm (p::Hr)) (hnl:∀i (hi:i<news.length),news[i].length=ei.size) (hnf:∀c∈news,zan c=true) (hne:news≠[])
  (hb1:news.length≤maxLen) (hb2:news.length*ei.bytes≤140737488355328) (hd:zah N dst=true)
  (k:∀r,r∉keys Hr→AOps P N ops rest Q (put dst (.os r ei.size 0 news.length) T) ((r,.row e ei.size news)::Hr)):
  AOp P N ops ⟨dst,.call {callee:=.builtin .append,args:=[x,y].toArray,argTypes:=[t,t].toArray},ty,pos,after,guard⟩ rest Q T H:=by
 have hs:=zev (dst:=dst) (ty:=ty) (pos:=pos) (after:=after) (guard:=guard) (N:=N) (r:=0) (elems:=[]) (Hr:=H) hL hx hy ht he hei (bi hpos) (.inl ⟨I,I,ar _⟩) hy' hnl hnf (fun _=>hne) (by simpa using hb1) (by simpa using hb2);refine AOp.sem hs hd ?_;rintro v H' ⟨r',h1,rfl,rfl⟩;simp only[br,aS,b7];rcases hp with hp|⟨p,hp⟩
 ·exact AOps.perm (hp.cons _) (k r' (fun h=>h1 ((hp.map _).mem_iff.2 h)))
 ·refine AOps.perm ((hp.cons _).trans (bX _ _ _)) (AOps.drop (k r' (fun h=>h1 ((hp.map _).mem_iff.2 (aB _ h)))))
theorem AOp.append{t e:Nat}{x y:Operand}{r n:Nat}{all news:List (List A)}{xv:A}{ti ei:TI}{H1 Hr:Heap}(hL:zaq P L)(hx:ev T x=some (.os r ei.size 0 n))(hy:ev T y=some xv)(ht:lay L t=some ti)(he:ti.td=.slice e)
  (hei:lay L e=some ei) (hpos:Nat.ble 1 ei.size=true) (hp:H.Perm ((r,.row e ei.size all)::H1)) (hn:n≤all.length) (hy':RowOf H xv news) (hr:H1.Perm Hr∨∃p,H1.Perm (p::Hr))
  (hnl:∀i (hi:i<news.length),news[i].length=ei.size) (hnf:∀c∈news,zan c=true)
  (hb1:n+news.length≤maxLen) (hb2:(n+news.length)*ei.bytes≤140737488355328) (hd:zah N dst=true)
  (k:∀r',r'∉keys Hr→AOps P N ops rest Q (put dst (.os r' ei.size 0 (n+news.length)) T) ((r',.row e ei.size (all.take n++news))::Hr)):
  AOp P N ops ⟨dst,.call {callee:=.builtin .append,args:=[x,y].toArray,argTypes:=[t,t].toArray},ty,pos,after,guard⟩ rest Q T H:=by
 have hlen:(all.take n).length=n:=by simp;omega
 have hs:=zev (dst:=dst) (ty:=ty) (pos:=pos) (after:=after) (guard:=guard) (N:=N) (r:=r) (elems:=all.take n) (Hr:=H1) hL hx hy ht he hei (bi hpos)
  (.inr ⟨by rw[hlen],all,by rw[hlen],hp⟩) hy' hnl hnf (fun h=>by cases h) (by rw[hlen];exact hb1) (by rw[hlen];exact hb2)
 refine AOp.sem hs hd ?_;rintro v H' ⟨r',h1,rfl,rfl⟩;rw[hlen];rcases hr with hr|⟨p,hr⟩
 ·exact AOps.perm (hr.cons _) (k r' (fun h=>h1 ((hr.map _).mem_iff.2 h)))
 ·refine AOps.perm ((hr.cons _).trans (bX _ _ _)) (AOps.drop (k r' (fun h=>h1 ((hr.map _).mem_iff.2 (aB _ h)))))
mutual
def fz(r sz:Nat)(elems:List (List A)):A→A
 |.os r' sz' off len=>match Nat.beq r' r,Nat.beq sz' sz,Nat.ble (off+len) elems.length with
  |true,true,true=>.ds ((elems.drop off).take len)
  |_,_,_=>.os r' sz' off len
 |.agg l=>.agg (fzL r sz elems l)
 |.tup l=>.tup (fzL r sz elems l)
 |a=>a
def fzL(r sz:Nat)(elems:List (List A)):List A→List A
 |[]=>[]
 |a::l=>fz r sz elems a::fzL r sz elems l
end
theorem zn3{fr:Nat→Prop}{w:World}{r Te sz off len:Nat}{elems:List (List A)}{Hr:Heap}{v:Value}(s:Sim fr ((r,.row Te sz elems)::Hr) w)(hle:off+len≤elems.length)
  (h:Rep w (own fr ((r,.row Te sz elems)::Hr)) (.os r sz off len) v):Rep w (own fr Hr) (.ds ((elems.drop off).take len)) v:=by
 have hst:Stays w (own fr ((r,.row Te sz elems)::Hr)) w (own fr Hr):=Stays.less fun _ h=>h.imp id (aB _);cases h with
 |os _ _ _ _ cap hr hcap hmax hroom=>
  have hlen:((elems.drop off).take len).length=len:=by simp;omega
  have:=Rep.ds_of (w:=w) (o:=own fr Hr) (elems:=(elems.drop off).take len) (a:=⟨r,off*sz,none⟩) (cap:=cap) (sz:=sz) (by rw[hlen];exact hcap) hmax (fun i e he=>by
   have he':elems[off+i]?=some e:=by
    rw[List.getElem?_take] at he;split at he
    ·rw[List.getElem?_drop] at he;exact he
    ·cases he
   obtain⟨vs,h1,h2,_,h4⟩:=s.elem aE he';refine⟨h4,vs,h1.mono hst,?_,fun _ h=>?_⟩
   ·rw[add_plain,←b9];exact h2
   ·rcases h with h|h
    ·exact s.apart r aE h
    ·exact(List.nodup_cons.1 (show(r::keys Hr).Nodup from s.nodup)).1 h)
  rw[hlen] at this;exact this
theorem zrR{fr:Nat→Prop}{w:World}{r Te sz:Nat}{elems:List (List A)}{Hr:Heap}(s:Sim fr ((r,.row Te sz elems)::Hr) w):
  (∀a v,Rep w (own fr ((r,.row Te sz elems)::Hr)) a v→Rep w (own fr Hr) (fz r sz elems a) v):=by
 have hst:Stays w (own fr ((r,.row Te sz elems)::Hr)) w (own fr Hr):=Stays.less fun _ h=>h.imp id (aB _);intro a v h
 induction h with
 |os r' sz' off len cap hr hcap hmax hroom=>
  simp only[fz];split
  ·rename_i h1 h2 h3
   have h1:=bB h1;have h2:=bB h2;subst h1;subst h2;exact zn3 s (bi h3) (.os _ _ _ _ cap hr hcap hmax hroom)
  ·exact(Rep.os r' sz' off len cap hr hcap hmax hroom:Rep w (own fr ((r,.row Te sz elems)::Hr)) _ _).mono hst
 |agg l cs vs hn hc _ ih=>
  simp only[fz];have:∀(l:List A) (vs:List Value),vs.length=l.length→(∀(i:Nat) (hi:i<l.length) (v:Value),vs[i]?=some v→Rep w (own fr Hr) (fz r sz elems l[i]) v)→RepL w (own fr Hr) (fzL r sz elems l) vs:=by
   intro l
   induction l with
   |nil=>intro vs h _;have:vs=[]:=bE h;subst this;exact .nil
   |cons a l ih=>
    intro vs h hh;cases vs with
    |nil=>simp at h
    |cons v vs=>exact .cons (hh 0 (by simp) v rfl) (ih vs (by simpa using h) fun i hi u hu=>hh (i+1) (by simpa using hi) u (by simpa using hu))
  have h2:=Rep.agg_of (this l cs.toList (by simpa using hn) fun i hi u hu=>by
   rw[Array.getElem?_toList,hc i hi] at hu;cases hu;exact ih i hi)
  simpa using h2
 |tup l cs vs hn hc _ ih=>
  simp only[fz];have:∀(l:List A) (vs:List Value),vs.length=l.length→(∀(i:Nat) (hi:i<l.length) (v:Value),vs[i]?=some v→Rep w (own fr Hr) (fz r sz elems l[i]) v)→RepL w (own fr Hr) (fzL r sz elems l) vs:=by
   intro l
   induction l with
   |nil=>intro vs h _;have:vs=[]:=bE h;subst this;exact .nil
   |cons a l ih=>
    intro vs h hh;cases vs with
    |nil=>simp at h
    |cons v vs=>exact .cons (hh 0 (by simp) v rfl) (ih vs (by simpa using h) fun i hi u hu=>hh (i+1) (by simpa using hi) u (by simpa using hu))
  have h2:=Rep.tup_of (this l cs.toList (by simpa using hn) fun i hi u hu=>by
   rw[Array.getElem?_toList,hc i hi] at hu;cases hu;exact ih i hi)
  simpa using h2
 |bool b=>exact .bool b
 |int k n hn=>exact .int k n hn
 |str l hm=>exact .str l hm
 |nilp=>exact .nilp
 |abs b o=>exact .abs b o
 |ptr r sz i o=>exact .ptr r sz i o
 |nils=>exact .nils
 |ds0=>exact .ds0
 |nilm=>exact .nilm
 |map r=>exact .map r
 |nilf=>exact .nilf
 |nili=>exact .nili
 |dp cells a vs hc h _=>exact(Rep.dp cells a vs hc h:Rep w (own fr ((r,.row Te sz elems)::Hr)) _ _).mono hst
 |ds els a cap sz' vs h1 h2 h3 h4 h5 _=>exact(Rep.ds els a cap sz' vs h1 h2 h3 h4 h5:Rep w (own fr ((r,.row Te sz elems)::Hr)) _ _).mono hst
 |fn f first cap fs cs us vs h1 h2 h3 h4 h5 h6 _ _=>exact(Rep.fn f first cap fs cs us vs h1 h2 h3 h4 h5 h6:Rep w (own fr ((r,.row Te sz elems)::Hr)) _ _).mono hst
 |iface t a v h _=>exact(Rep.iface t a v h:Rep w (own fr ((r,.row Te sz elems)::Hr)) _ _).mono hst
theorem AOp.sliceD{t e:Nat}{x:Operand}{lo hi:Option Operand}{elems:List (List A)}{l h:Int}{ti ei:TI}(hL:zaq P L)(hx:ev T x=some (.ds elems))(hl:bnd T 0 lo=some l)(hh:bnd T elems.length hi=some h)(ht:lay L t=some ti)(he:ti.td=.slice e)
  (hei:lay L e=some ei) (hsz:∀c∈elems,c.length=ei.size) (h0:0≤l) (h1:l≤h) (h2:h≤elems.length) (hd:zah N dst=true) (kk:AOps P N ops rest Q (put dst (.ds ((elems.drop l.toNat).take (h.toNat - l.toNat))) T) H):
  AOp P N ops ⟨dst,.slice t x lo hi none,ty,pos,after,guard⟩ rest Q T H:=
 AOp.pure (fun fr w act s st=>by
  have hund:=zaW (hL _ _ ht) he;rcases(zag st hx).ds_inv with ⟨rfl,h3⟩|⟨a,cap,sz,h3,h4,h5,h6⟩
  ·have hl0:l.toNat=0:=by simp at h2;omega
   have hb:=zbp (P:=P) (w:=w) (isS:=true) (len:=0) (cap:=0) st hl hh h0 h1 (by simpa using h2);have hh0:h.toNat=0:=by simp at h2;omega
   refine⟨.slice none 0 0,?_,?_⟩
   ·simp only[execOp,h3,Instr.sliceAt,Instr.slice,Sem.run_bind,Sem.run_pure,Result.andThen_ok,run_underlying hund,cq,hb,zaR (hL _ _ hei),hl0,hh0]
    rfl
   ·simp;exact .ds0
  ·have hb:=zbp (P:=P) (w:=w) (isS:=true) (len:=elems.length) (cap:=cap) st hl hh h0 h1 (by omega)
   refine⟨.slice (if cap=l.toNat then some a else some (a.add (l.toNat*ei.size))) (h.toNat - l.toNat) (cap - l.toNat),?_,?_⟩
   ·simp only[execOp,h3,Instr.sliceAt,Instr.slice,Sem.run_bind,Sem.run_pure,Result.andThen_ok,run_underlying hund,cq,hb,zaR (hL _ _ hei),bh]
   ·have hlen:((elems.drop l.toNat).take (h.toNat - l.toNat)).length=h.toNat - l.toNat:=by simp;omega
    by_cases hcl:cap=l.toNat
    ·rw[af hcl]
     have he0:(elems.drop l.toNat).take (h.toNat - l.toNat)=[]:=bE (by rw[hlen];omega);have:=Rep.ds_of (w:=w) (o:=own fr H) (elems:=(elems.drop l.toNat).take (h.toNat - l.toNat)) (a:=a) (cap:=cap - l.toNat) (sz:=sz) (by rw[hlen];omega) (by omega) (fun i e hi=>by rw[he0] at hi;simp at hi)
     rw[hlen] at this;exact this
    ·rw[ac hcl]
     have:=Rep.ds_of (w:=w) (o:=own fr H) (elems:=(elems.drop l.toNat).take (h.toNat - l.toNat)) (a:=a.add (l.toNat*ei.size)) (cap:=cap - l.toNat) (sz:=sz) (by rw[hlen];omega) (by omega) (fun i e hi=>by
      have hi':elems[l.toNat+i]?=some e:=by
       rw[List.getElem?_take] at hi;split at hi
       ·rw[List.getElem?_drop] at hi;exact hi
       ·cases hi
      obtain⟨k1,vs,k2,k3,k4⟩:=h6 _ _ hi';refine⟨k1,vs,k2,?_,by rw[zbU];exact k4⟩
      have hee:ei.size=sz:=by rw[←k1];exact(hsz e (List.mem_of_getElem? hi')).symm
      rw[zc6,hee,←b9];exact k3)
     rw[hlen] at this;exact this) hd kk
theorem AOp.sliceO{t e:Nat}{x:Operand}{lo hi:Option Operand}{r sz off len:Nat}{l h:Int}{ti ei:TI}(hL:zaq P L)(hx:ev T x=some (.os r sz off len))(hl:bnd T 0 lo=some l)(hh:bnd T len hi=some h)(ht:lay L t=some ti)(he:ti.td=.slice e)
  (hei:lay L e=some ei) (hsz:sz=ei.size) (h0:0≤l) (h1:l≤h) (h2:h≤len) (hlen:l=0∨l<len) (hd:zah N dst=true) (kk:AOps P N ops rest Q (put dst (.os r sz (off+l.toNat) (h.toNat - l.toNat)) T) H):
  AOp P N ops ⟨dst,.slice t x lo hi none,ty,pos,after,guard⟩ rest Q T H:=
 AOp.pure (fun fr w act s st=>by
  have hund:=zaW (hL _ _ ht) he;have hv:=zag st hx
  generalize h3:act.eval x=v at hv
  cases hv with
  |os _ _ _ _ cap hr hcap hmax hroom=>
  have hb:=zbp (P:=P) (w:=w) (isS:=true) (len:=len) (cap:=cap) st hl hh h0 h1 (by omega);refine⟨.slice (if cap=l.toNat then some ⟨r,off*sz,none⟩ else some ((⟨r,off*sz,none⟩:Addr).add (l.toNat*ei.size))) (h.toNat - l.toNat) (cap - l.toNat),?_,?_⟩
  ·simp only[execOp,h3,Instr.sliceAt,Instr.slice,Sem.run_bind,Sem.run_pure,Result.andThen_ok,run_underlying hund,cq,hb,zaR (hL _ _ hei),bh]
  ·have e1:(if cap=l.toNat then some (⟨r,off*sz,none⟩:Addr) else some ((⟨r,off*sz,none⟩:Addr).add (l.toNat*ei.size)))=some ⟨r,(off+l.toNat)*sz,none⟩:=by
    split
    ·rename_i hc
     have:l.toNat=0:=by omega
     rw[this];simp
    ·rw[add_plain,←hsz,←b9]
   rw[e1];exact .os r sz _ _ _ hr (by omega) (by omega) (fun c T f hc=>by
    have:=hroom c T f hc;rw[←this];congr 1;omega)) hd kk
theorem AOp.sliceEnd{t e:TypeId}{x:Operand}{lo hi:Option Operand}{r sz off len:Nat}{ti ei:TI}(hL:zaq P L)(hx:ev T x=some (.os r sz off len))(hl:bnd T 0 lo=some (len:Int))(hh:bnd T len hi=some (len:Int))(ht:lay L t=some ti)(he:ti.td=.slice e)(hei:lay L e=some ei)(hd:zah N dst=true)
  (kk:AOps P N ops rest Q (put dst (.ds []) T) H):AOp P N ops ⟨dst,.slice t x lo hi none,ty,pos,after,guard⟩ rest Q T H:=
 AOp.pure (fun fr w act s st=>by
  have hund:=zaW (hL _ _ ht) he;have hu:=zag st hx
  generalize h3:act.eval x=v at hu
  cases hu with
  |os _ _ _ _ cap hr hcap hmax hroom=>
  have hb:=zbp (P:=P) (w:=w) (isS:=true) (len:=len) (cap:=cap) st hl hh (by omega) (am _) (by omega);refine⟨.slice (if cap=len then some ⟨r,off*sz,none⟩ else some ((⟨r,off*sz,none⟩:Addr).add (len*ei.size))) 0 (cap - len),?_,?_⟩
  ·simp only[execOp,h3,Instr.sliceAt,Instr.slice,Sem.run_bind,Sem.run_pure,Result.andThen_ok,run_underlying hund,cq,hb,zaR (hL _ _ hei),bh,cT,Nat.sub_self]
  ·split
   ·exact Rep.ds [] _ _ 0 (fun _ _=>undef) (by simp) (by omega) (fun i hi=>absurd hi (bW i)) (fun i j hi=>absurd hi (bW i)) (fun i hi=>absurd hi (bW i))
   ·exact Rep.ds [] _ _ 0 (fun _ _=>undef) (by simp) (by omega) (fun i hi=>absurd hi (bW i)) (fun i j hi=>absurd hi (bW i)) (fun i hi=>absurd hi (bW i))) hd kk
end
def zaz(T:Env):Env→Prop
 |[]=>True
 |(k,v)::r=>get T k=some v∧zaz T r
theorem zaz.sub{T:Env}:∀{T':Env},zaz T T'→∀t x,get T' t=some x→get T t=some x
 |[],_,t,x,h=>by simp[get] at h
 |(k,v)::r,⟨h1,h2⟩,t,x,h=>by
  rw[zbc] at h;by_cases hk:k=t
  ·subst hk;rw[af I] at h;cases h;exact h1
  ·rw[ac hk] at h;exact zaz.sub h2 t x h
section
variable{P:Program}{N:NN}{Q:Exit→Env→Heap→Prop}{T:Env}{H:Heap}{ops rest:List Oper}{dst:Option Nat}{ty:TypeId}{pos:String}{after:Array Edge}{guard:Option (Nat×Bool)}{L:Lay}{K:Env→Heap→Prop}{id id':Nat}
theorem zae(h:K T H):seqQ K Q .normal T H:=h
theorem zoq(h:Nat.beq id' id=true)(k:Q .normal T H):zeS id Q (.exit id') T H:=by simp only[zeS,h];exact k
theorem znp(h:Nat.beq id' id=false)(k:Q (.exit id') T H):zeS id Q (.exit id') T H:=by simp only[zeS,h];exact k
theorem AWp.condT{c:Operand}{x y:Code}(hc:ev T c=some (.bool true))(h:AWp P N x Q T H):AWp P N (.cond c x y) Q T H:=AWp.cond hc (fun _=>h) (fun h=>by cases h)
theorem AWp.condF{c:Operand}{x y:Code}(hc:ev T c=some (.bool false))(h:AWp P N y Q T H):AWp P N (.cond c x y) Q T H:=AWp.cond hc (fun h=>by cases h) (fun _=>h)
theorem AOps.wanted{o:Oper}{j d:Nat}{b:Bool}(hg:o.guard=some (j,b))(hd:(ops[j]?).bind (·.dst)=some d)(ht:get T d=some (.bool b))(hdst:zah N o.dst=true)(h:AOp P N ops o rest Q T H):AOps P N ops (o::rest) Q T H:=
 AOps.guarded hg hd ht hdst (fun _=>h) (fun h=>by cases b<;>cases h)
theorem AOps.unwanted{o:Oper}{j d:Nat}{b b':Bool}(hg:o.guard=some (j,b))(hd:(ops[j]?).bind (·.dst)=some d)(ht:get T d=some (.bool b'))(hb:Bool.xor b b'=true)(hdst:zah N o.dst=true)(h:AOps P N ops rest Q (put o.dst (.tup []) T) H):AOps P N ops (o::rest) Q T H:=
 AOps.guarded hg hd ht hdst (fun h=>by subst h;cases b'<;>cases hb) (fun _=>h)
theorem AOps.unwantedU{o:Oper}{j d:Nat}{b:Bool}{l:List A}(hg:o.guard=some (j,b))(hd:(ops[j]?).bind (·.dst)=some d)(ht:get T d=some (.tup l))(hdst:zah N o.dst=true)(h:AOps P N ops rest Q (put o.dst (.tup []) T) H):AOps P N ops (o::rest) Q T H:=by
 refine⟨fun fr w a s st=>?_⟩;have hy:yielded ops.toArray a.tmps j=none:=by
  obtain⟨v,hv,hr⟩:=st.at_ d _ ht;cases hr;unfold yielded;simp only[List.getElem?_toArray,hd,cz,hv]
 unfold wpList;rw[ac (by simp[Region.wanted,hg,hy])];exact h.out fr w _ s (st.put hdst (Rep.tup_of .nil))
theorem AOps.boolCase{t:Nat}{b:Bool}(ht:get T t=some (.bool b))(h1:b=true→AOps P N ops rest Q ((t,.bool true)::T) H)(h2:b=false→AOps P N ops rest Q ((t,.bool false)::T) H):AOps P N ops rest Q T H:=by
 cases b with
 |true=>exact AOps.slot ht (Sub.refl _) (h1 rfl)
 |false=>exact AOps.slot ht (Sub.refl _) (h2 rfl)
theorem AOps.guardCase{o:Oper}{j d:Nat}{b b':Bool}(hg:o.guard=some (j,b))(hd:(ops[j]?).bind (·.dst)=some d)(ht:get T d=some (.bool b'))(h1:b'=true→AOps P N ops (o::rest) Q ((d,.bool true)::T) H)
  (h2:b'=false→AOps P N ops (o::rest) Q ((d,.bool false)::T) H):AOps P N ops (o::rest) Q T H:=AOps.boolCase ht h1 h2
theorem AOp.pickT{c x y:Operand}{v:A}(hc:ev T c=some (.bool true))(h:ev T x=some v)(hd:zah N dst=true)(k:AOps P N ops rest Q (put dst v T) H):
  AOp P N ops ⟨dst,.pick c x y,ty,pos,after,guard⟩ rest Q T H:=AOp.pick hc h hd k
theorem AOp.pickF{c x y:Operand}{v:A}(hc:ev T c=some (.bool false))(h:ev T y=some v)(hd:zah N dst=true)(k:AOps P N ops rest Q (put dst v T) H):
  AOp P N ops ⟨dst,.pick c x y,ty,pos,after,guard⟩ rest Q T H:=AOp.pick hc h hd k
theorem AOps.dropL:∀(G:Heap),AOps P N ops rest Q T H→AOps P N ops rest Q T (G++H)
 |[],k=>k
 |p::G,k=>AOps.drop (AOps.dropL G k)
theorem AWp.dropL{c:Code}:∀(G:Heap),AWp P N c Q T H→AWp P N c Q T (G++H)
 |[],k=>k
 |p::G,k=>AWp.drop (AWp.dropL G k)
def PTr(P:Program)(f:FuncId)(args:List A)(v:A):Prop:=Tr P f args [] fun r _=>r=v
theorem AOp.callP{callee:Operand}{args:List Operand}{ats:Array TypeId}{f:FuncId}{first cap as:List A}{v:A}(hf:ev T callee=some (.fn f first cap))(ha:evs T args=some as)(hd:zah N dst=true)
  (ht:PTr P f (first++as++cap) v) (k:AOps P N ops rest Q (put dst v T) H):
  AOp P N ops ⟨dst,.call {callee:=.value callee,args:=args.toArray,argTypes:=ats},ty,pos,after,guard⟩ rest Q T H:=
 AOp.callFn hf ha hd (ar ([]++H)) ht fun r H' h1=>by subst h1;exact AOps.dropL H' k
theorem PTr.of_body {N : Nat} {f : FuncId} {fn : Func} {c : Code} {args : List A} {v : A} (hf : P.funcs[f]? = some fn) (hb : fn.body = some c) (hn : (fn.name == "runtime.NumGoroutine") = false) (hN : args.length + (fn.ntmps - args.length) = N)
  (h:AWp P ⟨N,[],[]⟩ c (zkT P fn ⟨N,[],[]⟩ fun r _=>r=v) (zc9 0 args) []):PTr P f args v:=Tr.of_body hf hb hn hN h
theorem PTr.sub{f:FuncId}{args args':List A}{v:A}(h:PTr P f args v)(hs:∀(w:World) (o:Nat→Prop) (vs:List Value),RepL w o args' vs→RepL w o args vs):PTr P f args' v:=
 ⟨h.can,fun fr w vs s a=>h.run fr w vs s (hs w _ vs a)⟩
def za1(x:A)(φ:Prop):Prop:=∀(w:World) (o:Nat→Prop) (v:Value),Rep w o x v→φ
theorem za1.str(s:List UInt8):za1 (.str s) (s.length≤maxLen):=fun _ _ _ h=>by cases h;assumption
theorem za1.ds(l:List (List A)):za1 (.ds l) (l.length≤maxLen):=fun _ _ _ h=>by
 rcases h.ds_inv with ⟨rfl,_⟩|⟨a,cap,sz,_,h1,h2,_⟩
 ·simp
 ·omega
theorem za1.agg{l:List A}{x:A}{φ:Prop}(hx:x∈l)(h:za1 x φ):za1 (.agg l) φ:=fun w o v hr=>by
 obtain⟨cs,_,hl⟩:=hr.agg_inv;obtain⟨i,hi⟩:=List.getElem?_of_mem hx;obtain⟨u,_,hu⟩:=hl.get i x hi;exact h w o u hu
theorem AWp.know{c:Code}{t:Nat}{x:A}{φ:Prop}(ht:get T t=some x)(hk:za1 x φ)(h:φ→AWp P N c Q T H):AWp P N c Q T H:=
 ⟨fun fr w a s st=>by
  obtain⟨v,_,hr⟩:=st.at_ t _ ht;exact(h (hk _ _ _ hr)).out fr w a s st⟩
theorem nxt{k n:Nat}(h:k<n)(hn:n≤maxLen):A.int .i64 (IntKind.i64.wrap ((k:Int)+1))=.int .i64 ((k+1:Nat):Int):=by
 simp only[maxLen] at hn;congr 1;rw[IntKind.wrap_i64];omega
theorem AWp.loopM{α:Type}{c:Code}(μ:α→Nat)(E:α→Env)(G:α→Heap)(ok:α→Prop)(a0:α)(h0:ok a0)(hs:zaz T (E a0))(hH:H.Perm (G a0))
  (step:∀a,ok a→(∀b,ok b→μ b<μ a→AIn P N c Q (E b) (G b))→AWp P N c (seqQ (AIn P N c Q) Q) (E a) (G a)):AWp P N (.loop c) Q T H:=by
 have key:∀n a,μ a=n→ok a→AWp P N c (seqQ (AIn P N c Q) Q) (E a) (G a):=by
  intro n
  induction n using Nat.strongRecOn with
  |_ n ih=>exact fun a hn ha=>step a ha fun b hb hlt=>AIn.round (ih (μ b) (hn▸hlt) b rfl hb)
 exact AWp.sub hs.sub (AWp.perm hH (AIn.toRound (key _ a0 I h0)))
theorem zaa{fn:Func}{R:A→Heap→Prop}{r:A}(h:zac P fn N T H r)(k:R r H):zkT P fn N R .ret T H:=⟨r,h,k⟩
theorem zde{fn:Func}{R:A→Heap→Prop}{r:A}(h:zac P fn N T H r)(k:R r H):zkT P fn N R .normal T H:=⟨r,h,k⟩
theorem zhW{n:Int}(h1:-9223372036854775808≤n)(h2:n≤9223372036854775807):IntKind.i64.wrap n=n:=by rw[IntKind.wrap_i64];omega
end
section
variable{P:Program}{N:NN}{Q:Exit→Env→Heap→Prop}{T:Env}{H:Heap}{ops rest:List Oper}{dst:Option Nat}{ty:TypeId}{pos:String}{after:Array Edge}{guard:Option (Nat×Bool)}{L:Lay}
def zi6:A→TD→Option Bool
 |.nilp,.pointer _=>some true
 |.ptr _ _ _ _,.pointer _=>some false
 |.dp _,.pointer _=>some false
 |.nils,.slice _=>some true
 |.os _ _ _ _,.slice _=>some false
 |.nilm,.map _ _=>some true
 |.map _,.map _ _=>some false
 |.nilf,.func=>some true
 |.fn _ _ _,.func=>some false
 |_,_=>none
def zmJ:A→Bool
 |.nilp|.nils|.nilm|.nilf=>true
 |_=>false
theorem zk0{t:Nat}{i:TI}(h:TIOk P t i){e:Nat}(he:i.td=.pointer e):P.underlying t=some (.pointer e):=by
 obtain⟨d,h1,h2⟩:=h.und;rw[he] at h2;cases d<;>simp[tdOf] at h2
 subst h2;exact h1
theorem zqb{t:Nat}{i:TI}(h:TIOk P t i)(he:i.td=.func):∃a b c,P.underlying t=some (.func a b c):=by
 obtain⟨d,h1,h2⟩:=h.und;rw[he] at h2;cases d<;>simp[tdOf] at h2
 exact⟨_,_,_,h1⟩
theorem zcA(t:TypeId)(x y:Value):Op.equal t x y=Op.equalIn (9999+1) t x y:=rfl
def refV:Value→Bool
 |.pointer _|.slice _ _ _|.map _|.func _ _ _|.nilFunc=>true
 |_=>false
theorem zmB{w:World}{o:Nat→Prop}{x:A}{u:Value}{td:TD}(hu:Rep w o x u)(h:(zi6 x td).isSome=true):refV u=true:=by
 cases hu<;>first|rfl|(cases td<;>cases h)
theorem zdf{op:BinOp}{t:TypeId}{x y:Operand}{u v:Value}(h:refV u=true):eqGuard op t x y u v=Pure.pure ():=by
 cases u<;>first
  |exact eqGuard_at_pointer .. |exact eqGuard_at_slice .. |exact eqGuard_at_map .. |exact eqGuard_at_func .. |exact eqGuard_at_nilFunc .. |cases h
theorem zb5{t:TypeId}{u v:Value}(h:refV u=true)(k:refV v=true):binOp .eql t u v=(do Pure.pure (.bool (←Op.equal t u v))):=by
 cases u<;>first|(cases h;done)|(cases v<;>first|(cases k;done)|(simp only[binOp]))
theorem zed{t:TypeId}{u v:Value}(h:refV u=true)(k:refV v=true):binOp .neq t u v=(do Pure.pure (.bool (!(←Op.equal t u v)))):=by
 cases u<;>first|(cases h;done)|(cases v<;>first|(cases k;done)|(simp only[binOp]))
theorem znE(w:World)(d t e:Nat)(a:Option Addr)(h:P.underlying t=some (.pointer e)):(Op.equalIn (d+1) t (.pointer a) (.pointer none)).run P w=.ok a.isNone w:=by
 cases a<;>simp[Op.equalIn,run_underlying h]
theorem zep(w:World)(d t e:Nat)(a:Option Addr)(n c:Nat)(h:P.underlying t=some (.slice e)):(Op.equalIn (d+1) t (.slice a n c) (.slice none 0 0)).run P w=.ok a.isNone w:=by
 cases a<;>simp[Op.equalIn,run_underlying h]
theorem zoz(w:World)(d t k e:Nat)(a:Option Nat)(h:P.underlying t=some (.map k e)):(Op.equalIn (d+1) t (.map a) (.map none)).run P w=.ok a.isNone w:=by
 cases a<;>simp[Op.equalIn,run_underlying h]
theorem zp3(w:World)(d t:Nat)(f:Fn)(x y:Array Value){p q:Array Nat}{r:Bool}(h:P.underlying t=some (.func p q r)):(Op.equalIn (d+1) t (.func f x y) .nilFunc).run P w=.ok false w:=by
 simp[Op.equalIn,run_underlying h]
theorem zk5(w:World)(d t:Nat){p q:Array Nat}{r:Bool}(h:P.underlying t=some (.func p q r)):(Op.equalIn (d+1) t .nilFunc .nilFunc).run P w=.ok true w:=by
 simp[Op.equalIn,run_underlying h]
theorem zkL{t:Nat}{i:TI}(hi:TIOk P t i){w:World}{o:Nat→Prop}{x y:A}{u v:Value}{b:Bool}(hu:Rep w o x u)(hv:Rep w o y v)(hn:zi6 x i.td=some b)(hy:zmJ y=true)(hty:(zi6 y i.td).isSome=true):
  (Op.equal t u v).run P w=.ok b w:=by
 rw[zcA];cases htd:i.td with
 |pointer e=>
  rw[htd] at hn hty;cases hv<;>first|(cases hy;done)|(cases hty;done)|skip
  cases hu<;>first|(cases hn;done)|(cases hn;exact znE w 9999 t e _ (zk0 hi htd))
 |slice e=>
  rw[htd] at hn hty;cases hv<;>first|(cases hy;done)|(cases hty;done)|skip
  cases hu<;>first|(cases hn;done)|(cases hn;exact zep w 9999 t e _ _ _ (zaW hi htd))
 |map k e=>
  rw[htd] at hn hty;cases hv<;>first|(cases hy;done)|(cases hty;done)|skip
  cases hu<;>first|(cases hn;done)|(cases hn;exact zoz w 9999 t k e _ (zjL hi htd))
 |func=>
  rw[htd] at hn hty;obtain⟨p,q,r,hf⟩:=zqb hi htd;cases hv<;>first|(cases hy;done)|(cases hty;done)|skip
  cases hu<;>first|(cases hn;done)|(cases hn;exact zp3 w 9999 t _ _ _ hf)|(cases hn;exact zk5 w 9999 t hf)
 |_=>rw[htd] at hn;cases x<;>cases hn
theorem AOp.cmpNil{op:BinOp}{xt yt:TypeId}{x y:Operand}{p q r:A}{ti:TI}{b:Bool}(hL:zaq P L)(hx:ev T x=some p)(hy:ev T y=some q)(ht:lay L xt=some ti)(hn:zi6 p ti.td=some b)(hq:zmJ q=true)(hqt:(zi6 q ti.td).isSome=true)
  (h:(match op with|.eql=>some (A.bool b)|.neq=>some (A.bool !b)|_=>none)=some r) (hd:zah N dst=true) (kk:AOps P N ops rest Q (put dst r T) H):
  AOp P N ops ⟨dst,.binOp op xt x y yt,ty,pos,after,guard⟩ rest Q T H:=
 AOp.pure (fun fr w act _ st=>by
  have hu:=zag st hx;have hv:=zag st hy;have hq':=zkL (P:=P) (hL _ _ ht) hu hv hn hq hqt;have r1:=zmB hu (by rw[hn];rfl);have r2:=zmB hv hqt;cases op<;>simp only at h<;>first|(cases h;done)|skip
  ·cases h
   exact⟨.bool b,by simp only[execOp,zdf r1,Sem.run_bind,Sem.run_pure,Result.andThen_ok,zb5 r1 r2,hq'],.bool _⟩
  ·cases h
   exact⟨.bool !b,by simp only[execOp,zdf r1,Sem.run_bind,Sem.run_pure,Result.andThen_ok,zed r1 r2,hq'],.bool _⟩) hd kk
theorem AOp.min2{x y:Operand}{ats:Array TypeId}{k k':IntKind}{a b:Int}(hx:ev T x=some (.int k a))(hy:ev T y=some (.int k' b))(hk:k=k')(hd:zah N dst=true)(kk:AOps P N ops rest Q (put dst (.int k (if b<a then b else a)) T) H):
  AOp P N ops ⟨dst,.call {callee:=.builtin .min,args:=[x,y].toArray,argTypes:=ats},ty,pos,after,guard⟩ rest Q T H:=
 AOp.pure (fun fr w act _ st=>by
  have hu:=zag st hx;have hv:=zag st hy
  generalize h1:act.eval x=u at hu
  generalize h2:act.eval y=v at hv
  cases hu with|int _ _ ha=>
  cases hv with|int _ _ hb=>
  subst hk;exact⟨.int k (if b<a then b else a),by simp only[execOp,resolve,invoke,builtin,Sem.run_bind,Sem.run_pure,Result.andThen_ok,bq,aU,bk,h1,h2];simp[Builtin.min_,Builtin.min2],.int _ _ (by split;exact hb;exact ha)⟩) hd kk
theorem AOp.max2{x y:Operand}{ats:Array TypeId}{k k':IntKind}{a b:Int}(hx:ev T x=some (.int k a))(hy:ev T y=some (.int k' b))(hk:k=k')(hd:zah N dst=true)(kk:AOps P N ops rest Q (put dst (.int k (if b>a then b else a)) T) H):
  AOp P N ops ⟨dst,.call {callee:=.builtin .max,args:=[x,y].toArray,argTypes:=ats},ty,pos,after,guard⟩ rest Q T H:=
 AOp.pure (fun fr w act _ st=>by
  have hu:=zag st hx;have hv:=zag st hy
  generalize h1:act.eval x=u at hu
  generalize h2:act.eval y=v at hv
  cases hu with|int _ _ ha=>
  cases hv with|int _ _ hb=>
  subst hk;exact⟨.int k (if b>a then b else a),by simp only[execOp,resolve,invoke,builtin,Sem.run_bind,Sem.run_pure,Result.andThen_ok,bq,aU,bk,h1,h2];simp[Builtin.max_,Builtin.max2],.int _ _ (by split;exact hb;exact ha)⟩) hd kk
theorem AOp.makeSlice{t e:Nat}{x y:Operand}{k k':IntKind}{n:Nat}{ti ei:TI}(hL:zaq P L)(hx:ev T x=some (.int k n))(hy:ev T y=some (.int k' n))(ht:lay L t=some ti)(he:ti.td=.slice e)(hei:lay L e=some ei)
  (hpos:Nat.ble 1 ei.size=true) (hzl:Nat.beq ei.zero.length ei.size=true) (hl:zan ei.zero=true) (hb:ei.bytes*n≤281474976710656) (hm:n≤maxLen) (hd:zah N dst=true)
  (kk:∀r,r∉keys H→AOps P N ops rest Q (put dst (.os r ei.size 0 n) T) ((r,.row e ei.size (List.replicate n ei.zero))::H)):
  AOp P N ops ⟨dst,.makeSlice t x y,ty,pos,after,guard⟩ rest Q T H:=by
 have hpos:=bi hpos;have hzl:=bB hzl;refine AOp.sem (R:=fun v' H'=>∃r,r∉keys H∧v'=.os r ei.size 0 n∧H'=(r,.row e ei.size (List.replicate n ei.zero))::H) (fun fr w act s st=>?_) hd ?_
 ·have hu:=zag st hx
  have hv:=zag st hy
  generalize h1:act.eval x=u at hu
  generalize h2:act.eval y=v at hv
  cases hu;cases hv;obtain⟨info,z,hi0,hi1,hi2,hi3,hi4,hi5,_⟩:=(hL _ _ hei).info;have h63:((n:Nat):Int)≤9223372036854775807:=by simp only[maxLen] at hm;omega
  have hbb:(info.bytes:Int)*((n:Nat):Int)≤281474976710656:=by
   rw[hi2];have h:((ei.bytes*n:Nat):Int)≤281474976710656:=by omega
   rwa [Int.natCast_mul] at h
  have hr:=run_make (P:=P) w t e info z (zaW (hL _ _ ht) he) hi0 hi3 k k' n n (by omega) (am _) hbb h63;simp only[cT] at hr;have hmc:RepL w (own fr H) (rep n ei.zero) (madeCells z.cells (n*info.size)).toList:=by
   have:=zhy (w:=w) (o:=own fr H) (hi5 _ _) (by omega) n;rw[hi1,←hi4];exact this
  refine⟨w.alloc (.cells (madeCells z.cells (n*info.size)) e),.os w.heap.size ei.size 0 n,.slice (some ⟨w.heap.size,0,none⟩) n n,_,.inl ?_,⟨w.heap.size,(zba s).1,I,I⟩,s.new ?_,?_,Ext.new H w _ _⟩
  ·simp only[execOp,h1,h2,Sem.run_bind,hr,Result.andThen_ok,Sem.run_pure]
  ·refine za4 (vs:=(madeCells z.cells (n*info.size)).toList) (by rw[heap_alloc_new]) (fun i hi=>by rw[List.getElem_replicate];exact hzl) (hmc.mono (Ext.new H w _ (.row e ei.size (List.replicate n ei.zero))).stays) ?_ (fun j u hj=>by rw[Array.getElem?_toList] at hj;exact hj)
   refine RepL.flatLeaf fun c hc=>?_;rw[List.eq_of_mem_replicate hc];exact hl
  ·have:=Rep.os (w:=w.alloc (.cells (madeCells z.cells (n*info.size)) e)) (own:=own fr ((w.heap.size,.row e ei.size (List.replicate n ei.zero))::H)) w.heap.size ei.size 0 n n (by simp) (au _) hm (fun c' T' f h=>by
    rw[heap_alloc_new] at h;cases h;rw[aS,size_madeCells,hi1])
   simpa using this
 ·rintro v' H' ⟨r,h1,rfl,rfl⟩
  exact kk r h1
def zmz:TD→A→A→Option Bool
 |.int _,.int k a,.int k' b=>match decide (k=k') with|true=>some (a==b)|false=>none
 |.bool,.bool a,.bool b=>some (a==b)
 |.string,.str a,.str b=>some (a==b)
 |_,_,_=>none
def zbb(L:Lay):List (Nat×Nat)→List A→List A→Option Bool
 |[],_,_=>some true
 |(off,ft)::fs,xs,ys=>match lay L ft with
  |some fi=>match fi.td.isAgg,xs[off]?,ys[off]? with
   |false,some a,some b=>match zmz fi.td a b with
    |some c=>match zbb L fs xs ys with
     |some r=>some (c&&r)
     |none=>none
    |none=>none
   |_,_,_=>none
  |none=>none
theorem zgj{t:Nat}{fi:TI}(hti:TIOk P t fi){w:World}{o:Nat→Prop}{a b:A}{u v:Value}{c:Bool}(hu:Rep w o a u)(hv:Rep w o b v)(h:zmz fi.td a b=some c)(d:Nat):(Op.equalIn (d+1) t u v).run P w=.ok c w:=by
 cases htd:fi.td with
 |int k0=>
  rw[htd] at h;cases hu<;>first|(cases h;done)|skip
  cases hv<;>first|(cases h;done)|skip
  simp only[zmz] at h;split at h
  ·rename_i hk
   have hk:=aj hk;subst hk;cases h;exact run_equalIn_int w d t _ _ _ _ (zfV hti htd)
  ·cases h
 |bool=>
  rw[htd] at h;cases hu<;>first|(cases h;done)|skip
  cases hv<;>first|(cases h;done)|skip
  cases h;have hund:P.underlying t=some .bool:=by
   obtain⟨dd,e1,e2⟩:=hti.und;rw[htd] at e2;cases dd<;>simp[tdOf] at e2
   exact e1
  exact run_equalIn_bool' w d t _ _ hund
 |string=>
  rw[htd] at h;cases hu<;>first|(cases h;done)|skip
  rename_i s1 _;cases hv<;>first|(cases h;done)|skip
  rename_i s2 _;cases h;have:=run_equalIn_string (P:=P) w d t ⟨s1.toArray⟩ ⟨s2.toArray⟩ (zbf hti htd);rw[ByteArray.toList_mk,ByteArray.toList_mk] at this;exact this
 |_=>rw[htd] at h;cases a<;>cases h
def EqT (P : Program) (t : TypeId) : Prop := P.underlying t = some (.struct (P.fieldsOf t)) ∧ P.stoodInHeld t = false ∧ P.eqGuardType P.depth t = false ∧ ∀ f ∈ (P.fieldsOf t).toList, f.name ≠ "_"
theorem ze0 (hL : zaq P L) {w : World} {o : Nat → Prop} {xs ys : List A} {us vs : Array Value} (hx : RepL w o xs us.toList) (hy : RepL w o ys vs.toList) (d : Nat) : ∀ (fs : List Field) (r : Bool), (∀ f ∈ fs, f.name ≠ "_") → zbb L (fs.map fun f => (f.offset, f.type)) xs ys = some r →
  (Op.eqFields (d+1) us vs fs).run P w=.ok r w
 |[],r,_,h=>by cases h;rfl
 |f::fs,r,hn,h=>by
  simp only[aU,zbb] at h;split at h
  case h_2=>cases h
  rename_i fi hfi;split at h
  case h_2=>cases h
  rename_i a b hnag ha hb;split at h
  case h_2=>cases h
  rename_i c hc;split at h
  case h_2=>cases h
  rename_i r' hr';cases h;have ih:=ze0 hL hx hy d fs r' (fun g hg=>hn g (aB _ hg)) hr';obtain⟨u,hu,hru⟩:=zdz (hL _ _ hfi) hx (o:=f.offset) (v:=a) (by unfold zbw;rw[hnag];exact ha);obtain⟨v,hv,hrv⟩:=zdz (hL _ _ hfi) hy (o:=f.offset) (v:=b) (by unfold zbw;rw[hnag];exact hb);have heq:=zgj (P:=P) (hL _ _ hfi) hru hrv hc d;simp only[Op.eqFields];rw[af (hn f aE)];simp only[Sem.run_bind,hu,hv,heq,Result.andThen_ok,Sem.run_ite];cases c with
  |true=>simp only[Bool.not_true,bZ,bP,aZ];exact ih
  |false=>simp
theorem AOp.eqStruct{op:BinOp}{xt yt:TypeId}{x y:Operand}{xs ys:List A}{r:A}{ti:TI}{fs:List (Nat×Nat)}{b:Bool}(hL:zaq P L)(hE:EqT P xt)(hx:ev T x=some (.agg xs))(hy:ev T y=some (.agg ys))(ht:lay L xt=some ti)(htd:ti.td=.struct fs)
  (hb:zbb L fs xs ys=some b) (h:(match op with|.eql=>some (A.bool b)|.neq=>some (A.bool !b)|_=>none)=some r) (hd:zah N dst=true) (kk:AOps P N ops rest Q (put dst r T) H):
  AOp P N ops ⟨dst,.binOp op xt x y yt,ty,pos,after,guard⟩ rest Q T H:=
 AOp.pure (fun fr w act _ st=>by
  obtain⟨us,h1,hu⟩:=(zag st hx).agg_inv;obtain⟨vs,h2,hv⟩:=(zag st hy).agg_inv;obtain⟨g,e1,rfl⟩:=zdo (hL _ _ ht) htd;obtain⟨f1,f2,f3,f4⟩:=hE;have hg:P.fieldsOf xt=g:=by rw[e1] at f1;cases f1;rfl
  have hfe:=ze0 hL hu hv 9998 g.toList b (by rw[←hg];exact f4) hb;have hq:(Op.equalIn 10000 xt (.agg us) (.agg vs)).run P w=.ok b w:=by
   rw[show(10000:Nat)=9999+1 from rfl,run_equalIn_struct w 9999 xt us vs f1 f2,hg];exact hfe
  cases op<;>simp only at h<;>first|(cases h;done)|skip
  ·cases h
   exact⟨.bool b,by simp only[execOp,h1,h2,Sem.run_bind,Sem.run_pure,Result.andThen_ok,run_eqGuard_agg w .eql xt x y us vs f3,run_eql_struct,hq],.bool _⟩
  ·cases h
   exact⟨.bool !b,by simp only[execOp,h1,h2,Sem.run_bind,Sem.run_pure,Result.andThen_ok,run_eqGuard_agg w .neq xt x y us vs f3,run_neq_struct,hq],.bool _⟩) hd kk
theorem zaY{t:Nat}{i:TI}(h:TIOk P t i):P.cellsOf t=i.size:=by
 obtain⟨n,z,h1,h2,_⟩:=h.info;simp[Program.cellsOf,h1,h2]
def znI(n e sz:Nat):List (Nat×Nat):=(List.range n).map fun i=>(i*sz,e)
def EqG(P:Program)(t:TypeId):Prop:=P.eqGuardType P.depth t=false
theorem zfT(hL:zaq P L){w:World}{o:Nat→Prop}{xs ys:List A}{us vs:Array Value}(hx:RepL w o xs us.toList)(hy:RepL w o ys vs.toList)(d:Nat){e:Nat}{ei:TI}(hei:lay L e=some ei):∀(is:List Nat) (r:Bool),zbb L (is.map fun i=>(i*ei.size,e)) xs ys=some r→
  (Op.eqItems (d+1) e ei.size us vs is).run P w=.ok r w
 |[],r,h=>by cases h;rfl
 |i::is,r,h=>by
  simp only[aU,zbb,hei] at h;split at h
  case h_2=>cases h
  rename_i a b hnag ha hb;split at h
  case h_2=>cases h
  rename_i c hc;split at h
  case h_2=>cases h
  rename_i r' hr';cases h;have ih:=zfT hL hx hy d hei is r' hr';obtain⟨u,hu,hru⟩:=zdz (hL _ _ hei) hx (o:=i*ei.size) (v:=a) (by unfold zbw;rw[hnag];exact ha);obtain⟨v,hv,hrv⟩:=zdz (hL _ _ hei) hy (o:=i*ei.size) (v:=b) (by unfold zbw;rw[hnag];exact hb);have heq:=zgj (P:=P) (hL _ _ hei) hru hrv hc d;simp only[Op.eqItems];simp only[Sem.run_bind,hu,hv,heq,Result.andThen_ok,Sem.run_ite];cases c with
  |true=>simp only[Bool.not_true,bZ,bP,aZ];exact ih
  |false=>simp
theorem AOp.eqArray{op:BinOp}{xt yt:TypeId}{x y:Operand}{xs ys:List A}{r:A}{ti ei:TI}{n e:Nat}{b:Bool}(hL:zaq P L)(hE:EqG P xt)(hx:ev T x=some (.agg xs))(hy:ev T y=some (.agg ys))(ht:lay L xt=some ti)(htd:ti.td=.array n e)(hei:lay L e=some ei)
  (hb:zbb L (znI n e ei.size) xs ys=some b) (h:(match op with|.eql=>some (A.bool b)|.neq=>some (A.bool !b)|_=>none)=some r) (hd:zah N dst=true) (kk:AOps P N ops rest Q (put dst r T) H):
  AOp P N ops ⟨dst,.binOp op xt x y yt,ty,pos,after,guard⟩ rest Q T H:=
 AOp.pure (fun fr w act _ st=>by
  obtain⟨us,h1,hu⟩:=(zag st hx).agg_inv;obtain⟨vs,h2,hv⟩:=(zag st hy).agg_inv;have e1:=ze8 (hL _ _ ht) htd;obtain⟨info,z,hi0,hi1,_⟩:=(hL _ _ hei).info;have hfe:=zfT hL hu hv 9998 hei (List.range n) b hb;have hq:(Op.equalIn 10000 xt (.agg us) (.agg vs)).run P w=.ok b w:=by
   rw[show(10000:Nat)=9999+1 from rfl,run_equalIn_array w 9999 us vs e1 hi0,zaY (hL _ _ hei)];exact hfe
  cases op<;>simp only at h<;>first|(cases h;done)|skip
  ·cases h
   exact⟨.bool b,by simp only[execOp,h1,h2,Sem.run_bind,Sem.run_pure,Result.andThen_ok,run_eqGuard_agg w .eql xt x y us vs hE,run_eql_struct,hq],.bool _⟩
  ·cases h
   exact⟨.bool !b,by simp only[execOp,h1,h2,Sem.run_bind,Sem.run_pure,Result.andThen_ok,run_eqGuard_agg w .neq xt x y us vs hE,run_neq_struct,hq],.bool _⟩) hd kk
theorem AOp.sliceData{x:Operand}{ats:Array TypeId}{r sz off len:Nat}(hx:ev T x=some (.os r sz off len))(hl:0<len)(hd:zah N dst=true)(kk:AOps P N ops rest Q (put dst (.ptr r sz off 0) T) H):
  AOp P N ops ⟨dst,.call {callee:=.builtin .unsafeSliceData,args:=[x].toArray,argTypes:=ats},ty,pos,after,guard⟩ rest Q T H:=
 AOp.pure (fun fr w act _ st=>by
  have hu:=zag st hx
  generalize h1:act.eval x=u at hu
  cases hu with
  |os _ _ _ _ cap hrr hcap hmax hroom=>
  have hc:cap≠0:=by omega
  exact⟨.pointer (some ⟨r,off*sz+0,none⟩),by simp only[execOp,resolve,invoke,builtin,Sem.run_bind,Sem.run_pure,Result.andThen_ok,bq,aU,bk,h1,Lib.run_unsafeSliceData_row w _ _ _ _ _ hc];simp,.ptr _ _ _ _⟩) hd kk
theorem AOp.sliceDataN{x:Operand}{ats:Array TypeId}(hx:ev T x=some .nils)(hd:zah N dst=true)(kk:AOps P N ops rest Q (put dst .nilp T) H):
  AOp P N ops ⟨dst,.call {callee:=.builtin .unsafeSliceData,args:=[x].toArray,argTypes:=ats},ty,pos,after,guard⟩ rest Q T H:=
 AOp.pure (fun fr w act _ st=>by
  have hu:=zag st hx
  generalize h1:act.eval x=u at hu
  cases hu;exact⟨.pointer none,by simp only[execOp,resolve,invoke,builtin,Sem.run_bind,Sem.run_pure,Result.andThen_ok,bq,aU,bk,h1,Lib.run_unsafeSliceData_nil w _ _ _ _],.nilp⟩) hd kk
end
def zbD:TD→Bool
 |.iface=>true
 |_=>false
def zq5(i:TI):A:=if i.td.isAgg then .agg i.zero else i.zero.headD default
theorem zo2{P:Program}{t:Nat}{i:TI}(h:TIOk P t i)(he:zbD i.td=true):∃ms,P.underlying t=some (.interface ms):=by
 obtain⟨d,h1,h2⟩:=h.und;have he:i.td=.iface:=by cases hd:i.td<;>simp[hd,zbD] at he ⊢
 rw[he] at h2;cases d<;>simp[tdOf] at h2
 exact⟨_,h1⟩
theorem zer{P:Program}{t:Nat}{i:TI}(h:TIOk P t i)(he:zbD i.td=false):∃d,P.underlying t=some d∧∀ms,d≠ .interface ms:=by
 obtain⟨d,h1,h2⟩:=h.und;refine⟨d,h1,fun ms e=>?_⟩;subst e;rw[←h2] at he;simp[tdOf,zbD] at he
def nilI:A→Option Bool
 |.iface _ _=>some false
 |.nili=>some true
 |_=>none
section
variable{P:Program}{N:NN}{Q:Exit→Env→Heap→Prop}{T:Env}{H:Heap}{ops rest:List Oper}{L:Lay}{dst:Option Nat}{ty:TypeId}{pos:String}{after:Array Edge}{guard:Option (Nat×Bool)}
theorem AOp.mkIface{xt:TypeId}{x:Operand}{v:A}{ti:TI}(hL:zaq P L)(hx:ev T x=some v)(ht:lay L xt=some ti)(hi:zbD ti.td=false)(hd:zah N dst=true)(kk:AOps P N ops rest Q (put dst (.iface xt v) T) H):
  AOp P N ops ⟨dst,.makeInterface xt x,ty,pos,after,guard⟩ rest Q T H:=
 AOp.pure (fun fr w act _ st=>by
  have hu:=zag st hx;obtain⟨d,h1,h2⟩:=zer (hL _ _ ht) hi;refine⟨.iface xt (act.eval x),?_,.iface _ _ _ hu⟩;simp only[execOp,Instr.makeInterface,Sem.run_bind,run_underlying h1,Result.andThen_ok];cases d<;>first|exact absurd I (h2 _)|rfl) hd kk
def ifcV:Value→Bool
 |.iface _ _|.nilIface=>true
 |_=>false
theorem zgK{t:TypeId}{u:Value}(h:ifcV u=true):binOp .eql t u .nilIface=(do Pure.pure (.bool (←Op.equal t u .nilIface))):=by
 cases u<;>first|(cases h;done)|(simp only[binOp])
theorem zhl{t:TypeId}{u:Value}(h:ifcV u=true):binOp .neq t u .nilIface=(do Pure.pure (.bool (!(←Op.equal t u .nilIface)))):=by
 cases u<;>first|(cases h;done)|(simp only[binOp])
theorem zh7{op:BinOp}{t:TypeId}{x:Operand}{u:Value}(h:ifcV u=true):eqGuard op t x (.const .nilIface) u .nilIface=Pure.pure ():=by
 unfold eqGuard;cases u<;>first|(cases h;done)|(split<;>rfl)|(split<;>simp)
def nilV:Value→Option Bool
 |.nilIface=>some true
 |.iface _ _=>some false
 |_=>none
theorem zm1{w:World}{t d:Nat}{ms:Array (String×TypeId)}{u:Value}{b:Bool}(h:P.underlying t=some (.interface ms))(hb:nilV u=some b):(Op.equalIn (d+1) t u .nilIface).run P w=.ok b w:=by
 cases u<;>first|(cases hb;done)|(cases hb;simp[Op.equalIn,run_underlying h])
theorem znX{w:World}{t:TypeId}{ms:Array (String×TypeId)}{u:Value}{b:Bool}(h:P.underlying t=some (.interface ms))(hb:nilV u=some b):(Op.equal t u .nilIface).run P w=.ok b w:=by
 rw[zcA];exact zm1 h hb
theorem AOp.cmpIface{op:BinOp}{xt yt:TypeId}{x:Operand}{p r:A}{ti:TI}{b:Bool}(hL:zaq P L)(hx:ev T x=some p)(ht:lay L xt=some ti)(hi:zbD ti.td=true)(hb:nilI p=some b)
  (h:(match op with|.eql=>some (A.bool b)|.neq=>some (A.bool !b)|_=>none)=some r) (hd:zah N dst=true) (kk:AOps P N ops rest Q (put dst r T) H):
  AOp P N ops ⟨dst,.binOp op xt x (.const .nilIface) yt,ty,pos,after,guard⟩ rest Q T H:=
 AOp.pure (fun fr w act _ st=>by
  have hu:=zag st hx;obtain⟨ms,h1⟩:=zo2 (hL _ _ ht) hi
  generalize hxe:act.eval x=u at hu
  have hc:act.eval (.const .nilIface)=.nilIface:=rfl;have k1:ifcV u=true:=by cases p<;>first|(cases hb;done)|(cases hu;rfl)
  have k2:nilV u=some b:=by cases p<;>first|(cases hb;done)|(cases hu;exact hb)
  have k3:=znX (w:=w) h1 k2;cases op<;>simp only at h<;>first|(cases h;done)|skip
  ·cases h
   exact⟨.bool b,by simp only[execOp,hxe,hc,zh7 k1,Sem.run_bind,Sem.run_pure,Result.andThen_ok,zgK k1,k3],.bool _⟩
  ·cases h
   exact⟨.bool !b,by simp only[execOp,hxe,hc,zh7 k1,Sem.run_bind,Sem.run_pure,Result.andThen_ok,zhl k1,k3],.bool _⟩) hd kk
theorem AOp.assertHit{xt t:TypeId}{x:Operand}{v:A}{ti:TI}(hL:zaq P L)(hx:ev T x=some (.iface t v))(ht:lay L t=some ti)(hi:zbD ti.td=false)(hd:zah N dst=true)(kk:AOps P N ops rest Q (put dst (.tup [v,.bool true]) T) H):
  AOp P N ops ⟨dst,.typeAssert x xt t true,ty,pos,after,guard⟩ rest Q T H:=
 AOp.pure (fun fr w act _ st=>by
  have hu:=zag st hx
  generalize hxe:act.eval x=u at hu
  cases hu with|iface _ _ v' hv=>
  obtain⟨d,h1,h2⟩:=zer (hL _ _ ht) hi;refine⟨.tuple #[v',.bool true],?_,Rep.tup_of (.cons hv (.cons (.bool _) .nil))⟩;simp only[execOp,hxe,Instr.typeAssert,Sem.run_bind,run_underlying h1,Result.andThen_ok];cases d<;>first|exact absurd I (h2 _)|simp) hd kk
theorem AOp.assertMiss{xt t:TypeId}{x:Operand}{p:A}{ti:TI}(hL:zaq P L)(hx:ev T x=some p)(hp:p=.nili∨∃t' v,p=.iface t' v∧Nat.beq t' t=false)(ht:lay L t=some ti)(hi:zbD ti.td=false)(hd:zah N dst=true)
  (kk:AOps P N ops rest Q (put dst (.tup [zq5 ti,.bool false]) T) H):
  AOp P N ops ⟨dst,.typeAssert x xt t true,ty,pos,after,guard⟩ rest Q T H:=
 AOp.pure (fun fr w act _ st=>by
  have hu:=zag st hx
  generalize hxe:act.eval x=u at hu
  obtain⟨d,h1,h2⟩:=zer (hL _ _ ht) hi;obtain⟨z,hz,_,_,hz4⟩:=zdv (hL _ _ ht) w;refine⟨.tuple #[z,.bool false],?_,Rep.tup_of (.cons (hz4 w _) (.cons (.bool _) .nil))⟩;rcases hp with rfl|⟨t',v,rfl,hne⟩
  ·cases hu
   simp only[execOp,hxe,Instr.typeAssert,Sem.run_bind,run_underlying h1,Result.andThen_ok];cases d<;>first|exact absurd I (h2 _)|simp[hz]
  ·cases hu with|iface _ _ v' hv=>
   have hne:t'≠t:=by intro e;subst e;simp at hne
   simp only[execOp,hxe,Instr.typeAssert,Sem.run_bind,run_underlying h1,Result.andThen_ok];cases d<;>first|exact absurd I (h2 _)|simp[hz,hne]) hd kk
def encL(n:Int):List UInt8:=(Utf8.encode n).data.toList
theorem zoL(n:Int):(encL n).length≤maxLen:=by
 have key:∀c:Nat,(if c<0x80 then (⟨#[UInt8.ofNat c]⟩:ByteArray) else if c<0x800 then ⟨#[UInt8.ofNat (0xC0+c / 64),UInt8.ofNat (0x80+c%64)]⟩
   else if c<0x10000 then ⟨#[UInt8.ofNat (0xE0+c / 4096),UInt8.ofNat (0x80+c / 64%64),UInt8.ofNat (0x80+c%64)]⟩
   else ⟨#[UInt8.ofNat (0xF0+c / 262144),UInt8.ofNat (0x80+c / 4096%64),UInt8.ofNat (0x80+c / 64%64),UInt8.ofNat (0x80+c%64)]⟩).data.toList.length≤maxLen:=by
  intro c;by_cases h1:c<0x80
  ·rw[af h1];exact(by decide:1≤maxLen)
  ·rw[ac h1]
   by_cases h2:c<0x800
   ·rw[af h2];exact(by decide:2≤maxLen)
   ·rw[ac h2]
    by_cases h3:c<0x10000
    ·rw[af h3];exact(by decide:3≤maxLen)
    ·rw[ac h3];exact(by decide:4≤maxLen)
 exact key _
theorem AOp.convStr{src dt:TypeId}{x:Operand}{k:IntKind}{a:Int}{i j:TI}(hL:zaq P L)(hx:ev T x=some (.int k a))(hs:lay L src=some i)(hj:lay L dt=some j)(ht:j.td=.string)(hd:zah N dst=true)
  (kk:AOps P N ops rest Q (put dst (.str (encL a)) T) H):AOp P N ops ⟨dst,.convert src dt x,ty,pos,after,guard⟩ rest Q T H:=
 AOp.pure (fun fr w act _ st=>by
  have hu:=zag st hx
  generalize h1:act.eval x=u at hu
  cases hu;obtain⟨d,hd1,_⟩:=(hL _ _ hs).und;refine⟨.string (Utf8.encode a),?_,?_⟩
  ·simp only[execOp,h1,convert,Sem.run_bind,run_underlying hd1,run_underlying (zbf (hL _ _ hj) ht),Result.andThen_ok]
   rfl
  ·have:=Rep.str (w:=w) (own:=own fr H) (encL a) (zoL a)
   unfold encL at this;rw[Array.toArray_toList] at this;exact this) hd kk
end
noncomputable def gA(c:Prop)(x:Option A):Option A:=@ite _ c (Classical.propDecidable c) x none
theorem zf7{c:Prop}{x:Option A}(h:c):gA c x=x:=by unfold gA;rw[af h]
theorem zct{c:Prop}{x:Option A}{v:A}(h:gA c x=some v):c∧x=some v:=by
 unfold gA at h;split at h
 ·rename_i hc;exact⟨hc,h⟩
 ·cases h
noncomputable def sOp(L:Lay)(T:Env):Op→Option A
 |.move x|.assign x=>ev T x
 |.binOp op xt x (.const .nilIface) _=>match lay L xt with
  |some ti=>match zbD ti.td with
   |true=>match ev T x with
    |some p=>match nilI p with
     |some b=>(match op with|.eql=>some (A.bool b)|.neq=>some (A.bool !b)|_=>none)
     |none=>none
    |none=>none
   |false=>none
  |none=>none
 |.binOp op xt x y _=>match ev T x with
  |some (.int k a)=>match ev T y with
   |some (.int k' b)=>match decide (k=k') with
    |true=>binI op k a b
    |false=>none
   |_=>none
  |some (.str a)=>match ev T y with
   |some (.str b)=>binS op a b
   |_=>none
  |some (.bool a)=>match ev T y with
   |some (.bool b)=>match lay L xt with
    |some ⟨.bool,_,_,_⟩=>(match op with|.eql=>some (A.bool (a==b))|.neq=>some (A.bool !(a==b))|_=>none)
    |_=>none
   |_=>none
  |some p=>match ev T y with
   |some q=>match lay L xt with
    |some ti=>match zi6 p ti.td,zmJ q,(zi6 q ti.td).isSome with
     |some b,true,true=>(match op with|.eql=>some (A.bool b)|.neq=>some (A.bool !b)|_=>none)
     |_,_,_=>none
    |none=>none
   |none=>none
  |none=>none
 |.unOp .not _ x=>match ev T x with
  |some (.bool b)=>some (.bool (!b))
  |_=>none
 |.unOp .neg _ x=>match ev T x with
  |some (.int k a)=>some (.int k (k.wrap (0 - a)))
  |_=>none
 |.extract x i=>match ev T x with
  |some (.tup l)=>l[i]?
  |_=>none
 |.fieldAddr t x f=>match lay L t with
  |some ⟨.struct fs,_,_,_⟩=>match fs[f]? with
   |some (off,ft)=>match lay L ft with
    |some fi=>match Nat.beq fi.size 0 with
     |true=>none
     |false=>match ev T x with
      |some (.ptr r sz i o)=>some (.ptr r sz i (o+off))
      |some (.dp cells)=>some (.dp (cells.drop off))
      |_=>none
    |none=>none
   |none=>none
  |_=>none
 |.load t x=>match ev T x with
  |some (.dp cells)=>match lay L t with
   |some ti=>zbw ti cells 0
   |none=>none
  |_=>none
 |.field t x f=>match ev T x with
  |some (.agg cells)=>match lay L t with
   |some ⟨.struct fs,_,_,_⟩=>match fs[f]? with
    |some (off,ft)=>match lay L ft with
     |some fi=>zbw fi cells off
     |none=>none
    |none=>none
   |_=>none
  |_=>none
 |.call {callee:=.builtin .len,args:=⟨[x]⟩,argTypes:=⟨[t]⟩}=>match lay L t with
  |some ti=>match ev T x with
   |some v=>match (match ti.td with|.string=>true|.slice _=>true|_=>false),zqf ti.td v with
    |true,true=>match lenA v with
     |some n=>some (.int .i64 n)
     |none=>none
    |_,_=>none
   |none=>none
  |none=>none
 |.pick c a b=>match ev T c with
  |some (.bool true)=>ev T a
  |some (.bool false)=>ev T b
  |_=>none
 |.convert src dt x=>match ev T x with
  |some (.int _ a)=>match lay L src with
   |some _=>match lay L dt with
    |some ⟨.int k',_,_,_⟩=>some (.int k' (k'.wrap a))
    |some ⟨.string,_,_,_⟩=>some (.str (encL a))
    |_=>none
   |none=>none
  |_=>none
 |.nilCheck x=>match ev T x with
  |some (.ptr r sz i o)=>some (.ptr r sz i o)
  |some (.dp cells)=>some (.dp cells)
  |_=>none
 |.indexAddr t x ix=>match lay L t with
  |some ⟨.slice e,_,_,_⟩=>match lay L e with
   |some ei=>match ev T ix with
    |some (.int _ j)=>match ev T x with
     |some (.ds elems)=>gA (0≤j) (match elems[j.toNat]? with
      |some c=>gA (c.length=ei.size) (some (.dp c))
      |none=>none)
     |some (.os r sz off len)=>gA (0≤j∧j<len∧sz=ei.size) (some (.ptr r sz (off+j.toNat) 0))
     |_=>none
    |_=>none
   |none=>none
  |some ⟨.array n e,_,_,_⟩=>match lay L e with
   |some ei=>match ev T ix with
    |some (.int _ j)=>match ev T x with
     |some (.ptr r sz i o)=>gA (0≤j∧j<n) (some (.ptr r sz i (o+j.toNat*ei.size)))
     |_=>none
    |_=>none
   |none=>none
  |_=>none
 |.index t x ix=>match lay L t with
  |some ⟨.string,_,_,_⟩=>match ev T x with
   |some (.str s)=>match ev T ix with
    |some (.int _ j)=>gA (0≤j) (match s[j.toNat]? with
     |some b=>some (.int .u8 b.toNat)
     |none=>none)
    |_=>none
   |_=>none
  |some ⟨.array n e,_,_,_⟩=>match lay L e with
   |some ei=>match ev T x with
    |some (.agg cells)=>match ev T ix with
     |some (.int _ j)=>gA (0≤j∧j<n) (zbw ei cells (j.toNat*ei.size))
     |_=>none
    |_=>none
   |none=>none
  |_=>none
 |.slice t x lo hi none=>match lay L t with
  |some ⟨.string,_,_,_⟩=>match ev T x with
   |some (.str s)=>match bnd T 0 lo,bnd T s.length hi with
    |some l,some h=>gA (0≤l∧l≤h∧h≤s.length) (some (.str ((s.drop l.toNat).take (h.toNat - l.toNat))))
    |_,_=>none
   |_=>none
  |some ⟨.slice e,_,_,_⟩=>match lay L e with
   |some ei=>match ev T x with
    |some (.ds elems)=>match bnd T 0 lo,bnd T elems.length hi with
     |some l,some h=>gA ((∀c∈elems,c.length=ei.size)∧0≤l∧l≤h∧h≤elems.length) (some (.ds ((elems.drop l.toNat).take (h.toNat - l.toNat))))
     |_,_=>none
    |some (.os r sz off len)=>match bnd T 0 lo,bnd T len hi with
     |some l,some h=>@ite _ (l=(len:Int)∧h=(len:Int)∧0<l) (Classical.propDecidable _) (some (.ds [])) (gA (sz=ei.size∧0≤l∧l≤h∧h≤len∧(l=0∨l<len)) (some (.os r sz (off+l.toNat) (h.toNat - l.toNat))))
     |_,_=>none
    |_=>none
   |none=>none
  |_=>none
 |.call {callee:=.builtin .min,args:=⟨[x,y]⟩,argTypes:=_}=>match ev T x with
  |some (.int k a)=>match ev T y with
   |some (.int k' b)=>match decide (k=k') with
    |true=>some (.int k (if b<a then b else a))
    |false=>none
   |_=>none
  |_=>none
 |.call {callee:=.builtin .max,args:=⟨[x,y]⟩,argTypes:=_}=>match ev T x with
  |some (.int k a)=>match ev T y with
   |some (.int k' b)=>match decide (k=k') with
    |true=>some (.int k (if b>a then b else a))
    |false=>none
   |_=>none
  |_=>none
 |.makeFunc (.func f) ⟨first⟩ ⟨cap⟩=>match evs T first,evs T cap with
  |some l,some m=>some (.fn f l m)
  |_,_=>none
 |.build t ⟨parts⟩=>match zcl T parts with
  |some ps=>match lay L t with
   |some ⟨.struct fs,_,_,z⟩=>match fs.all fun f=>(lay L f.2).isSome with
    |true=>match zmW L fs z ps with
     |some out=>some (.agg out)
     |none=>none
    |false=>none
   |some ⟨.array _ e,_,_,z⟩=>match lay L e with
    |some ei=>match zhU ei.size z ps with
     |some out=>some (.agg out)
     |none=>none
    |none=>none
   |_=>none
  |none=>none
 |.call {callee:=.builtin .unsafeSliceData,args:=⟨[x]⟩,argTypes:=_}=>match ev T x with
  |some (.os r sz off len)=>gA (0<len) (some (.ptr r sz off 0))
  |some .nils=>some .nilp
  |_=>none
 |.makeInterface xt x=>match lay L xt with
  |some ti=>match zbD ti.td with
   |false=>match ev T x with
    |some v=>some (.iface xt v)
    |none=>none
   |true=>none
  |none=>none
 |.typeAssert x _ t true=>match lay L t with
  |some ti=>match zbD ti.td with
   |false=>match ev T x with
    |some (.iface t' v)=>match Nat.beq t' t with
     |true=>some (.tup [v,.bool true])
     |false=>some (.tup [zq5 ti,.bool false])
    |some .nili=>some (.tup [zq5 ti,.bool false])
    |_=>none
   |true=>none
  |none=>none
 |_=>none
section
variable{P:Program}{N:NN}{Q:Exit→Env→Heap→Prop}{T:Env}{H:Heap}{ops rest:List Oper}{L:Lay}
theorem AOp.simple{o:Oper}{v:A}(hL:zaq P L)(h:sOp L T o.op=some v)(hd:zah N o.dst=true)(k:AOps P N ops rest Q (put o.dst v T) H):AOp P N ops o rest Q T H:=by
 obtain⟨dst,op,ty,pos,after,guard⟩:=o;simp only at h hd k;unfold sOp at h;split at h
 ·exact AOp.move h hd k
 ·exact AOp.assign h hd k
 ·split at h
  ·rename_i ht
   split at h
   ·rename_i hi
    split at h
    ·rename_i hx
     split at h
     ·rename_i hb
      exact AOp.cmpIface hL hx ht hi hb h hd k
     ·cases h
    ·cases h
   ·cases h
  ·cases h
 ·split at h
  ·rename_i k' a hx
   split at h
   ·rename_i k'' b hy
    split at h
    ·rename_i hk
     have hk:=aj hk;subst hk;exact AOp.binI hx hy h hd k
    ·cases h
   ·cases h
  ·rename_i a hx
   split at h
   ·rename_i b hy
    exact AOp.binS hx hy h hd k
   ·cases h
  ·rename_i a hx
   split at h
   ·rename_i b hy
    split at h
    ·rename_i ht
     exact AOp.binB hL hx hy ht I h hd k
    ·cases h
   ·cases h
  ·rename_i hx
   split at h
   ·rename_i hy
    split at h
    ·rename_i ht
     split at h
     ·rename_i hn hq hqt
      exact AOp.cmpNil hL hx hy ht hn hq hqt h hd k
     ·cases h
    ·cases h
   ·cases h
  ·cases h
 ·split at h
  ·rename_i b hx
   cases h;exact AOp.not hx hd k
  ·cases h
 ·split at h
  ·rename_i k' a hx
   cases h;exact AOp.unI hx I hd k
  ·cases h
 ·split at h
  ·rename_i l hx
   exact AOp.extract hx h hd k
  ·cases h
 ·split at h
  ·rename_i fs s b z ht
   split at h
   ·rename_i off ft hf
    split at h
    ·rename_i fi hfi
     split at h
     ·cases h
     ·rename_i hz
      split at h
      ·rename_i hx
       cases h;exact AOp.fieldAddr hL hx ht I hf hfi hz hd k
      ·rename_i hx
       cases h;exact AOp.fieldAddrD hL hx ht I hf hfi hz hd k
      ·cases h
    ·cases h
   ·cases h
  ·cases h
 ·split at h
  ·rename_i hx
   split at h
   ·rename_i ht
    exact AOp.loadD hL hx ht h hd k
   ·cases h
  ·cases h
 ·split at h
  ·rename_i hx
   split at h
   ·rename_i ht
    split at h
    ·rename_i hf
     split at h
     ·rename_i hfi
      exact AOp.field hL hx ht I hf hfi h hd k
     ·cases h
    ·cases h
   ·cases h
  ·cases h
 ·split at h
  ·rename_i ht
   split at h
   ·rename_i hx
    split at h
    ·rename_i h1 h2
     split at h
     ·rename_i hn
      cases h;exact AOp.len hL hx ht h1 h2 hn hd k
     ·cases h
    ·cases h
   ·cases h
  ·cases h
 ·split at h
  ·rename_i hc
   exact AOp.pickT hc h hd k
  ·rename_i hc
   exact AOp.pickF hc h hd k
  ·cases h
 ·split at h
  ·rename_i hx
   split at h
   ·rename_i hs
    split at h
    ·rename_i hj
     cases h;exact AOp.convI hL hx hs hj I hd k
    ·rename_i hj
     cases h;exact AOp.convStr hL hx hs hj I hd k
    ·cases h
   ·cases h
  ·cases h
 ·split at h
  ·rename_i hx
   cases h;exact AOp.nilCheckP hx hd k
  ·rename_i hx
   cases h;exact AOp.nilCheckD hx hd k
  ·cases h
 ·-- indexAddr
  split at h
  ·rename_i ht
   split at h
   ·rename_i hei
    split at h
    ·rename_i hi
     split at h
     ·rename_i hx
      obtain⟨h0,h⟩:=zct h;split at h
      ·rename_i hc
       obtain⟨hsz,h⟩:=zct h;cases h;exact AOp.indexAddrD hL hx hi ht I hei h0 hc hsz hd k
      ·cases h
     ·rename_i hx
      obtain⟨h0,h⟩:=zct h;cases h;exact AOp.indexAddrO hL hx hi ht I hei h0.1 h0.2.1 h0.2.2 hd k
     ·cases h
    ·cases h
   ·cases h
  ·rename_i ht
   split at h
   ·rename_i hei
    split at h
    ·rename_i hi
     split at h
     ·rename_i hx
      obtain⟨h0,h⟩:=zct h;cases h;exact AOp.indexAddrA hL hx hi ht I hei h0.1 h0.2 hd k
     ·cases h
    ·cases h
   ·cases h
  ·cases h
 ·-- index
  split at h
  ·rename_i ht
   split at h
   ·rename_i hx
    split at h
    ·rename_i hi
     obtain⟨h0,h⟩:=zct h;split at h
     ·rename_i hb
      cases h;exact AOp.indexS hL hx hi ht I h0 hb hd k
     ·cases h
    ·cases h
   ·cases h
  ·rename_i ht
   split at h
   ·rename_i hei
    split at h
    ·rename_i hx
     split at h
     ·rename_i hi
      obtain⟨h0,h⟩:=zct h;exact AOp.indexA hL hx hi ht I hei h0.1 h0.2 h hd k
     ·cases h
    ·cases h
   ·cases h
  ·cases h
 ·-- slice
  split at h
  ·rename_i ht
   split at h
   ·rename_i hx
    split at h
    ·rename_i hl hh
     obtain⟨h0,h⟩:=zct h;cases h;exact AOp.sliceS hL hx hl hh ht I h0.1 h0.2.1 h0.2.2 hd k
    ·cases h
   ·cases h
  ·rename_i ht
   split at h
   ·rename_i hei
    split at h
    ·rename_i hx
     split at h
     ·rename_i hl hh
      obtain⟨h0,h⟩:=zct h;cases h;exact AOp.sliceD hL hx hl hh ht I hei h0.1 h0.2.1 h0.2.2.1 h0.2.2.2 hd k
     ·cases h
    ·rename_i hx
     split at h
     ·rename_i hl hh
      split at h
      ·rename_i he
       obtain⟨rfl,rfl,_⟩:=he;cases h;exact AOp.sliceEnd hL hx hl hh ht I hei hd k
      obtain⟨h0,h⟩:=zct h;cases h;exact AOp.sliceO hL hx hl hh ht I hei h0.1 h0.2.1 h0.2.2.1 h0.2.2.2.1 h0.2.2.2.2 hd k
     ·cases h
    ·cases h
   ·cases h
  ·cases h
 ·split at h
  ·rename_i hx
   split at h
   ·rename_i hy
    split at h
    ·rename_i hk
     cases h;exact AOp.min2 hx hy (aj hk) hd k
    ·cases h
   ·cases h
  ·cases h
 ·split at h
  ·rename_i hx
   split at h
   ·rename_i hy
    split at h
    ·rename_i hk
     cases h;exact AOp.max2 hx hy (aj hk) hd k
    ·cases h
   ·cases h
  ·cases h
 ·split at h
  ·rename_i h1 h2
   cases h;exact AOp.makeFunc h1 h2 hd k
  ·cases h
 ·split at h
  ·rename_i hp
   split at h
   ·rename_i ht
    split at h
    ·rename_i hfl
     split at h
     ·rename_i ho
      cases h;exact AOp.build hL hp ht I hfl ho hd k
     ·cases h
    ·cases h
   ·rename_i ht
    split at h
    ·rename_i hei
     split at h
     ·rename_i ho
      cases h;exact AOp.buildA hL hp ht I hei ho hd k
     ·cases h
    ·cases h
   ·cases h
  ·cases h
 ·split at h
  ·rename_i hx
   obtain⟨h0,h⟩:=zct h;cases h;exact AOp.sliceData hx h0 hd k
  ·rename_i hx
   cases h;exact AOp.sliceDataN hx hd k
  ·cases h
 ·split at h
  ·rename_i ht
   split at h
   ·rename_i hi
    split at h
    ·rename_i hx
     cases h;exact AOp.mkIface hL hx ht hi hd k
    ·cases h
   ·cases h
  ·cases h
 ·split at h
  ·rename_i ht
   split at h
   ·rename_i hi
    split at h
    ·rename_i hx
     split at h
     ·rename_i he
      have he:=bB he;subst he;cases h;exact AOp.assertHit hL hx ht hi hd k
     ·rename_i he
      cases h;exact AOp.assertMiss hL hx (.inr ⟨_,_,I,he⟩) ht hi hd k
    ·rename_i hx
     cases h;exact AOp.assertMiss hL hx (.inl I) ht hi hd k
    ·cases h
   ·cases h
  ·cases h
 ·cases h
theorem AOps.simple{o:Oper}{v:A}(hL:zaq P L)(hg:o.guard=none)(h:sOp L T o.op=some v)(hd:zah N o.dst=true)(k:AOps P N ops rest Q (put o.dst v T) H):AOps P N ops (o::rest) Q T H:=
 AOps.plain hg (AOp.simple hL h hd k)
theorem AOps.simpleW{o:Oper}{v:A}{j d:Nat}{b:Bool}(hL:zaq P L)(hg:o.guard=some (j,b))(hdj:(ops[j]?).bind (·.dst)=some d)(ht:get T d=some (.bool b))(h:sOp L T o.op=some v)(hd:zah N o.dst=true)(k:AOps P N ops rest Q (put o.dst v T) H):AOps P N ops (o::rest) Q T H:=
 AOps.wanted hg hdj ht hd (AOp.simple hL h hd k)
theorem zad{t e:Nat}{x ix:Operand}{elems:List (List A)}{k:IntKind}{j:Int}{c:List A}{ti ei:TI}(hx:ev T x=some (.ds elems))(hi:ev T ix=some (.int k j))(ht:lay L t=some ti)(he:ti.td=.slice e)
  (hei:lay L e=some ei) (h0:0≤j) (hc:elems[j.toNat]?=some c) (hsz:c.length=ei.size):sOp L T (.indexAddr t x ix)=some (.dp c):=by
 obtain⟨td,s,b,z⟩:=ti;simp only at he;subst he;simp only[sOp,ht,hei,hi,hx];rw[zf7 h0];simp only[hc];rw[zf7 hsz]
theorem zaN{t e:Nat}{x ix:Operand}{r sz off len:Nat}{k:IntKind}{j:Int}{ti ei:TI}(hx:ev T x=some (.os r sz off len))(hi:ev T ix=some (.int k j))(ht:lay L t=some ti)(he:ti.td=.slice e)
  (hei:lay L e=some ei) (h0:0≤j) (hj:j<len) (hsz:sz=ei.size):sOp L T (.indexAddr t x ix)=some (.ptr r sz (off+j.toNat) 0):=by
 obtain⟨td,s,b,z⟩:=ti;simp only at he;subst he;simp only[sOp,ht,hei,hi,hx];rw[zf7 ⟨h0,hj,hsz⟩]
theorem zaC{t e n:Nat}{x ix:Operand}{r sz i o:Nat}{k:IntKind}{j:Int}{ti ei:TI}(hx:ev T x=some (.ptr r sz i o))(hi:ev T ix=some (.int k j))(ht:lay L t=some ti)(he:ti.td=.array n e)
  (hei:lay L e=some ei) (h0:0≤j) (hj:j<n):sOp L T (.indexAddr t x ix)=some (.ptr r sz i (o+j.toNat*ei.size)):=by
 obtain⟨td,s,b,z⟩:=ti;simp only at he;subst he;simp only[sOp,ht,hei,hi,hx];rw[zf7 ⟨h0,hj⟩]
theorem zb7{t:Nat}{x ix:Operand}{s:List UInt8}{k:IntKind}{j:Int}{b:UInt8}{ti:TI}(hx:ev T x=some (.str s))(hi:ev T ix=some (.int k j))(ht:lay L t=some ti)(he:ti.td=.string)
  (h0:0≤j) (hb:s[j.toNat]?=some b):sOp L T (.index t x ix)=some (.int .u8 b.toNat):=by
 obtain⟨td,sz,by_,z⟩:=ti;simp only at he;subst he;simp only[sOp,ht,hi,hx];rw[zf7 h0];simp only[hb]
theorem zfl{t:Nat}{x:Operand}{lo hi:Option Operand}{s:List UInt8}{l h:Int}{ti:TI}(hx:ev T x=some (.str s))(hl:bnd T 0 lo=some l)(hh:bnd T s.length hi=some h)(ht:lay L t=some ti)(he:ti.td=.string)
  (h0:0≤l) (h1:l≤h) (h2:h≤s.length):sOp L T (.slice t x lo hi none)=some (.str ((s.drop l.toNat).take (h.toNat - l.toNat))):=by
 obtain⟨td,sz,by_,z⟩:=ti;simp only at he;subst he;simp only[sOp,ht,hx,hl,hh];rw[zf7 ⟨h0,h1,h2⟩]
theorem znZ{t e:Nat}{x:Operand}{lo hi:Option Operand}{elems:List (List A)}{l h:Int}{ti ei:TI}(hx:ev T x=some (.ds elems))(hl:bnd T 0 lo=some l)(hh:bnd T elems.length hi=some h)(ht:lay L t=some ti)(he:ti.td=.slice e)
  (hei:lay L e=some ei) (hsz:∀c∈elems,c.length=ei.size) (h0:0≤l) (h1:l≤h) (h2:h≤elems.length):sOp L T (.slice t x lo hi none)=some (.ds ((elems.drop l.toNat).take (h.toNat - l.toNat))):=by
 obtain⟨td,sz,by_,z⟩:=ti;simp only at he;subst he;simp only[sOp,ht,hei,hx,hl,hh];rw[zf7 ⟨hsz,h0,h1,h2⟩]
end
def zaj(T:Env):List Nat→Env
 |[]=>[]
 |t::ts=>match get T t with
  |some v=>(t,v)::zaj T ts
  |none=>zaj T ts
theorem zc8(T:Env):∀(ts:List Nat) (t:Nat) (x:A),get (zaj T ts) t=some x→get T t=some x
 |[],t,x,h=>by simp[zaj,get] at h
 |u::ts,t,x,h=>by
  simp only[zaj] at h;split at h
  ·rename_i v hv
   rw[zbc] at h;by_cases hut:u=t
   ·subst hut;rw[af I] at h;cases h;exact hv
   ·rw[ac hut] at h;exact zc8 T ts t x h
  ·exact zc8 T ts t x h
theorem zcX{T T':Env}:∀(ts:List Nat),(∀t∈ts,get T t=get T' t)→zaj T ts=zaj T' ts
 |[],_=>rfl
 |t::ts,h=>by
  simp only[zaj];rw[h t aE,zcX ts fun u hu=>h u (aB _ hu)]
def za6(ops:Array Oper)(T:Env)(o:Oper):Option Bool:=
 match o.guard with
 |none=>some true
 |some (j,b)=>match (ops[j]?).bind (·.dst) with
  |none=>none
  |some d=>match get T d with
   |some (.bool b')=>some (b'==b)
   |some (.tup _)=>some false
   |_=>none
theorem zki{N:NN}{w:World}{ow:Nat→Prop}{T:Env}{a:Act}{ops:Array Oper}{o:Oper}{c:Bool}(st:St N w ow T a)(h:za6 ops T o=some c):Region.wanted o (yielded ops a.tmps)=c:=by
 unfold za6 at h;unfold Region.wanted;split at h
 ·rename_i hg;cases h;rw[hg]
 ·rename_i j b hg
  rw[hg];split at h
  ·cases h
  ·rename_i d hd
   split at h
   ·rename_i b' hb
    cases h;obtain⟨v,hv,hr⟩:=st.at_ d _ hb;cases hr;simp only[yielded,hd,cz,hv];cases b<;>cases b'<;>rfl
   ·rename_i l hb
    cases h;obtain⟨v,hv,hr⟩:=st.at_ d _ hb;cases hr;simp only[yielded,hd,cz,hv];cases b<;>rfl
   ·cases h
def cls(o:Oper):Nat:=
 match o.op with
 |.load .. |.lookup .. |.call {callee:=.value _,.. }|.call {callee:=.invoke _ _,.. }=>1
 |.move _|.assign _|.pick .. |.build .. |.binOp .. |.unOp .. |.nilCheck _|.makeFunc .. |.fieldAddr .. |.field .. |.indexAddr .. |.index .. |.extract .. |.slice .. |.makeInterface .. =>0
 |.convert .. =>0
 |.call {callee:=.builtin b,.. }=>match b with
  |.len|.min|.max|.cap|.unsafeSliceData=>0
  |_=>2
 |_=>2
def zci(x y:Oper):Bool:=match cls x,cls y with
 |2,0|0,2|0,0|0,1|1,0|1,1=>true
 |_,_=>false
def anc(ops:List Oper):List Nat:=
 ops.foldl (fun acc o=>acc++[o.after.toList.foldl (fun s e=>match Region.binds .any e with|true=>s|||2^e.on|||acc.getD e.on 0|false=>s) 0]) []
def chk(ops:List Oper):Bool:=
 let b:=anc ops
 Region.noSelect ops.toArray&&
 ops.zipIdx.all fun(o,i)=>
  (o.after.toList.all fun e=>match Region.binds .any e with|true=>Nat.blt e.on i|false=>true)&&
  (ops.take i).zipIdx.all fun(x,j)=>(b.getD i 0).testBit j||(x.apart ops.toArray o&&zci x o)
def Qn(o:Oper)(T:Env)(R:A→Heap→Prop):Exit→Env→Heap→Prop
 |.normal,T',H'=>∃v,R v H'∧T'=put o.dst v T
 |_,_,_=>False
noncomputable def sOpX(P:Program)(L:Lay)(T:Env)(op:Op):Option A:=match sOp L T op with
 |some v=>some v
 |none=>match op with
  |.binOp bop xt x y _=>match ev T x,ev T y,lay L xt with
   |some (.agg xs),some (.agg ys),some ti=>match ti.td with
    |.struct fs=>match @decide (EqT P xt) (Classical.propDecidable _),zbb L fs xs ys with
     |true,some b=>(match bop with|.eql=>some (A.bool b)|.neq=>some (A.bool !b)|_=>none)
     |_,_=>none
    |.array n e=>match lay L e with
     |some ei=>match @decide (EqG P xt) (Classical.propDecidable _),zbb L (znI n e ei.size) xs ys with
      |true,some b=>(match bop with|.eql=>some (A.bool b)|.neq=>some (A.bool !b)|_=>none)
      |_,_=>none
     |none=>none
    |_=>none
   |_,_,_=>none
  |.call {callee:=.builtin .cap,args:=⟨[x]⟩,argTypes:=⟨[t]⟩}=>match ev T x,lay L t with
   |some .nils,some ti=>match ti.td with
    |.slice _=>some (.int .i64 0)
    |_=>none
   |_,_=>none
  |_=>none
theorem AOp.capNil{P:Program}{N:NN}{Q:Exit→Env→Heap→Prop}{T:Env}{H:Heap}{ops rest:List Oper}{L:Lay}{dst:Option Nat}{ty:TypeId}{pos:String}{after:Array Edge}{guard:Option (Nat×Bool)}{t e:TypeId}{x:Operand}{ti:TI}(hL:zaq P L)(hx:ev T x=some .nils)(ht:lay L t=some ti)(he:ti.td=.slice e)(hd:zah N dst=true)(kk:AOps P N ops rest Q (put dst (.int .i64 0) T) H):
  AOp P N ops ⟨dst,.call {callee:=.builtin .cap,args:=[x].toArray,argTypes:=[t].toArray},ty,pos,after,guard⟩ rest Q T H:=
 AOp.pure (fun fr w act _ st=>by
  have hu:=zag st hx
  generalize h1:act.eval x=u at hu
  cases hu;exact⟨.int .i64 0,by simp only[execOp,resolve,invoke,builtin,Sem.run_bind,Sem.run_pure,Result.andThen_ok,bq,aU,bk,h1];simp[Builtin.cap_,goInt,run_underlying (zaW (hL _ _ ht) he)],.int _ _ (by decide)⟩) hd kk
theorem zlX{P:Program}{L:Lay}{T:Env}{op:Op}{v:A}(h:sOp L T op=some v):sOpX P L T op=some v:=by
 unfold sOpX;rw[h]
theorem zp8{P:Program}{L:Lay}{T:Env}{bop:BinOp}{xt yt:TypeId}{x y:Operand}{xs ys:List A}{ti:TI}{fs:List (Nat×Nat)}{b:Bool}{r:A}(hE:EqT P xt)(hn:sOp L T (.binOp bop xt x y yt)=none)(hx:ev T x=some (.agg xs))(hy:ev T y=some (.agg ys))(ht:lay L xt=some ti)(htd:ti.td=.struct fs)
  (hb:zbb L fs xs ys=some b) (h:(match (generalizing:=false) bop with|.eql=>some (A.bool b)|.neq=>some (A.bool !b)|_=>none)=some r):sOpX P L T (.binOp bop xt x y yt)=some r:=by
 unfold sOpX;rw[hn];simp only;rw[hx,hy,ht];simp only;rw[htd];simp only;rw[@decide_eq_true _ (Classical.propDecidable _) hE,hb];exact h
theorem zn0{P:Program}{L:Lay}{T:Env}{bop:BinOp}{xt yt:TypeId}{x y:Operand}{xs ys:List A}{ti ei:TI}{n e:Nat}{b:Bool}{r:A}(hE:EqG P xt)(hn:sOp L T (.binOp bop xt x y yt)=none)(hx:ev T x=some (.agg xs))(hy:ev T y=some (.agg ys))(ht:lay L xt=some ti)(htd:ti.td=.array n e)(hei:lay L e=some ei)
  (hb:zbb L (znI n e ei.size) xs ys=some b) (h:(match (generalizing:=false) bop with|.eql=>some (A.bool b)|.neq=>some (A.bool !b)|_=>none)=some r):sOpX P L T (.binOp bop xt x y yt)=some r:=by
 unfold sOpX;rw[hn];simp only;rw[hx,hy,ht];simp only;rw[htd];simp only;rw[hei];simp only;rw[@decide_eq_true _ (Classical.propDecidable _) hE,hb];exact h
theorem AOp.simpleX{P:Program}{N:NN}{L:Lay}{ops rest:List Oper}{Q:Exit→Env→Heap→Prop}{T:Env}{H:Heap}{o:Oper}{v:A}(hL:zaq P L)(h:sOpX P L T o.op=some v)(hd:zah N o.dst=true)(k:AOps P N ops rest Q (put o.dst v T) H):AOp P N ops o rest Q T H:=by
 unfold sOpX at h;split at h
 ·rename_i v' hs
  cases h;exact AOp.simple hL hs hd k
 ·obtain⟨dst,op,ty,pos,after,guard⟩:=o
  simp only at h hd k;split at h
  ·split at h
   ·rename_i hx hy ht
    split at h
    ·rename_i htd
     split at h
     ·rename_i hE hb
      exact AOp.eqStruct hL (@of_decide_eq_true _ (Classical.propDecidable _) hE) hx hy ht htd hb h hd k
     ·cases h
    ·rename_i htd
     split at h
     ·rename_i hei
      split at h
      ·rename_i hE hb
       exact AOp.eqArray hL (@of_decide_eq_true _ (Classical.propDecidable _) hE) hx hy ht htd hei hb h hd k
      ·cases h
     ·cases h
    ·cases h
   ·cases h
  ·split at h
   ·rename_i hx ht
    split at h
    ·rename_i htd
     cases h;exact AOp.capNil hL hx ht htd hd k
    ·cases h
   ·cases h
  ·cases h
def Plan(P:Program)(N:NN)(L:Lay)(ops:Array Oper)(Q:Env→Heap→Prop):List Oper→Env→Heap→Prop
 |[],T,H=>∃T0,(∀t x,get T0 t=some x→get T t=some x)∧Q T0 H
 |o::rest,T,H=>zah N o.dst=true∧
   ((za6 ops (zaj T (o.looksAt ops)) o=some true∧∃v,sOpX P L (zaj T (o.looksAt ops)) o.op=some v∧Plan P N L ops Q rest (put o.dst v T) H)∨
    (za6 ops (zaj T (o.looksAt ops)) o=some false∧Plan P N L ops Q rest (put o.dst (.tup []) T) H)∨
    (cls o≠0∧za6 ops (zaj T (o.looksAt ops)) o=some true∧∃v,AOp P N [] o [] (Qn o (zaj T (o.looksAt ops)) fun r H'=>r=v∧H'=H) (zaj T (o.looksAt ops)) H∧Plan P N L ops Q rest (put o.dst v T) H)∨
    (cls o=2∧za6 ops (zaj T (o.looksAt ops)) o=some true∧∃R,((∃v H',R v H')∧AOp P N [] o [] (Qn o (zaj T (o.looksAt ops)) R) (zaj T (o.looksAt ops)) H)∧∀v H',R v H'→Plan P N L ops Q rest (put o.dst v T) H'))
section
variable{P:Program}{N:NN}{L:Lay}{ops:Array Oper}{Q:Env→Heap→Prop}
theorem zjv{d:Option Nat}{v:A}{T:Env}{t:Nat}(h:d≠some t):get (put d v T) t=get T t:=by
 cases d with
 |none=>rfl
 |some d=>simp only[put,zbc];rw[ac (fun e=>h (by rw[e]))]
theorem zjN{d:Nat}{v:A}{T:Env}:get (put (some d) v T) d=some v:=by simp only[put,zbc,bA]
theorem zd6{d:Option Nat}{v:A}{T:Env}{ts:List Nat}(h:∀t,d=some t→t∉ts):zaj (put d v T) ts=zaj T ts:=
 zcX ts fun t ht=>zjv fun e=>h t e ht
theorem Plan.cong:∀{l:List Oper} {T T':Env} {H:Heap},(∀t,get T t=get T' t)→Plan P N L ops Q l T H→Plan P N L ops Q l T' H
 |[],T,T',H,he,⟨T0,h1,h2⟩=>⟨T0,fun t x h=>by rw[←he];exact h1 t x h,h2⟩
 |o::rest,T,T',H,he,⟨hd,h⟩=>by
  have hr:zaj T (o.looksAt ops)=zaj T' (o.looksAt ops):=zcX _ fun t _=>he t;have hp:∀v t,get (put o.dst v T) t=get (put o.dst v T') t:=by
   intro v t;cases o.dst with
   |none=>exact he t
   |some d=>simp only[put,zbc,he t]
  refine⟨hd,?_⟩;rw[hr] at h;rcases h with ⟨h1,v,h2,h3⟩|⟨h1,h3⟩|⟨h0,h1,v,h2,h3⟩|⟨h0,h1,R,h2,h3⟩
  ·exact .inl ⟨h1,v,h2,h3.cong (hp v)⟩
  ·exact .inr (.inl ⟨h1,h3.cong (hp _)⟩)
  ·exact .inr (.inr (.inl ⟨h0,h1,v,h2,h3.cong (hp v)⟩))
  ·exact .inr (.inr (.inr ⟨h0,h1,R,h2,fun v H' hR=>(h3 v H' hR).cong (hp v)⟩))
theorem zkk{x y:Option Nat}{u v:A}{T:Env}(h:∀d,x=some d→y≠some d)(t:Nat):get (put y v (put x u T)) t=get (put x u (put y v T)) t:=by
 cases x with
 |none=>rfl
 |some d=>
  cases y with
  |none=>rfl
  |some e=>
   have hne:d≠e:=fun he=>h d I (he▸rfl);simp only[put,zbc];by_cases h1:e=t
   ·subst h1;rw[af I,ac hne,af I]
   ·rw[ac h1,ac h1]
theorem Plan.swap{x o:Oper}{r:List Oper}{T:Env}{H:Heap}(ha:x.apart ops o=true)(hc:zci x o=true)(h:Plan P N L ops Q (x::o::r) T H):Plan P N L ops Q (o::x::r) T H:=by
 obtain⟨h1,h2,h3⟩:=Oper.apart_spec ha;have r1:∀v,zaj (put x.dst v T) (o.looksAt ops)=zaj T (o.looksAt ops):=fun v=>zd6 h1;have r2:∀v,zaj (put o.dst v T) (x.looksAt ops)=zaj T (x.looksAt ops):=fun v=>zd6 h3;have sw:∀u v t,get (put o.dst v (put x.dst u T)) t=get (put x.dst u (put o.dst v T)) t:=fun u v t=>zkk h2 t;obtain⟨hd,h⟩:=h;have hcx:cls x=2→cls o=0:=by
  intro h;unfold zci at hc;rw[h] at hc
  match ho:cls o with
  |0=>rfl
  |1=>rw[ho] at hc;cases hc
  |2=>rw[ho] at hc;cases hc
  |n+3=>rw[ho] at hc;cases hc
 have hco:cls o=2→cls x=0:=by
  intro h;unfold zci at hc;rw[h] at hc
  match ho:cls x with
  |0=>rfl
  |1=>rw[ho] at hc;cases hc
  |2=>rw[ho] at hc;cases hc
  |n+3=>rw[ho] at hc;cases hc
 rcases h with ⟨w1,u,e1,hd2,h⟩|⟨w1,hd2,h⟩|⟨c1,w1,u,e1,hd2,h⟩|⟨c1,w1,R,e1,h⟩
 ·rw[r1 u] at h
  rcases h with ⟨w2,v,e2,k⟩|⟨w2,k⟩|⟨c2,w2,v,e2,k⟩|⟨c2,w2,R,e2,k⟩
  ·exact⟨hd2,.inl ⟨w2,v,e2,hd,.inl ⟨by rw[r2];exact w1,u,by rw[r2];exact e1,k.cong (sw u v)⟩⟩⟩
  ·exact⟨hd2,.inr (.inl ⟨w2,hd,.inl ⟨by rw[r2];exact w1,u,by rw[r2];exact e1,k.cong (sw u _)⟩⟩)⟩
  ·exact⟨hd2,.inr (.inr (.inl ⟨c2,w2,v,e2,hd,.inl ⟨by rw[r2];exact w1,u,by rw[r2];exact e1,k.cong (sw u v)⟩⟩))⟩
  ·exact⟨hd2,.inr (.inr (.inr ⟨c2,w2,R,e2,fun v H' hR=>⟨hd,.inl ⟨by rw[r2];exact w1,u,by rw[r2];exact e1,(k v H' hR).cong (sw u v)⟩⟩⟩))⟩
 ·rw[r1] at h
  rcases h with ⟨w2,v,e2,k⟩|⟨w2,k⟩|⟨c2,w2,v,e2,k⟩|⟨c2,w2,R,e2,k⟩
  ·exact⟨hd2,.inl ⟨w2,v,e2,hd,.inr (.inl ⟨by rw[r2];exact w1,k.cong (sw _ v)⟩)⟩⟩
  ·exact⟨hd2,.inr (.inl ⟨w2,hd,.inr (.inl ⟨by rw[r2];exact w1,k.cong (sw _ _)⟩)⟩)⟩
  ·exact⟨hd2,.inr (.inr (.inl ⟨c2,w2,v,e2,hd,.inr (.inl ⟨by rw[r2];exact w1,k.cong (sw _ v)⟩)⟩))⟩
  ·exact⟨hd2,.inr (.inr (.inr ⟨c2,w2,R,e2,fun v H' hR=>⟨hd,.inr (.inl ⟨by rw[r2];exact w1,(k v H' hR).cong (sw _ v)⟩)⟩⟩))⟩
 ·rw[r1 u] at h
  rcases h with ⟨w2,v,e2,k⟩|⟨w2,k⟩|⟨c2,w2,v,e2,k⟩|⟨c2,w2,R,e2,k⟩
  ·exact⟨hd2,.inl ⟨w2,v,e2,hd,.inr (.inr (.inl ⟨c1,by rw[r2];exact w1,u,by rw[r2];exact e1,k.cong (sw u v)⟩))⟩⟩
  ·exact⟨hd2,.inr (.inl ⟨w2,hd,.inr (.inr (.inl ⟨c1,by rw[r2];exact w1,u,by rw[r2];exact e1,k.cong (sw u _)⟩))⟩)⟩
  ·exact⟨hd2,.inr (.inr (.inl ⟨c2,w2,v,e2,hd,.inr (.inr (.inl ⟨c1,by rw[r2];exact w1,u,by rw[r2];exact e1,k.cong (sw u v)⟩))⟩))⟩
  ·exact absurd (hco c2) c1
 ·have ho:=hcx c1
  -- what follows is pure:its value hangs on its own operands alone
  have key:∀v H',R v H'→(za6 ops (zaj T (o.looksAt ops)) o=some true∧∃u,sOpX P L (zaj T (o.looksAt ops)) o.op=some u∧Plan P N L ops Q r (put o.dst u (put x.dst v T)) H')∨
    (za6 ops (zaj T (o.looksAt ops)) o=some false∧Plan P N L ops Q r (put o.dst (.tup []) (put x.dst v T)) H'):=by
   intro v H' hR;obtain⟨_,k⟩:=h v H' hR;rw[r1 v] at k;rcases k with k|k|⟨c2,_⟩|⟨c2,_⟩
   ·exact .inl k
   ·exact .inr k
   ·exact absurd ho c2
   ·rw[ho] at c2;cases c2
  obtain⟨⟨v0,H0,hR0⟩,e1'⟩:=e1;have hdo:=(h v0 H0 hR0).1;rcases key v0 H0 hR0 with ⟨w2,u,e2,_⟩|⟨w2,_⟩
  ·refine⟨hdo,.inl ⟨w2,u,e2,hd,.inr (.inr (.inr ⟨c1,by rw[r2];exact w1,R,⟨⟨v0,H0,hR0⟩,by rw[r2];exact e1'⟩,fun v H' hR=>?_⟩))⟩⟩
   rcases key v H' hR with ⟨_,u',e2',k⟩|⟨w2',_⟩
   ·rw[e2] at e2';cases e2'
    exact k.cong (sw v u)
   ·rw[w2] at w2';cases w2'
  ·refine⟨hdo,.inr (.inl ⟨w2,hd,.inr (.inr (.inr ⟨c1,by rw[r2];exact w1,R,⟨⟨v0,H0,hR0⟩,by rw[r2];exact e1'⟩,fun v H' hR=>?_⟩))⟩)⟩
   rcases key v H' hR with ⟨w2',_⟩|⟨_,k⟩
   ·rw[w2] at w2';cases w2'
   ·exact k.cong (sw v _)
theorem Plan.first{o:Oper}:∀{l1 l2:List Oper} {T:Env} {H:Heap},(∀x∈l1,x.apart ops o=true∧zci x o=true)→Plan P N L ops Q (l1++o::l2) T H→Plan P N L ops Q (o::(l1++l2)) T H
 |[],l2,T,H,_,h=>h
 |x::l1,l2,T,H,hc,h=>by
  refine Plan.swap (hc x aE).1 (hc x aE).2 ?_;have hc':∀y∈l1,y.apart ops o=true∧zci y o=true:=fun y hy=>hc y (aB _ hy);obtain⟨hd,h⟩:=h;refine⟨hd,?_⟩;rcases h with ⟨h1,v,h2,h3⟩|⟨h1,h3⟩|⟨h0,h1,v,h2,h3⟩|⟨h0,h1,R,h2,h3⟩
  ·exact .inl ⟨h1,v,h2,Plan.first hc' h3⟩
  ·exact .inr (.inl ⟨h1,Plan.first hc' h3⟩)
  ·exact .inr (.inr (.inl ⟨h0,h1,v,h2,Plan.first hc' h3⟩))
  ·exact .inr (.inr (.inr ⟨h0,h1,R,h2,fun v H' hR=>Plan.first hc' (h3 v H' hR)⟩))
theorem zgY{o:Oper}{a:Act}{w:World}{K K':Act→World→Prop}{Q Q':Exit→Act→World→Prop}(hQ:∀e a w,e≠ .normal→Q e a w→Q' e a w)(hK:∀v w',K (a.put o.dst v) w'→K' (a.put o.dst v) w')(hdf:∀d w',¬K ({a with defers:=d::a.defers}.put o.dst undef) w')
  (h:o.wp P a w K Q):o.wp P a w K' Q':=by
 unfold Oper.wp Oper.upon at*;split at h
 ·exact hK _ _ h
 ·exact hK _ _ h
 ·exact(hdf _ _ h).elim
 ·refine h.mono fun e w'=>?_
  cases e with
  |returned v=>exact hK _ _
  |panicked c=>exact hQ _ _ _ (by simp)
  |outgrown=>exact fun⟨a₀,w₀,h⟩=>⟨a₀,w₀,hQ _ _ _ (by simp) h⟩
 ·exact h.mono fun v w'=>hK _ _
 ·exact hQ _ _ _ (by simp) h
 ·exact h.elim
theorem AOp.node{o:Oper}{ts:List Nat}{T:Env}{H:Heap}{R:A→Heap→Prop}{Q':Exit→Act→World→Prop}{K:Act→World→Prop}{fr:Nat→Prop}{w:World}{a:Act}(h:AOp P N [] o [] (Qn o (zaj T ts) R) (zaj T ts) H)(hd:zah N o.dst=true)
  (s:Sim fr H w) (st:St N w (own fr H) T a) (k:∀v H' w' v',R v H'→Sim fr H' w'→St N w' (own fr H') (put o.dst v T) (a.put o.dst v')→Ext H w H' w'→K (a.put o.dst v') w'):o.wp P a w K Q':=by
 have h0:=h.out fr w a s (st.sub (zc8 T ts));refine zgY (fun e a' w' he hq=>?_) (fun v w' hk=>?_) (fun d w' hk=>?_) h0
 ·obtain⟨T',H',q,_⟩:=hq
  cases e<;>first|exact absurd I he|exact q.elim
 ·obtain⟨T',H',⟨u,hR,rfl⟩,s',st',x⟩:=hk
  refine k u H' w' v hR s' ⟨st'.size,st'.defers,st'.glob,fun t y hy=>?_⟩ x;by_cases hdt:o.dst=some t
  ·rw[hdt,zjN] at hy
   cases hy;exact st'.at_ t _ (by rw[hdt,zjN])
  ·rw[zjv hdt] at hy
   obtain⟨z,hz,hr⟩:=st.at_ t y hy;refine⟨z,?_,hr.mono x.stays⟩;cases hdo:o.dst with
   |none=>exact hz
   |some d=>simp only[Act.put];rw[Array.getElem?_setIfInBounds_ne (fun e=>hdt (by rw[hdo,e]))];exact hz
 ·obtain⟨T',H',_,_,st',_⟩:=hk
  have h3:=ai List.length st'.defers;rw[←st.defers] at h3;cases hdo:o.dst<;>rw[hdo] at h3<;>simp[Act.put] at h3
theorem zk4{i:Nat}{a:Act}{w:World}{K K':Act→World→Prop}{Q Q':Exit→Act→World→Prop}(hQ:∀e a w,Q e a w→Q' e a w)(hK:∀a w,K a w→K' a w)(h:wpOp P ops Q i K a w):wpOp P ops Q' i K' a w:=by
 unfold wpOp at*;split
 ·rename_i hn;rw[hn] at h;exact hK _ _ h
 ·rename_i o ho
  rw[ho] at h;simp only at h;split
  ·rename_i hw
   rw[af hw] at h;rcases h with h|⟨h1,a₀,w₀,h2⟩
   ·refine .inl ?_
    unfold Oper.wp Oper.upon at*;split at h
    ·exact hK _ _ h
    ·exact hK _ _ h
    ·exact hK _ _ h
    ·refine h.mono fun e w'=>?_
     cases e with
     |returned v=>exact hK _ _
     |panicked c=>exact hQ _ _ _
     |outgrown=>exact fun⟨a₀,w₀,h⟩=>⟨a₀,w₀,hQ _ _ _ h⟩
    ·exact h.mono fun v w'=>hK _ _
    ·exact hQ _ _ _ h
    ·exact h.elim
   ·exact .inr ⟨h1,a₀,w₀,hQ _ _ _ h2⟩
  ·rename_i hw
   rw[ac hw] at h;exact hK _ _ h
theorem zcc{md:Region.Mode}{Q Q':Exit→Act→World→Prop}(hQ:∀e a w,Q e a w→Q' e a w):∀(fuel:Nat) (listed:Array Bool) (a:Act) (w:World),wpAny P md ops Q fuel listed a w→wpAny P md ops Q' fuel listed a w
 |0,_,_,_,⟨h1,h2⟩=>⟨h1,hQ _ _ _ h2⟩
 |fuel+1,listed,a,w,⟨h1,h2⟩=>⟨fun h=>hQ _ _ _ (h1 h),fun i hi=>zk4 hQ (fun a w=>zcc hQ fuel _ a w) (h2 i hi)⟩
def Anc(ops:List Oper)(i j:Nat):Prop:=∀listed:Array Bool,(∀k o,ops[k]?=some o→listed.getD k false=true→∀e∈o.after.toList,Region.binds .any e=true→listed.getD e.on false=true)→
 (∀o,ops[i]?=some o→∀e∈o.after.toList,Region.binds .any e=true→listed.getD e.on false=true)→listed.getD j false=true
theorem zj1(ops:List Oper):(anc ops).length=ops.length∧∀(i j:Nat),((anc ops).getD i 0).testBit j=true→Anc ops i j:=by
 have key:∀(l done:List Oper) (acc:List Nat),done++l=ops→acc.length=done.length→(∀(i j:Nat),(acc.getD i 0).testBit j=true→Anc ops i j)→
   let r:=l.foldl (fun acc o=>acc++[o.after.toList.foldl (fun s e=>match Region.binds .any e with|true=>s|||2^e.on|||acc.getD e.on 0|false=>s) 0]) acc
   r.length=ops.length∧∀(i j:Nat),(r.getD i 0).testBit j=true→Anc ops i j:=by
  intro l
  induction l with
  |nil=>intro done acc h1 h2 h3;exact⟨by simp only[List.foldl_nil];rw[←h1,h2];simp,h3⟩
  |cons o l ih=>
   intro done acc h1 h2 h3;refine ih (done++[o]) _ (by simpa using h1) (by simp[h2]) ?_;have ho:ops[done.length]?=some o:=by rw[←h1];simp
   intro i j hij;by_cases hi:i<acc.length
   ·refine h3 i j ?_
    rw[List.getD_eq_getElem?_getD,List.getElem?_append_left hi] at hij;rw[List.getD_eq_getElem?_getD];exact hij
   ·by_cases hi2:i=acc.length
    ·subst hi2
     rw[List.getD_eq_getElem?_getD,List.getElem?_append_right (au _)] at hij;simp only[Nat.sub_self,List.getElem?_cons_zero,bT] at hij;rw[h2]
     -- the fold over the edges
     have fold:∀(es:List Edge) (s:Nat),(∀j,s.testBit j=true→Anc ops done.length j)→(∀e∈es,e∈o.after.toList)→∀j,(es.foldl (fun s e=>match Region.binds .any e with|true=>s|||2^e.on|||acc.getD e.on 0|false=>s) s).testBit j=true→Anc ops done.length j:=by
      intro es
      induction es with
      |nil=>intro s hs _ j hj;exact hs j hj
      |cons e es ih2=>
       intro s hs hes j hj;simp only[de] at hj;refine ih2 _ ?_ (fun e' he'=>hes e' (aB _ he')) j hj;intro j' hj';split at hj'
       ·rename_i hb
        rw[Nat.testBit_or,Nat.testBit_or,bp,bp] at hj';rcases hj' with (hj'|hj')|hj'
        ·exact hs j' hj'
        ·rw[Nat.testBit_two_pow] at hj'
         have hj':=aj hj';subst hj';intro listed _ h5;exact h5 o ho e (hes e aE) hb
        ·intro listed h4 h5
         have h6:=h5 o ho e (hes e aE) hb;exact h3 e.on j' hj' listed h4 (fun o' ho' e' he' hb'=>h4 e.on o' ho' h6 e' he' hb')
       ·exact hs j' hj'
     exact fold o.after.toList 0 (fun j hj=>by simp at hj) (fun e he=>he) j hij
    ·rw[List.getD_eq_getElem?_getD,List.getElem?_eq_none (by simp;omega)] at hij
     simp at hij
 have:=key ops [] [] I I (fun i j h=>by simp at h)
 exact this
def unl(listed:Array Bool):Nat→List Oper→List Oper
 |_,[]=>[]
 |k,o::l=>if listed.getD k true then unl listed (k+1) l else o::unl listed (k+1) l
theorem zc7{listed:Array Bool}:∀{l:List Oper} {k i:Nat} {o:Oper},l[i]?=some o→listed.getD (k+i) true=false→k+i<listed.size→
  ∃l1 l2,unl listed k l=l1++o::l2∧unl (listed.setIfInBounds (k+i) true) k l=l1++l2∧(∀x∈l1,∃j,j<i∧l[j]?=some x∧listed.getD (k+j) true=false)
 |[],k,i,o,h,_,_=>by simp at h
 |y::l,k,0,o,h,hn,hs=>by
  simp only[List.getElem?_cons_zero,aY] at h;subst h;have same:∀(l:List Oper) (m:Nat),k<m→unl (listed.setIfInBounds k true) m l=unl listed m l:=by
   intro l
   induction l with
   |nil=>intros;rfl
   |cons z l ih=>
    intro m hm;simp only[unl];rw[getD_set_ne true (by omega),ih (m+1) (by omega)]
  refine⟨[],unl listed (k+1) l,?_,?_,fun x hx=>by simp at hx⟩
  ·simp only[unl,bG] at hn ⊢
   rw[hn];rfl
  ·simp only[unl,bG] at hs ⊢
   have:(listed.setIfInBounds k true).getD k true=true:=by simp[hs]
   rw[this,af I,same l (k+1) (by omega)];rfl
 |y::l,k,i+1,o,h,hn,hs=>by
  have e:k+(i+1)=(k+1)+i:=by omega
  rw[e] at hn hs ⊢;obtain⟨l1,l2,h1,h2,h3⟩:=zc7 (l:=l) (k:=k+1) (i:=i) (o:=o) (by simpa using h) hn hs;have hk:(listed.setIfInBounds (k+1+i) true).getD k true=listed.getD k true:=getD_set_ne true (by omega);by_cases hy:listed.getD k true=true
  ·refine⟨l1,l2,by simp only[unl];rw[af hy];exact h1,by simp only[unl];rw[hk,af hy];exact h2,fun x hx=>?_⟩
   obtain⟨j,h4,h5,h6⟩:=h3 x hx;exact⟨j+1,by omega,by simpa using h5,by rw[show k+(j+1)=k+1+j by omega];exact h6⟩
  ·have hy':listed.getD k true=false:=by simpa using hy
   refine⟨y::l1,l2,by simp only[unl];rw[ac hy,h1];rfl,by simp only[unl];rw[hk,ac hy,h2];rfl,fun x hx=>?_⟩
   rcases List.mem_cons.1 hx with rfl|hx
   ·exact⟨0,by omega,I,hy'⟩
   ·obtain⟨j,h4,h5,h6⟩:=h3 x hx
    exact⟨j+1,by omega,by simpa using h5,by rw[show k+(j+1)=k+1+j by omega];exact h6⟩
theorem zfJ{listed:Array Bool}:∀{l:List Oper} {k:Nat},unl listed k l≠[]→∃i o,l[i]?=some o∧listed.getD (k+i) true=false∧∀j,j<i→listed.getD (k+j) true=true
 |[],k,h=>absurd rfl h
 |y::l,k,h=>by
  by_cases hy:listed.getD k true=true
  ·simp only[unl] at h
   rw[af hy] at h;obtain⟨i,o,h1,h2,h3⟩:=zfJ h;refine⟨i+1,o,by simpa using h1,by rw[show k+(i+1)=k+1+i by omega];exact h2,fun j hj=>?_⟩
   cases j with
   |zero=>exact hy
   |succ j=>rw[show k+(j+1)=k+1+j by omega];exact h3 j (by omega)
  ·exact⟨0,y,I,by simpa using hy,fun j hj=>by omega⟩
theorem zd9{listed:Array Bool}{i:Nat}(h:i<listed.size):listed.getD i true=listed.getD i false:=by simp[Array.getD,h]
end
theorem zeg{ops:List Oper}(h:chk ops=true):∀(i:Nat) (o:Oper),ops[i]?=some o→(∀e∈o.after.toList,Region.binds .any e=true→e.on<i)∧
  ∀(j:Nat) (x:Oper),j<i→ops[j]?=some x→((anc ops).getD i 0).testBit j=true∨(x.apart ops.toArray o=true∧zci x o=true):=by
 simp only[chk,aO,cE] at h;intro i o ho;have h1:=h.2 (o,i) (List.mem_zipIdx_iff_getElem?.2 ho);refine⟨fun e he hb=>?_,fun j x hj hx=>?_⟩
 ·have:=h1.1 e he
  rw[hb] at this;simpa [cI] using this
 ·have h2:=h1.2 (x,j) (List.mem_zipIdx_iff_getElem?.2 (by simp only;rw[List.getElem?_take,af hj];exact hx))
  rw[bp,aO] at h2;exact h2
theorem Plan.any{P:Program}{N:NN}{L:Lay}{ops:List Oper}{Q0:Exit→Env→Heap→Prop}(hL:zaq P L)(hc:chk ops=true):∀(fuel:Nat) (listed:Array Bool) (T:Env) (H:Heap),listed.size=ops.length→
  (∀k o,ops[k]?=some o→listed.getD k false=true→∀e∈o.after.toList,Region.binds .any e=true→listed.getD e.on false=true)→(unl listed 0 ops).length≤fuel→Plan P N L ops.toArray (Q0 .normal) (unl listed 0 ops) T H→
  ∀(fr:Nat→Prop) (w:World) (a:Act),Sim fr H w→St N w (own fr H) T a→wpAny P .any ops.toArray (Post N fr H w Q0) fuel listed a w:=by
 intro fuel
 -- nothing is ready only if all is listed
 have done:∀(listed:Array Bool) (T:Env) (H:Heap),listed.size=ops.length→Region.ready .any ops.toArray listed=[]→Plan P N L ops.toArray (Q0 .normal) (unl listed 0 ops) T H→
   ∀(fr:Nat→Prop) (w:World) (a:Act),Sim fr H w→St N w (own fr H) T a→Post N fr H w Q0 .normal a w:=by
  intro listed T H hs hr hp fr w a s st;have hnil:unl listed 0 ops=[]:=by
   apply cM
   intro hne;obtain⟨i,o,h1,h2,h3⟩:=zfJ hne;rw[aS] at h2;have:i∈Region.ready .any ops.toArray listed:=mem_ready.2 ⟨h2,o,by simpa using h1,fun e he hb=>by
    have hlt:=(zeg hc i o h1).1 e (by simpa using he) hb;have:=h3 e.on hlt;rw[aS] at this;have hi:=(List.getElem?_eq_some_iff.1 h1).1;rw[←zd9 (by omega)];exact this⟩
   rw[hr] at this;cases this
  rw[hnil] at hp;obtain⟨T0,h1,h2⟩:=hp;exact⟨T0,H,h2,s,st.sub h1,Ext.refl H w⟩
 induction fuel with
 |zero=>
  intro listed T H hs hcl hf hp fr w a s st;have hnil:unl listed 0 ops=[]:=bE (by omega);have hr:Region.ready .any ops.toArray listed=[]:=by
   apply cM
   intro hne;obtain⟨i,hi⟩:=dK _ hne;obtain⟨h0,o,ho,_⟩:=mem_ready.1 hi;have ho':ops[i]?=some o:=by simpa using ho
   have hlt:=(List.getElem?_eq_some_iff.1 ho').1;obtain⟨l1,l2,h1,_⟩:=zc7 (k:=0) ho' (by rw[aS];exact h0) (by omega);rw[hnil] at h1;simp at h1
  exact⟨hr,done listed T H hs hr hp fr w a s st⟩
 |succ fuel ih=>
  intro listed T H hs hcl hf hp fr w a s st;refine⟨fun hr=>done listed T H hs hr hp fr w a s st,fun i hi=>?_⟩;obtain⟨h0,o,ho,hedge⟩:=mem_ready.1 hi;have ho':ops[i]?=some o:=by simpa using ho
  have hlt:=(List.getElem?_eq_some_iff.1 ho').1;obtain⟨l1,l2,h1,h2,h3⟩:=zc7 (k:=0) ho' (by rw[aS];exact h0) (by omega);rw[aS] at h2;rw[h1] at hp hf;have hp:=Plan.first (fun x hx=>by
   obtain⟨j,hj,hxj,hjl⟩:=h3 x hx;rw[aS] at hjl;rcases(zeg hc i o ho').2 j x hj hxj with hb|hb
   ·have:=(zj1 ops).2 i j hb listed hcl (fun o2 ho2 e he hb=>by
     rw[ho'] at ho2;cases ho2;exact hedge e (by simpa using he) hb)
    rw[←zd9 (by omega),hjl] at this;cases this
   ·exact hb) hp
  rw[←h2] at hp;have hs':(listed.setIfInBounds i true).size=ops.length:=by simpa using hs
  have hcl':∀k o,ops[k]?=some o→(listed.setIfInBounds i true).getD k false=true→∀e∈o.after.toList,Region.binds .any e=true→(listed.setIfInBounds i true).getD e.on false=true:=by
   intro k o2 ho2 hk e he hb;refine getD_set_true ?_;by_cases hki:k=i
   ·subst hki
    rw[ho'] at ho2;cases ho2;exact hedge e (by simpa using he) hb
   ·rw[getD_set_ne false (d5 hki)] at hk
    exact hcl k o2 ho2 hk e he hb
  have hf':(unl (listed.setIfInBounds i true) 0 ops).length≤fuel:=by
   rw[h2];simp only[aT,aX] at hf ⊢;omega
  have hlook:∀c,za6 ops.toArray (zaj T (o.looksAt ops.toArray)) o=some c→Region.wanted o (yielded ops.toArray a.tmps)=c:=fun c h=>zki (st.sub (zc8 T _)) h;obtain⟨hd,hp⟩:=hp;unfold wpOp;rw[ho];simp only;have next:∀v H' w' v',Sim fr H' w'→St N w' (own fr H') (put o.dst v T) (a.put o.dst v')→Ext H w H' w'→Plan P N L ops.toArray (Q0 .normal) (unl (listed.setIfInBounds i true) 0 ops) (put o.dst v T) H'→
    wpAny P .any ops.toArray (Post N fr H w Q0) fuel (listed.setIfInBounds i true) (a.put o.dst v') w':=fun v H' w' v' s' st' x hp'=>
   zcc (fun _ _ _=>Post.of_ext x) _ _ _ _ (ih _ _ _ hs' hcl' hf' hp' fr w' _ s' st')
  rcases hp with ⟨w1,v,e1,hp⟩|⟨w1,hp⟩|⟨_,w1,v,e1,hp⟩|⟨_,w1,R,⟨_,e1⟩,hp⟩
  ·rw[hlook _ w1,af I]
   refine .inl (AOp.node (R:=fun r H'=>r=v∧H'=H) (AOp.simpleX hL e1 hd (AOps.nil ⟨v,⟨I,I⟩,I⟩)) hd s st ?_)
   rintro u H' w' v' ⟨rfl,rfl⟩ s' st' x;exact next _ _ w' v' s' st' x hp
  ·rw[hlook _ w1,ac (by simp)]
   exact next _ _ w undef s (st.put hd (Rep.tup_of .nil)) (Ext.refl H w) hp
  ·rw[hlook _ w1,af I]
   refine .inl (AOp.node e1 hd s st ?_)
   rintro u H' w' v' ⟨rfl,rfl⟩ s' st' x;exact next _ _ w' v' s' st' x hp
  ·rw[hlook _ w1,af I]
   refine .inl (AOp.node e1 hd s st ?_)
   intro u H' w' v' hR s' st' x;exact next _ _ w' v' s' st' x (hp u H' hR)
theorem AWp.draw{P:Program}{N:NN}{L:Lay}{ops:List Oper}{Q:Exit→Env→Heap→Prop}{T:Env}{H:Heap}{id:Nat}(hL:zaq P L)(hm:P.follows .mixedOrders=true)(hc:chk ops=true)(h:Plan P N L ops.toArray (Q .normal) ops T H):
  AWp P N (.region id ops.toArray true) Q T H:=by
 refine⟨fun fr w a s st=>wp_region_any hm ?_⟩;have hun:∀(l:List Oper) (k n:Nat),k+l.length≤n→unl (Array.replicate n false) k l=l:=by
  intro l
  induction l with
  |nil=>intros;rfl
  |cons o l ih=>
   intro k n hk;simp only[aX] at hk;simp only[unl];rw[ac (by simp[Array.getD,show k<n by omega]),ih (k+1) n (by omega)]
 have h0:=Plan.any (Q0:=Q) hL hc ops.toArray.size (Array.replicate ops.toArray.size false) T H (by simp) (fun k o _ hk=>by simp[Array.getD] at hk) (by rw[hun _ _ _ (by simp)];simp) (by rw[hun _ _ _ (by simp)];exact h)
  fr w.drew a s.drew (st.mono (Ext.drew H w).stays)
 exact zcc (fun _ _ _=>Post.of_ext (Ext.drew H w)) _ _ _ _ h0
section
variable{P:Program}{N:NN}{L:Lay}{ops:Array Oper}{Q:Env→Heap→Prop}{o:Oper}{rest:List Oper}{T:Env}{H:Heap}
theorem Plan.nil(h:Q T H):Plan P N L ops Q [] T H:=⟨T,fun _ _ h=>h,h⟩
theorem Plan.pure{v:A}(hd:zah N o.dst=true)(hw:za6 ops (zaj T (o.looksAt ops)) o=some true)(hv:sOp L (zaj T (o.looksAt ops)) o.op=some v)(k:Plan P N L ops Q rest (put o.dst v T) H):Plan P N L ops Q (o::rest) T H:=⟨hd,.inl ⟨hw,v,zlX hv,k⟩⟩
theorem Plan.pureX{v:A}(hd:zah N o.dst=true)(hw:za6 ops (zaj T (o.looksAt ops)) o=some true)(hv:sOpX P L (zaj T (o.looksAt ops)) o.op=some v)(k:Plan P N L ops Q rest (put o.dst v T) H):Plan P N L ops Q (o::rest) T H:=⟨hd,.inl ⟨hw,v,hv,k⟩⟩
theorem Plan.skip(hd:zah N o.dst=true)(hw:za6 ops (zaj T (o.looksAt ops)) o=some false)(k:Plan P N L ops Q rest (put o.dst (.tup []) T) H):Plan P N L ops Q (o::rest) T H:=⟨hd,.inr (.inl ⟨hw,k⟩)⟩
theorem Plan.quiet{v:A}(hd:zah N o.dst=true)(hw:za6 ops (zaj T (o.looksAt ops)) o=some true)(hcl:Nat.beq (cls o) 0=false)(h:AOp P N [] o [] (Qn o (zaj T (o.looksAt ops)) fun r H'=>r=v∧H'=H) (zaj T (o.looksAt ops)) H)
  (k:Plan P N L ops Q rest (put o.dst v T) H):Plan P N L ops Q (o::rest) T H:=⟨hd,.inr (.inr (.inl ⟨(fun e=>by rw[e] at hcl;cases hcl),hw,v,h,k⟩))⟩
theorem Plan.eff{R:A→Heap→Prop}(hd:zah N o.dst=true)(hw:za6 ops (zaj T (o.looksAt ops)) o=some true)(hcl:cls o=2)(hne:∃v H',R v H')(h:AOp P N [] o [] (Qn o (zaj T (o.looksAt ops)) R) (zaj T (o.looksAt ops)) H)
  (k:∀v H',R v H'→Plan P N L ops Q rest (put o.dst v T) H'):Plan P N L ops Q (o::rest) T H:=⟨hd,.inr (.inr (.inr ⟨hcl,hw,R,⟨hne,h⟩,k⟩))⟩
theorem Plan.eff1{v:A}{H1:Heap}(hd:zah N o.dst=true)(hw:za6 ops (zaj T (o.looksAt ops)) o=some true)(hcl:cls o=2)(h:AOp P N [] o [] (Qn o (zaj T (o.looksAt ops)) fun r H'=>r=v∧H'=H1) (zaj T (o.looksAt ops)) H)
  (k:Plan P N L ops Q rest (put o.dst v T) H1):Plan P N L ops Q (o::rest) T H:=Plan.eff hd hw hcl ⟨v,H1,rfl,rfl⟩ h fun _ _ ⟨h1,h2⟩=>by subst h1;subst h2;exact k
theorem Plan.effN{f:Nat→A}{g:Nat→Heap}{Hx:Heap}(hd:zah N o.dst=true)(hw:za6 ops (zaj T (o.looksAt ops)) o=some true)(hcl:cls o=2)
  (h:AOp P N [] o [] (Qn o (zaj T (o.looksAt ops)) fun v H'=>∃r,r∉keys Hx∧v=f r∧H'=g r) (zaj T (o.looksAt ops)) H)
  (k:∀r,r∉keys Hx→Plan P N L ops Q rest (put o.dst (f r) T) (g r)):Plan P N L ops Q (o::rest) T H:=
 Plan.eff hd hw hcl (by
  have key:∃r,r∉keys Hx:=by
   refine⟨(keys Hx).foldl max 0+1,fun h=>?_⟩;have key:∀(l:List Nat) (m:Nat),m≤l.foldl max m∧∀x∈l,x≤l.foldl max m:=by
    intro l
    induction l with
    |nil=>intro m;exact⟨au _,fun x hx=>by cases hx⟩
    |cons y l ih=>
     intro m;obtain⟨h1,h2⟩:=ih (max m y);simp only[de];refine⟨by omega,fun x hx=>?_⟩
     rcases List.mem_cons.1 hx with rfl|hx
     ·omega
     ·exact h2 x hx
   have:=(key (keys Hx) 0).2 _ h;omega
  obtain⟨r,hr⟩:=key;exact⟨f r,g r,r,hr,rfl,rfl⟩) h fun _ _ ⟨r,hr,h1,h2⟩=>by subst h1;subst h2;exact k r hr
theorem Plan.boolCase{t:Nat}{b:Bool}(ht:get T t=some (.bool b))(h1:b=true→Plan P N L ops Q rest ((t,.bool true)::T) H)(h2:b=false→Plan P N L ops Q rest ((t,.bool false)::T) H):Plan P N L ops Q rest T H:=by
 have hcong:∀b',b=b'→∀u,get ((t,.bool b')::T) u=get T u:=by
  intro b' hb u;rw[zbc];split
  ·rename_i htu;subst htu;rw[ht,hb]
  ·rfl
 cases b with
 |true=>exact(h1 rfl).cong (hcong _ rfl)
 |false=>exact(h2 rfl).cong (hcong _ rfl)
theorem Plan.guardCase{j d:Nat}{b b':Bool}(hg:o.guard=some (j,b))(hd:(ops[j]?).bind (·.dst)=some d)(ht:get T d=some (.bool b'))(h1:b'=true→Plan P N L ops Q (o::rest) ((d,.bool true)::T) H)
  (h2:b'=false→Plan P N L ops Q (o::rest) ((d,.bool false)::T) H):Plan P N L ops Q (o::rest) T H:=Plan.boolCase ht h1 h2
theorem Qn_n{R:A→Heap→Prop}{v:A}(h:R v H):Qn o T R .normal (put o.dst v T) H:=⟨v,h,I⟩
end
section
variable{P:Program}{N:NN}{Q:Exit→Env→Heap→Prop}{T:Env}{H:Heap}{L:Lay}
theorem zac.cell{fn:Func}{t ty:Nat}{r Te sz i o:Nat}{elems:List (List A)}{e:List A}{ti:TI}{v:A}(hL:zaq P L)(h:fn.results=#[.cell t ty])(hx:get T t=some (.ptr r sz i o))(hm:(r,Blk.row Te sz elems)∈H)
  (he:elems[i]?=some e) (ht:lay L ty=some ti) (hv:zbw ti e o=some v):zac P fn N T H v:=fun fr w a s st=>by
 have hu:=zaH st hx
 generalize h1:a.tmps.getD t undef=u at hu
 cases hu;obtain⟨vs,h2,h3,_,_⟩:=s.elem hm he;obtain⟨z,hz,hr⟩:=zbK (hL _ _ ht) h2 (h3.drop o) hv;rw[add_plain] at hz;refine⟨z,?_,hr⟩;have h1':a.tmps[t]?.getD undef=.pointer (some {block:=r,off:=i*sz+o}):=by rw[←h1];simp
 simp[results,h,asAddr,h1',hz]
theorem AIn.dropL{c:Code}:∀(G:Heap),AIn P N c Q T H→AIn P N c Q T (G++H)
 |[],k=>k
 |p::G,k=>AIn.drop (AIn.dropL G k)
theorem AIn.nextN{c:Code}{T':Env}{H':Heap}(n:Nat)(h:AIn P N c Q T' H')(hs:zaz T T')(hH:H.drop n=H'):AIn P N c Q T H:=by
 have:=AIn.dropL (H.take n) (AIn.sub hs.sub h);subst hH
 rwa [d7] at this
theorem AWp.toN{c:Code}{T':Env}{H':Heap}(n:Nat)(h:AWp P N c Q T' H')(hs:zaz T T')(hH:H.drop n=H'):AWp P N c Q T H:=by
 have:=AWp.dropL (H.take n) (AWp.sub hs.sub h);subst hH
 rwa [d7] at this
theorem AWp.condCase{t:Nat}{x y:Code}{b:Bool}(hc:get T t=some (.bool b))(ht:b=true→AWp P N x Q ((t,.bool true)::T) H)(hf:b=false→AWp P N y Q ((t,.bool false)::T) H):AWp P N (.cond (.tmp t) x y) Q T H:=
 AWp.cond (c:=.tmp t) hc (fun h=>by subst h;exact AWp.slot hc (Sub.refl _) (ht rfl)) (fun h=>by subst h;exact AWp.slot hc (Sub.refl _) (hf I))
theorem AWp.join{α:Type}{c c2:Code}(E:α→Env)(G:α→Heap)(ok:α→Prop)(K:∀a,ok a→AWp P N c2 Q (E a) (G a))
  (h:∀R:Exit→Env→Heap→Prop,(∀a,ok a→∀(n:Nat) T' H',zaz T' (E a)→H'.drop n=G a→R .normal T' H')→(∀e T H,e≠ .normal→Q e T H→R e T H)→AWp P N c R T H):
  AWp P N c (seqQ (AWp P N c2 Q) Q) T H:=by
 refine h _ (fun a ha n T' H' hs hH=>zae (AWp.toN n (K a ha) hs hH)) fun e T H he hq=>?_;cases e with
 |normal=>exact absurd rfl he
 |_=>exact hq
structure Pl(P:Program)(N:NN)(L:Lay)(ops:Array Oper)(Q:Env→Heap→Prop)(rest:List Oper)(T:Env)(H:Heap):Prop where
 out:Plan P N L ops Q rest T H
theorem AWp.drawn{ops:List Oper}{id:Nat}(hL:zaq P L)(hm:P.follows .mixedOrders=true)(hc:chk ops=true)(h:Pl P N L ops.toArray (Q .normal) ops T H):AWp P N (.region id ops.toArray true) Q T H:=AWp.draw hL hm hc h.out
theorem Pl.nil{ops:Array Oper}{Q:Env→Heap→Prop}(h:Q T H):Pl P N L ops Q [] T H:=⟨Plan.nil h⟩
theorem Pl.pure{ops:Array Oper}{rest:List Oper}{Q:Env→Heap→Prop}{dst:Option Nat}{op:Op}{ty:TypeId}{pos:String}{after:Array Edge}{v:A}(hd:zah N dst=true)(hv:sOp L (zaj T (({dst:=dst,op:=op,type:=ty,pos:=pos,after:=after,guard:=none}:Oper).looksAt ops)) op=some v)(k:Pl P N L ops Q rest (put dst v T) H):Pl P N L ops Q ({dst:=dst,op:=op,type:=ty,pos:=pos,after:=after,guard:=none}::rest) T H:=⟨Plan.pure hd I hv k.out⟩
theorem Pl.pureW{ops:Array Oper}{rest:List Oper}{Q:Env→Heap→Prop}{dst:Option Nat}{op:Op}{ty:TypeId}{pos:String}{after:Array Edge}{j:Nat}{b:Bool}{v:A}(hd:zah N dst=true)(hw:za6 ops (zaj T (({dst:=dst,op:=op,type:=ty,pos:=pos,after:=after,guard:=some (j,b)}:Oper).looksAt ops)) {dst:=dst,op:=op,type:=ty,pos:=pos,after:=after,guard:=some (j,b)}=some true)(hv:sOp L (zaj T (({dst:=dst,op:=op,type:=ty,pos:=pos,after:=after,guard:=some (j,b)}:Oper).looksAt ops)) op=some v)(k:Pl P N L ops Q rest (put dst v T) H):Pl P N L ops Q ({dst:=dst,op:=op,type:=ty,pos:=pos,after:=after,guard:=some (j,b)}::rest) T H:=⟨Plan.pure hd hw hv k.out⟩
theorem Pl.eqStruct{ops:Array Oper}{rest:List Oper}{Q:Env→Heap→Prop}{dst:Option Nat}{bop:BinOp}{xt yt:TypeId}{x y:Operand}{ty:TypeId}{pos:String}{after:Array Edge}{guard:Option (Nat×Bool)}{xs ys:List A}{ti:TI}{fs:List (Nat×Nat)}{b:Bool}{v:A}(hE:EqT P xt)(hd:zah N dst=true)(hw:za6 ops (zaj T ((⟨dst,.binOp bop xt x y yt,ty,pos,after,guard⟩:Oper).looksAt ops)) ⟨dst,.binOp bop xt x y yt,ty,pos,after,guard⟩=some true)
  (hn:sOp L (zaj T ((⟨dst,.binOp bop xt x y yt,ty,pos,after,guard⟩:Oper).looksAt ops)) (.binOp bop xt x y yt)=none)
  (hx:ev (zaj T ((⟨dst,.binOp bop xt x y yt,ty,pos,after,guard⟩:Oper).looksAt ops)) x=some (.agg xs)) (hy:ev (zaj T ((⟨dst,.binOp bop xt x y yt,ty,pos,after,guard⟩:Oper).looksAt ops)) y=some (.agg ys))
  (ht:lay L xt=some ti) (htd:ti.td=.struct fs) (hb:zbb L fs xs ys=some b) (h:(match (generalizing:=false) bop with|.eql=>some (A.bool b)|.neq=>some (A.bool !b)|_=>none)=some v) (k:Pl P N L ops Q rest (put dst v T) H):Pl P N L ops Q (⟨dst,.binOp bop xt x y yt,ty,pos,after,guard⟩::rest) T H:=⟨Plan.pureX hd hw (zp8 hE hn hx hy ht htd hb h) k.out⟩
theorem Pl.quiet{ops:Array Oper}{rest:List Oper}{Q:Env→Heap→Prop}{dst:Option Nat}{op:Op}{ty:TypeId}{pos:String}{after:Array Edge}{guard:Option (Nat×Bool)}{v:A}(hd:zah N dst=true)(hw:za6 ops (zaj T ((⟨dst,op,ty,pos,after,guard⟩:Oper).looksAt ops)) ⟨dst,op,ty,pos,after,guard⟩=some true)(hcl:Nat.beq (cls ⟨dst,op,ty,pos,after,guard⟩) 0=false)(h:AOp P N [] ⟨dst,op,ty,pos,after,guard⟩ [] (Qn ⟨dst,op,ty,pos,after,guard⟩ (zaj T ((⟨dst,op,ty,pos,after,guard⟩:Oper).looksAt ops)) fun r H'=>r=v∧H'=H) (zaj T ((⟨dst,op,ty,pos,after,guard⟩:Oper).looksAt ops)) H)(k:Pl P N L ops Q rest (put dst v T) H):Pl P N L ops Q (⟨dst,op,ty,pos,after,guard⟩::rest) T H:=⟨Plan.quiet hd hw hcl h k.out⟩
theorem Pl.eff1{ops:Array Oper}{rest:List Oper}{Q:Env→Heap→Prop}{dst:Option Nat}{op:Op}{ty:TypeId}{pos:String}{after:Array Edge}{guard:Option (Nat×Bool)}{v:A}{H1:Heap}(hd:zah N dst=true)(hw:za6 ops (zaj T ((⟨dst,op,ty,pos,after,guard⟩:Oper).looksAt ops)) ⟨dst,op,ty,pos,after,guard⟩=some true)(hcl:cls ⟨dst,op,ty,pos,after,guard⟩=2)(h:AOp P N [] ⟨dst,op,ty,pos,after,guard⟩ [] (Qn ⟨dst,op,ty,pos,after,guard⟩ (zaj T ((⟨dst,op,ty,pos,after,guard⟩:Oper).looksAt ops)) fun r H'=>r=v∧H'=H1) (zaj T ((⟨dst,op,ty,pos,after,guard⟩:Oper).looksAt ops)) H)(k:Pl P N L ops Q rest (put dst v T) H1):Pl P N L ops Q (⟨dst,op,ty,pos,after,guard⟩::rest) T H:=⟨Plan.eff1 hd hw hcl h k.out⟩
theorem Pl.effN{ops:Array Oper}{rest:List Oper}{Q:Env→Heap→Prop}{dst:Option Nat}{op:Op}{ty:TypeId}{pos:String}{after:Array Edge}{guard:Option (Nat×Bool)}{f:Nat→A}{g:Nat→Heap}{Hx:Heap}(hd:zah N dst=true)(hw:za6 ops (zaj T ((⟨dst,op,ty,pos,after,guard⟩:Oper).looksAt ops)) ⟨dst,op,ty,pos,after,guard⟩=some true)(hcl:cls ⟨dst,op,ty,pos,after,guard⟩=2)(h:AOp P N [] ⟨dst,op,ty,pos,after,guard⟩ [] (Qn ⟨dst,op,ty,pos,after,guard⟩ (zaj T ((⟨dst,op,ty,pos,after,guard⟩:Oper).looksAt ops)) fun v H'=>∃r,r∉keys Hx∧v=f r∧H'=g r) (zaj T ((⟨dst,op,ty,pos,after,guard⟩:Oper).looksAt ops)) H)(k:∀r,r∉keys Hx→Pl P N L ops Q rest (put dst (f r) T) (g r)):Pl P N L ops Q (⟨dst,op,ty,pos,after,guard⟩::rest) T H:=⟨Plan.effN hd hw hcl h fun r hr=>(k r hr).out⟩
theorem Pl.guardCase{ops:Array Oper}{rest:List Oper}{Q:Env→Heap→Prop}{dst:Option Nat}{op:Op}{ty:TypeId}{pos:String}{after:Array Edge}{j d:Nat}{b b':Bool}(hd:(ops[j]?).bind (·.dst)=some d)(ht:get T d=some (.bool b'))(h1:b'=true→Pl P N L ops Q ({dst:=dst,op:=op,type:=ty,pos:=pos,after:=after,guard:=some (j,b)}::rest) ((d,.bool true)::T) H)(h2:b'=false→Pl P N L ops Q ({dst:=dst,op:=op,type:=ty,pos:=pos,after:=after,guard:=some (j,b)}::rest) ((d,.bool false)::T) H):Pl P N L ops Q ({dst:=dst,op:=op,type:=ty,pos:=pos,after:=after,guard:=some (j,b)}::rest) T H:=⟨Plan.guardCase I hd ht (fun e=>(h1 e).out) fun e=>(h2 e).out⟩
theorem AOps.sim{ops rest:List Oper}{dst:Option Nat}{op:Op}{ty:TypeId}{pos:String}{after:Array Edge}{v:A}(hL:zaq P L)(h:sOp L T op=some v)(hd:zah N dst=true)(k:AOps P N ops rest Q (put dst v T) H):AOps P N ops ({dst:=dst,op:=op,type:=ty,pos:=pos,after:=after,guard:=none}::rest) Q T H:=AOps.simple hL I h hd k
theorem AOps.simW{ops rest:List Oper}{dst:Option Nat}{op:Op}{ty:TypeId}{pos:String}{after:Array Edge}{v:A}{j d:Nat}{b:Bool}(hL:zaq P L)(hdj:(ops[j]?).bind (·.dst)=some d)(ht:get T d=some (.bool b))(h:sOp L T op=some v)(hd:zah N dst=true)(k:AOps P N ops rest Q (put dst v T) H):AOps P N ops ({dst:=dst,op:=op,type:=ty,pos:=pos,after:=after,guard:=some (j,b)}::rest) Q T H:=AOps.simpleW hL I hdj ht h hd k
theorem AOps.pln{ops rest:List Oper}{dst:Option Nat}{op:Op}{ty:TypeId}{pos:String}{after:Array Edge}(h:AOp P N ops {dst:=dst,op:=op,type:=ty,pos:=pos,after:=after,guard:=none} rest Q T H):AOps P N ops ({dst:=dst,op:=op,type:=ty,pos:=pos,after:=after,guard:=none}::rest) Q T H:=AOps.plain I h
theorem AOps.wtd{ops rest:List Oper}{dst:Option Nat}{op:Op}{ty:TypeId}{pos:String}{after:Array Edge}{j d:Nat}{b:Bool}(hdj:(ops[j]?).bind (·.dst)=some d)(ht:get T d=some (.bool b))(hd:zah N dst=true)(h:AOp P N ops {dst:=dst,op:=op,type:=ty,pos:=pos,after:=after,guard:=some (j,b)} rest Q T H):AOps P N ops ({dst:=dst,op:=op,type:=ty,pos:=pos,after:=after,guard:=some (j,b)}::rest) Q T H:=AOps.wanted I hdj ht hd h
end
section
variable{P:Program}{N:NN}{Q:Exit→Env→Heap→Prop}{T:Env}{H:Heap}{ops rest:List Oper}{dst:Option Nat}{ty:TypeId}{pos:String}{after:Array Edge}{guard:Option (Nat×Bool)}{L:Lay}
theorem ze3(h:Array Obj)(o:Obj)(f:Obj→Obj):(h.push o).modify h.size f=h.push (f o):=by
 apply Array.ext
 ·simp
 ·intro i h1 h2
  simp only[Array.getElem_modify,Array.getElem_push];split<;>split<;>simp_all
  all_goals omega
theorem zjc(w:World)(e:TypeId)(s:List UInt8)(hm:s.length≤maxLen):∃(cap:Nat) (c:Array Value) (f:Nat×Nat),(Conv.stringToBytes e ⟨s.toArray⟩).run P w=.ok (.slice (some ⟨w.heap.size,0,none⟩) s.length cap) (w.drew.alloc (.cells c e f))∧
  s.length≤cap∧cap≤maxLen∧∀i,i<s.length→c[i]?=some (.int .u8 ((s.getD i 0).toNat)):=by
 have hsz:(ByteArray.mk s.toArray).size=s.length:=by simp[ByteArray.size]
 generalize hcap:(Question.appendCap s.length 0 e).cut (w.tape w.drawn (Question.appendCap s.length 0 e))=cap
 have h1:s.length≤cap∧cap≤maxLen:=by
  rw[←hcap];simp only[Question.cut];have hp:0<2^63 - s.length:=by simp only[maxLen] at hm;omega
  have:=Nat.mod_lt (w.tape w.drawn (Question.appendCap s.length 0 e)) hp;simp only[maxLen] at*;omega
 refine⟨cap,(s.toArray.map fun b=>Value.int .u8 b.toNat)++Array.replicate (cap - s.length) (.int .u8 0),(s.length+(cap - s.length),s.length+(cap - s.length)+1),?_,h1.1,h1.2,?_⟩
 ·simp only[Conv.stringToBytes,Sem.run_bind,hsz]
  rw[Go.run_choose_drew];have hf:(Question.appendCap s.length 0 e).forced=false:=by simp[Question.forced]
  simp only[hf,hcap];simp only[bZ,bP,Result.andThen_ok,newRow,Sem.run_bind,Go.run_newObj_alloc,Sem.run_pure,markStringish]
  generalize hc:(Array.map (fun(b:UInt8)=>Value.int .u8 (b.toNat:Int)) s.toArray++Array.replicate (cap - s.length) (Value.int .u8 0):Array Value)=c
  have hcs:c.size=s.length+(cap - s.length):=by rw[←hc];simp
  have hsh:(w.drew.alloc (.cells c e)).shape? w.drew.heap.size=some (e,c.size):=by simp only[World.shape?,heap_alloc_new w.drew (.cells c e)]
  have hsh':(shape w.drew.heap.size).run P (w.drew.alloc (.cells c e))=.ok (some (e,c.size)) (w.drew.alloc (.cells c e)):=by rw[←hsh];rfl
  rw[hsh'];simp only[Result.andThen_ok,Sem.run_bind];have hfr:(freeze {block:=w.drew.heap.size,off:=c.size} 1).run P (w.drew.alloc (.cells c e))=.ok () ((w.drew.alloc (.cells c e)).freeze {block:=w.drew.heap.size,off:=c.size} 1):=rfl;rw[hfr];simp only[Result.andThen_ok,Sem.run_pure];have hw:(w.drew.alloc (.cells c e)).freeze {block:=w.drew.heap.size,off:=c.size} 1=w.drew.alloc (.cells c e (c.size,c.size+1)):=by
   simp only[World.freeze,World.alloc,ze3];simp
  rw[hw,hcs];rfl
 ·intro i hi
  rw[Array.getElem?_append_left (by simpa using hi)];simp[hi]
theorem Ext.newU(H:Heap)(w:World)(o:Obj):Ext H w H (w.alloc o) where
 os:=rfl
 tape:=rfl
 output:=rfl
 size:=by simp
 same k hk _:=za3 w o k hk
 keys k hk:=.inl hk
 shape k hk c T f h:=by rw[za3 w o k hk] at h;exact⟨c,f,h,I⟩
theorem Sim.newU{fr:Nat→Prop}{H:Heap}{w:World}(s:Sim fr H w)(o:Obj):Sim fr H (w.alloc o) where
 nodup:=s.nodup
 apart:=s.apart
 old k h:=by have:=s.old k h;simp;omega
 ok p hp:=(s.ok p hp).mono (Ext.newU H w o).stays (za3 w o _ (s.ok p hp).lt)
def zaM(b:UInt8):List A:=[.int .u8 (b.toNat:Int)]
theorem AOp.toBytes{src dt e:TypeId}{x:Operand}{s:List UInt8}{i j ei:TI}(hL:zaq P L)(hx:ev T x=some (.str s))(hs:lay L src=some i)(hj:lay L dt=some j)(ht:j.td=.slice e)(hei:lay L e=some ei)(het:ei.td=.int .u8)(hd:zah N dst=true)
  (kk:AOps P N ops rest Q (put dst (.ds (s.map zaM)) T) H):AOp P N ops ⟨dst,.convert src dt x,ty,pos,after,guard⟩ rest Q T H:=by
 refine AOp.sem (R:=fun v' H'=>v'=.ds (s.map zaM)∧H'=H) (fun fr w act sm st=>?_) hd (fun v H' h=>by obtain⟨rfl,rfl⟩:=h;exact kk)
 have hu:=zag st hx
 generalize h1:act.eval x=v at hu
 cases hu with
 |str _ hm=>
 obtain⟨d,hd1,hd2⟩:=(hL _ _ hs).und;have hsl:=zaW (hL _ _ hj) ht;obtain⟨d2,he1,he2⟩:=(hL _ _ hei).und;have he:d2=.int .u8:=by rw[het] at he2;cases d2<;>simp[tdOf] at he2;subst he2;rfl
 subst he;obtain⟨cap,c,f,hr,hc1,hc2,hc3⟩:=zjc (P:=P) w e s hm;have hE:Ext H w H (w.drew.alloc (.cells c e f)):=(Ext.drew H w).trans (Ext.newU H w.drew _);have hS:Sim fr H (w.drew.alloc (.cells c e f)):=sm.drew.newU _;refine⟨w.drew.alloc (.cells c e f),_,.slice (some ⟨w.heap.size,0,none⟩) s.length cap,H,.inl ?_,⟨I,I⟩,hS,?_,hE⟩
 ·simp only[execOp,h1,convert,Sem.run_bind,run_underlying hd1,run_underlying hsl,run_underlying he1,Result.andThen_ok,hr,Sem.run_pure]
 ·have:=Rep.ds (w:=w.drew.alloc (.cells c e f)) (own:=own fr H) (s.map zaM) ⟨w.heap.size,0,none⟩ cap 1 (fun i _=>.int .u8 ((s.getD i 0).toNat)) (by simpa using hc1) hc2 (fun i hi=>by simp[zaM]) (fun i j hi hj=>⟨fun h=>?_,?_⟩) (fun i hi j hj=>?_)
  ·simpa using this
  ·rcases h with h|h
   ·exact(zba sm).2 h
   ·exact(zba sm).1 h
  ·obtain rfl:j=0:=by omega
   have hi:i<s.length:=by simpa using hi
   have h2:=heap_alloc_new w.drew (.cells c e f);have h2':(w.drew.alloc (.cells c e f)).heap[w.heap.size]?=some (.cells c e f):=h2;have e1:(⟨w.heap.size,0,none⟩:Addr).add (i*1+0)=⟨w.heap.size,i,none⟩:=by rw[add_plain];simp
   rw[e1];simp only[World.cell?,h2'];simpa using hc3 i hi
  ·have hi':i<s.length:=by simpa using hi
   have hj0:j=0:=by simp[zaM] at hj;omega
   subst hj0;simp only[co,zaM,bQ];rw[show s.getD i 0=s[i] by simp[hi']]
   refine .int _ _ (zhV.2 ?_)
   have:=s[i].toNat_lt;omega
theorem zji{w:World}{r n:Nat}{c:Array Value}{e:TypeId}(h:w.heap[r]?=some (.cells c e (0,0))):(w.freeze {block:=r,off:=n} 1).heap[r]?=some (.cells c e (n,n+1))∧
  (∀k,k≠r→(w.freeze {block:=r,off:=n} 1).heap[k]?=w.heap[k]?)∧(w.freeze {block:=r,off:=n} 1).heap.size=w.heap.size:=by
 have hlt:=(Array.getElem?_eq_some_iff.1 h).1;refine⟨?_,fun k hk=>?_,?_⟩
 ·simp only[World.freeze]
  simp only[Nat.succ_ne_zero,bP,Array.getElem?_modify,h];simp
 ·simp only[World.freeze]
  simp only[Nat.succ_ne_zero,bP,Array.getElem?_modify];rw[ac (by omega)]
 ·simp[World.freeze]
theorem zhC{src e r:Nat}{x:Operand}{elems:List (List A)}{Hr:Heap}{j ei:TI}(hL:zaq P L)(hx:ev T x=some (.os r 1 0 elems.length))(hj:lay L src=some j)(ht:j.td=.slice e)(hei:lay L e=some ei)(het:ei.td=.int .u8):
  zky P N ⟨dst,.convert src src x,ty,pos,after,guard⟩ T ((r,.row e 1 elems)::Hr) fun v' H'=>v'=.ds elems∧H'=Hr:=by
 intro fr w act sm st;have hu:=zag st hx
 generalize h1:act.eval x=v at hu
 cases hu with
 |os _ _ _ _ cap hrr hcap hmax hroom=>
 have hsl:=zaW (hL _ _ hj) ht;obtain⟨d2,he1,he2⟩:=(hL _ _ hei).und;have he:d2=.int .u8:=by rw[het] at he2;cases d2<;>simp[tdOf] at he2;subst he2;rfl
 subst he;obtain⟨c,g1,g2,g3,g4⟩:=sm.ok _ aE;have hnd:=List.nodup_cons.1 (show(r::keys Hr).Nodup from sm.nodup)
 obtain⟨f1,f2,f3⟩:=zji (n:=c.size) g1
 generalize hw:w.freeze {block:=r,off:=c.size} 1=w' at f1 f2 f3
 have hE:Ext ((r,Blk.row e 1 elems)::Hr) w Hr w':=⟨by rw[←hw];simp[World.freeze],by rw[←hw];simp[World.freeze],by rw[←hw];simp[World.freeze],by omega,fun k _ hk=>f2 k (fun h=>hk (by subst h;simp[keys])),fun k hk=>.inl (aB _ hk),fun k hk c' T' f' h=>by
  by_cases hkr:k=r
  ·subst hkr;rw[f1] at h;cases h;exact⟨c,_,g1,I⟩
  ·rw[f2 k hkr] at h;exact⟨c',f',h,I⟩⟩
 have hst:=hE.stays (fr:=fr);refine⟨w',_,.slice (some ⟨r,0*1,none⟩) elems.length cap,Hr,.inl ?_,⟨I,I⟩,⟨hnd.2,fun k hk=>sm.apart k (aB _ hk),fun k hk=>by have:=sm.old k hk;omega,fun p hp=>?_⟩,?_,hE⟩
 ·have hsh:(shape r).run P w=.ok (some (e,c.size)) w:=by
   have:w.shape? r=some (e,c.size):=by simp only[World.shape?,g1]
   rw[←this];rfl
  have hfr:(freeze {block:=r,off:=c.size} 1).run P w=.ok () (w.freeze {block:=r,off:=c.size} 1):=rfl;simp only[execOp,h1,convert,Sem.run_bind,run_underlying hsl,run_underlying he1,Result.andThen_ok,cV,markStringish,hsh,hfr,hw,Sem.run_pure]
 ·refine(sm.ok p (aB _ hp)).mono hst (f2 _ fun h=>hnd.1 (List.mem_map.2 ⟨p,hp,h⟩))
 ·have hg:∀i (hi:i<elems.length),∃v,c[i]?=some v∧∀(h0:0<elems[i].length),Rep w (own fr ((r,Blk.row e 1 elems)::Hr)) (elems[i][0]) v:=fun i hi=>by
   obtain⟨v,h2,h3,_⟩:=g4 i hi 0 (by rw[g3 i hi];omega);exact⟨v,by simpa using h2,fun _=>h3⟩
  refine Rep.ds (w:=w') (own:=own fr Hr) elems ⟨r,0*1,none⟩ cap 1 (fun i _=>(c[i]?).getD undef) hcap hmax (fun i hi=>g3 i hi) (fun i j hi hj=>⟨fun h=>?_,?_⟩) (fun i hi j hj=>?_)
  ·rcases h with h|h
   ·exact sm.apart r (by simp[keys]) h
   ·exact hnd.1 h
  ·obtain rfl:j=0:=by omega
   obtain⟨v,h2,h3⟩:=hg i hi;have e1:(⟨r,0*1,none⟩:Addr).add (i*1+0)=⟨r,i,none⟩:=by rw[add_plain];simp
   rw[e1];simp only[World.cell?,f1,h2];simp
  ·have:=g3 i hi
   obtain rfl:j=0:=by omega
   obtain⟨v,h2,h3⟩:=hg i hi;simp only[h2,bT];exact(h3 _).mono hst
theorem AOp.litBytes{src e r:Nat}{x:Operand}{elems:List (List A)}{Hr:Heap}{j ei:TI}(hL:zaq P L)(hx:ev T x=some (.os r 1 0 elems.length))(hj:lay L src=some j)(ht:j.td=.slice e)(hei:lay L e=some ei)(het:ei.td=.int .u8)(hd:zah N dst=true)
  (kk:AOps P N ops rest Q (put dst (.ds elems) T) Hr):AOp P N ops ⟨dst,.convert src src x,ty,pos,after,guard⟩ rest Q T ((r,.row e 1 elems)::Hr):=
 AOp.sem (zhC hL hx hj ht hei het) hd (fun v H' h=>by obtain⟨rfl,rfl⟩:=h;exact kk)
inductive SubL:List A→List A→Prop
 |nil:SubL [] []
 |cons {x y:A} {xs ys:List A} (h:Sub x y) (t:SubL xs ys):SubL (x::xs) (y::ys)
theorem SubL.rep{w:World}{o:Nat→Prop}:∀{xs ys:List A} {vs:List Value},SubL xs ys→RepL w o xs vs→RepL w o ys vs
 |_,_,_,.nil,h=>h
 |_,_,_,.cons h t,.cons a b=>.cons (h _ _ _ a) (t.rep b)
theorem Sub.agg{xs ys:List A}(h:SubL xs ys):Sub (.agg xs) (.agg ys):=fun w o v hr=>by
 obtain⟨cs,rfl,hl⟩:=hr.agg_inv;have:=Rep.agg_of (h.rep hl);simpa using this
theorem PTr.subL{f:FuncId}{args args':List A}{v:A}(h:PTr P f args v)(hs:SubL args' args):PTr P f args' v:=h.sub fun w o vs a=>hs.rep a
theorem AOp.callS{callee:Operand}{args:List Operand}{ats:Array TypeId}{f:FuncId}{first cap as bs:List A}{v:A}(hf:ev T callee=some (.fn f first cap))(ha:evs T args=some as)(hd:zah N dst=true)
  (ht:PTr P f bs v) (hs:SubL (first++as++cap) bs) (k:AOps P N ops rest Q (put dst v T) H):
  AOp P N ops ⟨dst,.call {callee:=.value callee,args:=args.toArray,argTypes:=ats},ty,pos,after,guard⟩ rest Q T H:=
 AOp.callP hf ha hd (ht.subL hs) k
end
def ze4:A→A→Option Bool
 |.int k a,.int k' b=>match decide (k=k') with
  |true=>some (a==b)
  |false=>none
 |.str a,.str b=>some (a==b)
 |_,_=>none
def zbC(x:A):List (A×A)→Option (Option (Nat×A))
 |[]=>some none
 |(k,v)::es=>match ze4 x k with
  |some true=>some (some (0,v))
  |some false=>match zbC x es with
   |some (some (i,u))=>some (some (i+1,u))
   |some none=>some none
   |none=>none
  |none=>none
def zfR:TD→A→Bool
 |.int _,.int _ _=>true
 |.string,.str _=>true
 |_,_=>false
def putM(es:List (A×A))(x v:A):Option (List (A×A)):=match zbC x es with
 |some (some (i,_))=>some (es.set i (x,v))
 |some none=>some (es++[(x,v)])
 |none=>none
def zpI(i:TI):A:=if i.td.isAgg then .agg i.zero else i.zero.headD default
section
variable{P:Program}{N:NN}{Q:Exit→Env→Heap→Prop}{T:Env}{H:Heap}{ops rest:List Oper}{L:Lay}{dst:Option Nat}{ty:TypeId}{pos:String}{after:Array Edge}{guard:Option (Nat×Bool)}
theorem zeU{t:Nat}{ti:TI}(h:TIOk P t ti){w:World}{o:Nat→Prop}{x:A}{u:Value}(hu:Rep w o x u)(hk:zfR ti.td x=true)(e:Bool):(Instr.checkKey e 10000 t u).run P w=.ok () w:=by
 unfold zfR at hk;split at hk
 ·rename_i htd
  cases hu;have:=zfV h htd
  show(Instr.checkKey e (9999+1) t _).run P w=_
  unfold Instr.checkKey;simp only[Sem.run_bind,run_underlying this,Result.andThen];rfl
 ·rename_i htd
  cases hu;have:=zbf h htd
  show(Instr.checkKey e (9999+1) t _).run P w=_
  unfold Instr.checkKey;simp only[Sem.run_bind,run_underlying this,Result.andThen];rfl
 ·cases hk
theorem zgr{kind:TypeDesc}{td:TD}(hkd:(∃k,kind=.int k∧td=.int k)∨(kind=.string∧td=.string)){w:World}{o:Nat→Prop}{x k:A}{u v:Value}(hu:Rep w o x u)(hv:Rep w o k v)(ht:zfR td x=true){b:Bool}(h:ze4 x k=some b):Instr.sameNow kind u v=some b:=by
 unfold ze4 at h;split at h
 ·split at h
  ·rename_i hk
   have hk:=aj hk;subst hk;cases h;cases hu;cases hv;rcases hkd with ⟨k,rfl,rfl⟩|⟨rfl,rfl⟩
   ·simp[Instr.sameNow]
   ·simp[zfR] at ht
  ·cases h
 ·cases h
  cases hu;cases hv;rcases hkd with ⟨k,rfl,rfl⟩|⟨rfl,rfl⟩
  ·simp[zfR] at ht
  ·rename_i a b _ _
   have key:((⟨a.toArray⟩:ByteArray)==⟨b.toArray⟩)=(a==b):=by
    by_cases hab:a=b
    ·subst hab;rw[(MapKept.bytes_beq _ _).2 I];simp
    ·have:(⟨a.toArray⟩:ByteArray)≠⟨b.toArray⟩:=by
      intro e;apply hab;have:=ai (fun z:ByteArray=>z.data.toList) e;simpa using this
     rw[beq_eq_false_iff_ne.2 hab];cases hq:((⟨a.toArray⟩:ByteArray)==⟨b.toArray⟩)
     ·rfl
     ·exact absurd ((MapKept.bytes_beq _ _).1 hq) this
   simp only[Instr.sameNow,key]
 ·cases h
theorem zdB{kind:TypeDesc}{td:TD}(hkd:(∃k,kind=.int k∧td=.int k)∨(kind=.string∧td=.string)){w:World}{o:Nat→Prop}{x:A}{u:Value}(hu:Rep w o x u)(ht:zfR td x=true):
  ∀(es:List (A×A)) (ms:List MapEntry) (i:Nat),ms.length=es.length→(∀j (hj:j<es.length),∃m,ms[j]?=some m∧Rep w o es[j].1 m.key∧Rep w o es[j].2 m.val)→∀r,zbC x es=some r→
  (r=none∧Instr.findNow kind u ms i=some none)∨∃j v v',r=some (j,v)∧j<es.length∧Instr.findNow kind u ms i=some (some (i+j,v'))∧Rep w o v v'
 |[],ms,i,hl,_,r,h=>by
  have:ms=[]:=by simpa using hl
  subst this;simp only[zbC] at h;cases h;exact .inl ⟨I,I⟩
 |(k,v)::es,[],i,hl,_,r,h=>by simp at hl
 |(k,v)::es,m::ms,i,hl,hm,r,h=>by
  obtain⟨m',h1,h2,h3⟩:=hm 0 (by simp);simp at h1 h2 h3;subst h1;simp only[zbC] at h;split at h
  ·rename_i hk
   cases h;refine .inr ⟨0,v,m.val,I,by simp,?_,h3⟩
   simp only[Instr.findNow,zgr hkd hu h2 ht hk,bG]
  ·rename_i hk
   have hs:=zgr hkd hu h2 ht hk;have ih:=zdB hkd hu ht es ms (i+1) (by simpa using hl) fun j hj=>by
    have:=hm (j+1) (by simpa using hj);simpa using this
   split at h
   ·rename_i q w' hq
    cases h;rcases ih _ hq with ⟨e,_⟩|⟨j,v1,v2,e,hj,e2,hr⟩
    ·cases e
    ·cases e
     refine .inr ⟨q+1,w',v2,I,by simp;omega,?_,hr⟩
     simp only[Instr.findNow,hs,e2];congr 3;omega
   ·rename_i hq
    cases h;rcases ih _ hq with ⟨_,e2⟩|⟨j,v1,v2,e,_⟩
    ·exact .inl ⟨I,by simp only[Instr.findNow,hs,e2]⟩
    ·cases e
   ·cases h
  ·cases h
theorem znj{kt:Nat}{ki:TI}(hk:TIOk P kt ki){x:A}(h:zfR ki.td x=true):∃kind,P.underlying kt=some kind∧((∃k,kind=.int k∧ki.td=.int k)∨(kind=.string∧ki.td=.string)):=by
 unfold zfR at h;split at h
 ·rename_i htd;exact⟨_,zfV hk htd,.inl ⟨_,I,htd⟩⟩
 ·rename_i htd;exact⟨_,zbf hk htd,.inr ⟨I,htd⟩⟩
 ·cases h
theorem znk{t:Nat}{i:TI}(h:TIOk P t i)(w:World):∃z,(zeroValue t).run P w=.ok z w∧∀w o,Rep w o (zpI i) z:=by
 obtain⟨z,h1,_,_,h4⟩:=zdv h w;exact⟨z,h1,h4⟩
theorem AOp.makeMap{t:TypeId}(hd:zah N dst=true)(k:∀r,r∉keys H→AOps P N ops rest Q (put dst (.map r) T) ((r,.map [])::H)):
  AOp P N ops ⟨dst,.makeMap t none,ty,pos,after,guard⟩ rest Q T H:=by
 refine AOp.sem (R:=fun v' H'=>∃r,r∉keys H∧v'=.map r∧H'=(r,.map [])::H) (fun fr w act s st=>?_) hd ?_
 ·refine⟨w.alloc (.map #[] 0),_,.map (some w.heap.size),_,.inl ?_,⟨w.heap.size,(zba s).1,I,I⟩,s.new ?_,.map _,Ext.new H w _ _⟩
  ·simp only[execOp,cq,Instr.makeMap,Sem.run_bind,run_newObj,Result.andThen_ok,Sem.run_pure];rfl
  ·exact⟨#[],0,by rw[heap_alloc_new],I,fun i hi=>absurd hi (bW i)⟩
 ·rintro v' H' ⟨r,h1,rfl,rfl⟩
  exact k r h1
def zsW(ok:Bool)(ei:TI):Option (Nat×A)→A
 |some (_,v)=>match ok with|true=>.tup [v,.bool true]|false=>v
 |none=>match ok with|true=>.tup [zpI ei,.bool false]|false=>zpI ei
theorem AOp.lookup{t kt et:TypeId}{x ix:Operand}{ok:Bool}{r:Nat}{es:List (A×A)}{key:A}{ti ki ei:TI}{res:Option (Nat×A)}(hL:zaq P L)(hx:ev T x=some (.map r))(hm:(r,Blk.map es)∈H)(hi:ev T ix=some key)
  (ht:lay L t=some ti) (htd:ti.td=.map kt et) (hki:lay L kt=some ki) (hkt:zfR ki.td key=true) (hei:lay L et=some ei) (hf:zbC key es=some res) (hd:zah N dst=true)
  (kk:AOps P N ops rest Q (put dst (zsW ok ei res) T) H):AOp P N ops ⟨dst,.lookup t x ix ok,ty,pos,after,guard⟩ rest Q T H:=
 AOp.pure (fun fr w act s st=>by
  have hu:=zag st hx
  generalize h1:act.eval x=u at hu
  cases hu;have hv:=zag st hi;obtain⟨e,clock,hg,hsz,hes⟩:=s.ok _ hm;obtain⟨kind,hkind,hkd⟩:=znj (hL _ _ hki) hkt;have hund:=zjL (hL _ _ ht) htd;obtain⟨z,hz,hzr⟩:=znk (hL _ _ hei) w;have hck:=zeU (hL _ _ hki) hv hkt e.isEmpty;have hget:(getObj r).run P w=.ok (.map e clock) w:=by simp[getObj,Sem.run,hg]
  rcases zdB hkd hv hkt es e.toList 0 (by simpa using hsz) (fun j hj=>by
   obtain⟨m,k1,k2,k3⟩:=hes j hj;exact⟨m,by simpa using k1,k2,k3⟩) res hf with ⟨rfl,hfn⟩|⟨j,v1,v2,rfl,hj,hfn,hr⟩
  ·have hfk:(Instr.findKey kt (act.eval ix) e.toList).run P w=.ok none w:=by
    simp[Instr.findKey,underlying,hkind,hfn]
   cases ok with
   |true=>exact⟨.tuple #[z,.bool false],by simp[execOp,h1,Instr.lookup,underlying,hund,hget,hck,hfk,hz],Rep.tup_of (.cons (hzr _ _) (.cons (.bool false) .nil))⟩
   |false=>exact⟨z,by simp[execOp,h1,Instr.lookup,underlying,hund,hget,hck,hfk,hz],hzr _ _⟩
  ·have hfk:(Instr.findKey kt (act.eval ix) e.toList).run P w=.ok (some (0+j,v2)) w:=by
    simp[Instr.findKey,underlying,hkind,hfn]
   cases ok with
   |true=>exact⟨.tuple #[v2,.bool true],by simp[execOp,h1,Instr.lookup,underlying,hund,hget,hck,hfk,hz],Rep.tup_of (.cons hr (.cons (.bool true) .nil))⟩
   |false=>exact⟨v2,by simp[execOp,h1,Instr.lookup,underlying,hund,hget,hck,hfk,hz],hr⟩) hd kk
theorem Ext.putObj{H H':Heap}{r:Nat}{b b':Blk}{w:World}(hat:At H r b b' H')(o:Obj)(ho:∀c T f,o≠ .cells c T f):Ext H w H' {w with heap:=w.heap.setIfInBounds r o} where
 os:=rfl
 tape:=rfl
 output:=rfl
 size:=by simp
 same k hk hn:=by
  have:r≠k:=fun e=>hn (e▸List.mem_map.2 ⟨_,hat.mem,I⟩);simp[Array.getElem?_setIfInBounds_ne this]
 keys k hk:=by rw[hat.keys] at hk;exact .inl hk
 shape k hk d T f h:=by
  by_cases hkr:r=k
  ·subst hkr
   simp[hk] at h
   exact absurd h (ho _ _ _)
  ·simp[Array.getElem?_setIfInBounds_ne hkr] at h;exact⟨d,f,by simpa using h,I⟩
theorem Sim.putObj{fr:Nat→Prop}{H H':Heap}{r:Nat}{b b':Blk}{w:World}(s:Sim fr H w)(hat:At H r b b' H')(o:Obj)(ho:∀c T f,o≠ .cells c T f)
  (hb:zdK {w with heap:=w.heap.setIfInBounds r o} (own fr H') r b'):Sim fr H' {w with heap:=w.heap.setIfInBounds r o} where
 nodup:=by rw[hat.keys];exact s.nodup
 apart k hk:=s.apart k (by rw[←hat.keys];exact hk)
 old k h:=by have:=s.old k h;simpa using this
 ok p hp:=by
  rcases hat.cases' s.nodup p hp with rfl|⟨h1,h2⟩
  ·exact hb
  ·exact(s.ok p h1).mono (Ext.putObj hat o ho).stays (by simp[Array.getElem?_setIfInBounds_ne (d5 h2)])
theorem zh8{w:World}{o:Nat→Prop}{x k:A}{u v:Value}(hu:Rep w o x u)(hv:Rep w o k v)(h:ze4 x k=some true)(n:Nat):Instr.sameBits n v u=true:=by
 unfold ze4 at h;split at h
 ·split at h
  ·rename_i hk
   have hk:=aj hk;subst hk;have h:=eq_of_beq (bU h);cases hu;cases hv;subst h;cases n<;>simp[Instr.sameBits]
  ·cases h
 ·have h:=eq_of_beq (bU h)
  cases hu;cases hv;subst h;cases n<;>simp[Instr.sameBits,MapKept.bytes_beq]
 ·cases h
theorem zgQ{x:A}:∀{es:List (A×A)} {i:Nat} {v:A},zbC x es=some (some (i,v))→∃k,es[i]?=some (k,v)∧ze4 x k=some true
 |[],i,v,h=>by simp[zbC] at h
 |(k,u)::es,i,v,h=>by
  simp only[zbC] at h;split at h
  ·rename_i hk;cases h;exact⟨k,I,hk⟩
  ·split at h
   ·rename_i j u' hj
    cases h;obtain⟨k',h1,h2⟩:=zgQ hj;exact⟨k',by simpa using h1,h2⟩
   ·cases h
   ·cases h
  ·cases h
theorem AOp.mapUpdate{t kt et:TypeId}{x ix y:Operand}{r:Nat}{es es':List (A×A)}{key v:A}{ti ki:TI}{H':Heap}(hL:zaq P L)(hx:ev T x=some (.map r))(hi:ev T ix=some key)(hy:ev T y=some v)
  (ht:lay L t=some ti) (htd:ti.td=.map kt et) (hki:lay L kt=some ki) (hkt:zfR ki.td key=true) (hf:putM es key v=some es') (hat:At H r (.map es) (.map es') H') (hd:zah N dst=true)
  (kk:AOps P N ops rest Q (put dst (.tup []) T) H'):AOp P N ops ⟨dst,.mapUpdate t x ix y,ty,pos,after,guard⟩ rest Q T H:=by
 refine AOp.sem (R:=fun v' K=>v'=.tup []∧K=H') (fun fr w act s st=>?_) hd ?_
 ·have hu:=zag st hx
  generalize h1:act.eval x=u at hu
  cases hu;have hv:=zag st hi;have hw:=zag st hy;obtain⟨e,clock,hg,hsz,hes⟩:=s.ok _ hat.mem;obtain⟨kind,hkind,hkd⟩:=znj (hL _ _ hki) hkt;have hund:=zjL (hL _ _ ht) htd;have hck:=zeU (hL _ _ hki) hv hkt false;have hget:(getObj r).run P w=.ok (.map e clock) w:=by simp[getObj,Sem.run,hg]
  have hset:∀o,(setObj r o).run P w=.ok () {w with heap:=w.heap.setIfInBounds r o}:=fun o=>by simp[setObj,Sem.run,hg]
  have hlt:r<w.heap.size:=(Array.getElem?_eq_some_iff.1 hg).1;unfold putM at hf;have hent:∀j (hj:j<es.length),∃m,e.toList[j]?=some m∧Rep w (own fr H) es[j].1 m.key∧Rep w (own fr H) es[j].2 m.val:=fun j hj=>by
   obtain⟨m,k1,k2,k3⟩:=hes j hj;exact⟨m,by simpa using k1,k2,k3⟩
  split at hf
  ·rename_i j vv hj
   cases hf;rcases zdB hkd hv hkt es e.toList 0 (by simpa using hsz) hent _ hj with ⟨e1,_⟩|⟨j',v1,v2,e1,hjl,hfn,hr⟩
   ·cases e1
   ·cases e1
    have hfk:(Instr.findKey kt (act.eval ix) e.toList).run P w=.ok (some (0+j,v2)) w:=by
     simp[Instr.findKey,underlying,hkind,hfn]
    obtain⟨m,k1,k2,k3⟩:=hent j hjl;obtain⟨kk',q1,q2⟩:=zgQ hj;have hkk:es[j].1=kk':=by
     have:=(List.getElem?_eq_some_iff.1 q1).2;rw[this]
    rw[hkk] at k2;have hsb:=zh8 hv k2 q2 10000;have k1':e[j]?=some m:=by simpa using k1
    have hstay:(Instr.keyThatStays (((e[0+j]?).map (·.key)).getD (act.eval ix)) (act.eval ix)).run P w=.ok (act.eval ix) w:=by
     simp[Instr.keyThatStays,k1',hsb]
    let o':Obj:=.map (e.modify (0+j) fun z=>{z with key:=act.eval ix,val:=act.eval y}) clock
    have hne:∀c T f,o'≠Obj.cells c T f:=fun c T f h=>Obj.noConfusion h;refine⟨{w with heap:=w.heap.setIfInBounds r o'},_,undef,H',.inr ⟨?_,I⟩,⟨I,I⟩,s.putObj hat _ hne ?_,Rep.tup_of .nil,Ext.putObj hat _ hne⟩
    ·simp only[aS] at hstay
     simp[execOp,h1,Instr.mapUpdate,underlying,hund,hget,hck,hfk,hset,o',-Array.getElem?_toList]
     have e1:(Option.map (fun x=>x.key) e[j]?).getD (act.eval ix)=((e[j]?).map (·.key)).getD (act.eval ix):=rfl;simp[e1,hstay,hset]
    ·refine⟨e.modify (0+j) fun z=>{z with key:=act.eval ix,val:=act.eval y},clock,by simp[hlt,o'],by simp[hsz],fun i hi=>?_⟩
     have hil:i<es.length:=by simpa using hi
     have st':=(Ext.putObj (w:=w) hat o' hne).stays (fr:=fr);by_cases hij:i=j
     ·subst hij
      refine⟨{m with key:=act.eval ix,val:=act.eval y},?_,?_,?_⟩
      ·simp[Array.getElem?_modify,k1']
      ·simp;exact hv.mono st'
      ·simp;exact hw.mono st'
     ·obtain⟨m2,l1,l2,l3⟩:=hes i hil
      refine⟨m2,?_,?_,?_⟩
      ·rw[Array.getElem?_modify,ac (by omega)];exact l1
      ·rw[dD (by omega)];exact l2.mono st'
      ·rw[dD (by omega)];exact l3.mono st'
  ·rename_i hj
   cases hf;rcases zdB hkd hv hkt es e.toList 0 (by simpa using hsz) hent _ hj with ⟨_,hfn⟩|⟨j',v1,v2,e1,_⟩
   ·have hfk:(Instr.findKey kt (act.eval ix) e.toList).run P w=.ok none w:=by
     simp[Instr.findKey,underlying,hkind,hfn]
    let o':Obj:=.map (e.push {key:=act.eval ix,val:=act.eval y,born:=clock}) (clock+1)
    have hne:∀c T f,o'≠Obj.cells c T f:=fun c T f h=>Obj.noConfusion h;refine⟨{w with heap:=w.heap.setIfInBounds r o'},_,undef,H',.inr ⟨?_,I⟩,⟨I,I⟩,s.putObj hat _ hne ?_,Rep.tup_of .nil,Ext.putObj hat _ hne⟩
    ·simp[execOp,h1,Instr.mapUpdate,underlying,hund,hget,hck,hfk,hset,o']
    ·refine⟨e.push {key:=act.eval ix,val:=act.eval y,born:=clock},clock+1,by simp[hlt,o'],by simp[hsz],fun i hi=>?_⟩
     have st':=(Ext.putObj (w:=w) hat o' hne).stays (fr:=fr);by_cases hij:i<es.length
     ·obtain⟨m2,l1,l2,l3⟩:=hes i hij
      refine⟨m2,?_,?_,?_⟩
      ·rw[Array.getElem?_push_lt (by omega)]
       have:=(Array.getElem?_eq_some_iff.1 l1);obtain⟨hh,he⟩:=this;simp[he]
      ·rw[cO hij];exact l2.mono st'
      ·rw[cO hij];exact l3.mono st'
     ·have hie:i=es.length:=by simp at hi;omega
      subst hie;refine⟨{key:=act.eval ix,val:=act.eval y,born:=clock},by simp[←hsz],?_,?_⟩
      ·simp;exact hv.mono st'
      ·simp;exact hw.mono st'
   ·cases e1
  ·cases hf
 ·rintro v' H' ⟨rfl,rfl⟩
  exact kk
end
section
variable{P:Program}{N:NN}{Q:Exit→Env→Heap→Prop}{T:Env}{H:Heap}{ops rest:List Oper}{L:Lay}{dst:Option Nat}{ty:TypeId}{pos:String}{after:Array Edge}{guard:Option (Nat×Bool)}
theorem Sim.shape{fr:Nat→Prop}{w:World}(s:Sim fr H w){r Te sz:Nat}{elems:List (List A)}(hm:(r,Blk.row Te sz elems)∈H):∃n,w.shape? r=some (Te,n)∧elems.length*sz≤n:=by
 obtain⟨c,h1,h2,_⟩:=s.ok _ hm;exact⟨c.size,by simp only[World.shape?,h1],h2⟩
theorem AOp.toUnsafe{src dt t r sz i o Te:Nat}{x:Operand}{elems:List (List A)}{ti:TI}(hL:zaq P L)(hs:P.underlying src=some (.pointer t))(hdt:P.underlying dt=some .unsafePointer)(hti:lay L t=some ti)(hz:Nat.beq ti.size 0=false)
  (hx:ev T x=some (.ptr r sz i o)) (hm:(r,Blk.row Te sz elems)∈H) (hlt:Nat.blt (i*sz+o) (elems.length*sz)=true) (hd:zah N dst=true) (kk:AOps P N ops rest Q (put dst (.ptr r sz i o) T) H):
  AOp P N ops ⟨dst,.convert src dt x,ty,pos,after,guard⟩ rest Q T H:=
 AOp.pure (fun fr w act s st=>by
  have hu:=zag st hx
  generalize h1:act.eval x=u at hu
  cases hu;obtain⟨n,h2,h3⟩:=s.shape hm;obtain⟨j,z,k1,k2,_⟩:=(hL _ _ hti).info;have hlt:=aj (by simpa only [cI,aL] using hlt:decide (i*sz+o<elems.length*sz)=true);have hj:j.size≠0:=by rw[k2];intro e;rw[e] at hz;cases hz
  have:=Lib.run_to_unsafe (P:=P) w (src:=src) (dst:=dt) ⟨r,i*sz+o,none⟩ hs hdt k1 hj h2 (by show i*sz+o<n;omega)
  exact⟨.pointer (some ⟨r,i*sz+o,none⟩),by simp only[execOp,h1,Sem.run_bind,this,Result.andThen_ok,Sem.run_pure],.ptr _ _ _ _⟩) hd kk
theorem ziN{e:TypeId}{s count:Nat}(hc:P.cellsOf e=s)(hs:s≠0)(hn:1≤count):liesAt P P.depth e count 0 e 1=true:=by
 have hd:P.depth=(2*(P.types.size+Made.depth)+1)+1:=rfl;rw[hd];simp only[liesAt,bp]
 left
 rw[hd];simp[rowAt,hc,hs,hn,sameLayout]
theorem AOp.fromUnsafe{src dt u r sz:Nat}{x:Operand}{elems:List (List A)}{ti:TI}(hL:zaq P L)(hs:P.underlying src=some .unsafePointer)(hdt:P.underlying dt=some (.pointer u))(hti:lay L u=some ti)(hz:Nat.beq ti.size 0=false)
  (hsz:Nat.beq ti.size sz=true) (hne:Nat.beq elems.length 0=false)
  (hx:ev T x=some (.ptr r sz 0 0)) (hm:(r,Blk.row u sz elems)∈H) (hd:zah N dst=true) (kk:AOps P N ops rest Q (put dst (.ptr r sz 0 0) T) H):
  AOp P N ops ⟨dst,.convert src dt x,ty,pos,after,guard⟩ rest Q T H:=
 AOp.pure (fun fr w act s st=>by
  have hu:=zag st hx
  generalize h1:act.eval x=v at hu
  cases hu;obtain⟨n,h2,h3⟩:=s.shape hm;obtain⟨j,z,k1,k2,_⟩:=(hL _ _ hti).info;have hj:ti.size≠0:=by intro e;rw[e] at hz;cases hz
  have hsz:=bB hsz;have hl:elems.length≠0:=by intro e;rw[e] at hne;cases hne
  have hc:=zaY (hL _ _ hti);have h1n:1≤n / P.cellsOf u:=by
   rw[hc,hsz];rw[hsz] at hj;refine(Nat.le_div_iff_mul_le (by omega)).2 ?_
   calc 1*sz≤elems.length*sz:=bJ _ (by omega)
    _≤n:=h3
  have:=Lib.run_from_unsafe (P:=P) w (src:=src) (dst:=dt) ⟨r,0,none⟩ hs hdt k1 h2 (ziN hc hj h1n);have h1':act.eval x=Value.pointer (some ⟨r,0,none⟩):=by rw[h1];simp
  have hr:=Rep.ptr (w:=w) (own:=own fr H) r sz 0 0;simp only[ce,bG] at hr;exact⟨.pointer (some ⟨r,0,none⟩),by simp only[execOp,h1',Sem.run_bind,this,Result.andThen_ok,Sem.run_pure],hr⟩) hd kk
theorem AOp.ptrSame{op:BinOp}{xt yt e:TypeId}{x y:Operand}{r sz i o:Nat}{v:A}{ei:TI}(hL:zaq P L)(hs:P.underlying xt=some (.pointer e))(hei:lay L e=some ei)(hx:ev T x=some (.ptr r sz i o))(hy:ev T y=some (.ptr r sz i o))
  (h:(match op with|.eql=>some (A.bool true)|.neq=>some (A.bool false)|_=>none)=some v) (hd:zah N dst=true) (kk:AOps P N ops rest Q (put dst v T) H):
  AOp P N ops ⟨dst,.binOp op xt x y yt,ty,pos,after,guard⟩ rest Q T H:=
 AOp.pure (fun fr w act s st=>by
  have hu:=zag st hx
  generalize h1:act.eval x=u at hu
  have hv:=zag st hy
  generalize h2:act.eval y=v at hv
  cases hu;cases hv;obtain⟨j,z,k1,k2,_⟩:=(hL _ _ hei).info;have hq:∀d:Nat,(Op.equalIn (d+1) xt (.pointer (some ⟨r,i*sz+o,none⟩)) (.pointer (some ⟨r,i*sz+o,none⟩))).run P w=.ok true w:=fun d=>by
   simp[Op.equalIn,run_underlying hs,sizeOf,typeInfo,k1,run_sameAddr_same]
  have hg:∀op,eqGuard op xt x y (.pointer (some ⟨r,i*sz+o,none⟩)) (.pointer (some ⟨r,i*sz+o,none⟩))=Pure.pure ():=fun op=>zdf I;have hb1:binOp .eql xt (.pointer (some ⟨r,i*sz+o,none⟩)) (.pointer (some ⟨r,i*sz+o,none⟩))=_:=zb5 I I;have hb2:binOp .neq xt (.pointer (some ⟨r,i*sz+o,none⟩)) (.pointer (some ⟨r,i*sz+o,none⟩))=_:=zed I I;cases op<;>simp only at h<;>first|(cases h;done)|skip
  ·cases h
   exact⟨.bool true,by simp only[execOp,h1,h2,Sem.run_bind,hg,Sem.run_pure,Result.andThen_ok,hb1,zcA,hq],.bool _⟩
  ·cases h
   exact⟨.bool false,by simp only[execOp,h1,h2,Sem.run_bind,hg,Sem.run_pure,Result.andThen_ok,hb2,zcA,hq,Bool.not_true],.bool _⟩) hd kk
theorem AOp.callSame {callee y : Operand} {ats : Array TypeId} {f : FuncId} {fn : Func} {v : A} (hf : ev T callee = some (.fn f [] [])) (hy : ev T y = some v) (hfn : P.funcs[f]? = some fn) (hname : (fn.name == "runtime.NumGoroutine") = false)
  (hb:fn.body.isNone=true) (hn:Extern.findNext fn=none) (he:Extern.find fn=some Extern.AbiNoEscape.same) (hd:zah N dst=true) (kk:AOps P N ops rest Q (put dst v T) H):
  AOp P N ops ⟨dst,.call {callee:=.value callee,args:=[y].toArray,argTypes:=ats},ty,pos,after,guard⟩ rest Q T H:=
 AOp.pure (fun fr w act s st=>by
  obtain⟨fs,cs,e1,e2,e3⟩:=(zag st hf).fn_inv;have hv:=zag st hy;have e2':fs=#[]:=by have:=e2.length;simpa using this
  have e3':cs=#[]:=by have:=e3.length;simpa using this
  subst e2' e3';have:=run_callFunc_extern hfn hname hb hn he #[act.eval y] w;exact⟨act.eval y,by
   simp only[execOp,resolve,Deferred.ofValue,invoke,Sem.run_bind,Sem.run_pure,Result.andThen_ok,bq,aU,bk,e1];simpa [Lib.run_noEscape] using this,hv⟩) hd kk
end
section
variable{P:Program}{N:NN}{Q:Exit→Env→Heap→Prop}{T:Env}{H:Heap}{ops rest:List Oper}{L:Lay}{dst:Option Nat}{ty:TypeId}{pos:String}{after:Array Edge}{guard:Option (Nat×Bool)}
theorem AOp.range{t:TypeId}{x:Operand}{s:List UInt8}{ti:TI}(hL:zaq P L)(hx:ev T x=some (.str s))(ht:lay L t=some ti)(htd:ti.td=.string)(hd:zah N dst=true)
  (k:∀r,r∉keys H→AOps P N ops rest Q (put dst (.ptr r 1 0 0) T) ((r,.iter s 0)::H)):
  AOp P N ops ⟨dst,.range t x,ty,pos,after,guard⟩ rest Q T H:=by
 refine AOp.sem (R:=fun v' H'=>∃r,r∉keys H∧v'=.ptr r 1 0 0∧H'=(r,.iter s 0)::H) (fun fr w act sm st=>?_) hd ?_
 ·have hu:=zag st hx
  generalize h1:act.eval x=u at hu
  cases hu;have hr:=Rep.ptr (w:=w.alloc (.stringIter ⟨s.toArray⟩ 0)) (own:=own fr ((w.heap.size,.iter s 0)::H)) w.heap.size 1 0 0;simp only[ce,bG] at hr;refine⟨w.alloc (.stringIter ⟨s.toArray⟩ 0),_,.pointer (some ⟨w.heap.size,0,none⟩),_,.inl ?_,⟨w.heap.size,(zba sm).1,I,I⟩,sm.new ?_,hr,Ext.new H w _ _⟩
  ·simp only[execOp,h1,Instr.range,Sem.run_bind,run_underlying (zbf (hL _ _ ht) htd),run_newObj,Result.andThen_ok,Sem.run_pure]
   rfl
  ·show(w.alloc _).heap[w.heap.size]?=_
   rw[heap_alloc_new]
 ·rintro v' H' ⟨r,h1,rfl,rfl⟩
  exact k r h1
theorem AOp.nextOver{x:Operand}{r sz:Nat}{s:List UInt8}{p:Nat}(hx:ev T x=some (.ptr r sz 0 0))(hm:(r,Blk.iter s p)∈H)(hp:s.length≤p)(hd:zah N dst=true)(kk:AOps P N ops rest Q (put dst (.tup [.bool false]) T) H):
  AOp P N ops ⟨dst,.next x true,ty,pos,after,guard⟩ rest Q T H:=
 AOp.pure (fun fr w act sm st=>by
  have hu:=zag st hx
  generalize h1:act.eval x=u at hu
  cases hu;have hg:w.heap[r]?=some (.stringIter ⟨s.toArray⟩ p):=sm.ok _ hm;have hget:(getObj r).run P w=.ok (.stringIter ⟨s.toArray⟩ p) w:=by simp[getObj,Sem.run,hg]
  have hsz:¬p<(⟨s.toArray⟩:ByteArray).size:=by simp[ByteArray.size];omega
  have h1':act.eval x=.pointer (some ⟨r,0,none⟩):=by rw[h1];simp
  exact⟨.tuple #[.bool false],by simp[execOp,h1',Instr.next,hget,hsz],Rep.tup_of (.cons (.bool _) .nil)⟩) hd kk
theorem AOp.next{x:Operand}{r sz:Nat}{s:List UInt8}{p c wd:Nat}{H':Heap}(hx:ev T x=some (.ptr r sz 0 0))(hat:At H r (.iter s p) (.iter s (p+wd)) H')(hp:p<s.length)(hdec:Utf8.decode ⟨s.toArray⟩ p=(c,wd))(hc:inR .i32 c)(hpr:inR .i64 p)(hd:zah N dst=true)
  (kk:AOps P N ops rest Q (put dst (.tup [.bool true,.int .i64 p,.int .i32 c]) T) H'):
  AOp P N ops ⟨dst,.next x true,ty,pos,after,guard⟩ rest Q T H:=by
 refine AOp.sem (R:=fun v' K=>v'=.tup [.bool true,.int .i64 p,.int .i32 c]∧K=H') (fun fr w act sm st=>?_) hd (fun v H' h=>by obtain⟨rfl,rfl⟩:=h;exact kk)
 have hu:=zag st hx
 generalize h1:act.eval x=u at hu
 cases hu;have hg:w.heap[r]?=some (.stringIter ⟨s.toArray⟩ p):=sm.ok _ hat.mem;have hlt:r<w.heap.size:=(Array.getElem?_eq_some_iff.1 hg).1;have hget:(getObj r).run P w=.ok (.stringIter ⟨s.toArray⟩ p) w:=by simp[getObj,Sem.run,hg]
 have hset:∀o,(setObj r o).run P w=.ok () {w with heap:=w.heap.setIfInBounds r o}:=fun o=>by simp[setObj,Sem.run,hg]
 have hsz:p<(⟨s.toArray⟩:ByteArray).size:=by simpa [ByteArray.size] using hp
 have h1':act.eval x=.pointer (some ⟨r,0,none⟩):=by rw[h1];simp
 have hne:∀c T f,Obj.stringIter ⟨s.toArray⟩ (p+wd)≠Obj.cells c T f:=fun c T f h=>Obj.noConfusion h;refine⟨{w with heap:=w.heap.setIfInBounds r (.stringIter ⟨s.toArray⟩ (p+wd))},_,.tuple #[.bool true,goInt p,.int .i32 c],H',.inl ?_,⟨I,I⟩,sm.putObj hat _ hne ?_,Rep.tup_of (.cons (.bool _) (.cons (.int _ _ hpr) (.cons (.int _ _ hc) .nil))),Ext.putObj hat _ hne⟩
 ·simp[execOp,h1',Instr.next,hget,hsz,hdec,hset]
 ·show({w with heap:=w.heap.setIfInBounds r _}:World).heap[r]?=_
  simp[hlt]
end
section
variable{P:Program}{N:NN}{Q:Exit→Env→Heap→Prop}{T:Env}{H:Heap}{ops rest:List Oper}{L:Lay}{dst:Option Nat}{ty:TypeId}{pos:String}{after:Array Edge}{guard:Option (Nat×Bool)}
theorem AOp.lenMap{t kt et:TypeId}{x:Operand}{r:Nat}{es:List (A×A)}{ti:TI}(hL:zaq P L)(hx:ev T x=some (.map r))(hm:(r,Blk.map es)∈H)(ht:lay L t=some ti)(htd:ti.td=.map kt et)(hb:es.length≤1000000)(hd:zah N dst=true)
  (kk:AOps P N ops rest Q (put dst (.int .i64 es.length) T) H):
  AOp P N ops ⟨dst,.call {callee:=.builtin .len,args:=[x].toArray,argTypes:=[t].toArray},ty,pos,after,guard⟩ rest Q T H:=
 AOp.pure (fun fr w act s st=>by
  have hu:=zag st hx
  generalize h1:act.eval x=u at hu
  cases hu;obtain⟨e,clock,hg,hsz,_⟩:=s.ok _ hm;have hund:=zjL (hL _ _ ht) htd;have hget:(getObj r).run P w=.ok (.map e clock) w:=by simp[getObj,Sem.run,hg]
  refine⟨.int .i64 es.length,?_,.int _ _ (zeP.2 (by omega))⟩;simp only[execOp,resolve,invoke,builtin,Sem.run_bind,Sem.run_pure,Result.andThen_ok,bq,aU,bk,h1,Builtin.len_,List.getElem?_toArray,List.getElem?_cons_zero,run_underlying hund,hget,hsz];rfl) hd kk
end
def outV(sz:Nat)(g:Option Nat)(n:Nat):A:=match g with
 |none=>.nils
 |some r=>.os r sz 0 n
def outH(e sz:Nat)(g:Option Nat)(elems:List (List A)):Heap:=match g with
 |none=>[]
 |some r=>[(r,.row e sz elems)]
section
variable{P:Program}{N:NN}{Q:Exit→Env→Heap→Prop}{T:Env}{H:Heap}{ops rest:List Oper}{L:Lay}{dst:Option Nat}{ty:TypeId}{pos:String}{after:Array Edge}{guard:Option (Nat×Bool)}
theorem AOp.appendEmpty{t e:TypeId}{x y:Operand}{yv:A}{ti ei:TI}(hL:zaq P L)(hx:ev T x=some .nils)(hy:ev T y=some yv)(hyv:∀(w:World) (o:Nat→Prop) (v:Value),Rep w o yv v→∃a c,v=.slice a 0 c)(ht:lay L t=some ti)(he:ti.td=.slice e)(hei:lay L e=some ei)(hd:zah N dst=true)
  (kk:AOps P N ops rest Q (put dst .nils T) H):
  AOp P N ops ⟨dst,.call {callee:=.builtin .append,args:=[x,y].toArray,argTypes:=[t,t].toArray},ty,pos,after,guard⟩ rest Q T H:=
 AOp.pure (fun fr w act s st=>by
  obtain⟨info,zv,hinfo,hi1,_⟩:=(hL _ _ hei).info;have hund:=zaW (hL _ _ ht) he;have hu:=zag st hx
  generalize h1:act.eval x=u at hu
  cases hu;obtain⟨a,c,h2⟩:=hyv w _ _ (zag st hy);refine⟨.slice none 0 0,?_,.nils⟩;simp only[execOp,resolve,invoke,builtin,Sem.run_bind,Sem.run_pure,Result.andThen_ok,bq,aU,bk,h1,h2];cases a<;>simp[Builtin.append_,run_underlying hund,sizeOf,typeInfo,hinfo,Builtin.lenOf,Builtin.firstCells,storeCells,loadCells,loadCellsFrom]) hd kk
theorem RowOf.empty{yv:A}(h:RowOf H yv [])(w:World)(o:Nat→Prop)(v:Value)(hr:Rep w o yv v):∃a c,v=.slice a 0 c:=by
 generalize hl:([]:List (List A))=l at h
 cases h with
 |ds=>
  subst hl;rcases hr.ds_inv with ⟨_,h⟩|⟨a,cap,sz,h,_⟩
  ·exact⟨_,_,h⟩
  ·exact⟨_,_,h⟩
 |os hm hle=>
  rename_i r Te sz off len elems;have hz:len=0:=by
   have:=ai List.length hl;simp at this;omega
  subst hz;cases hr;exact⟨_,_,I⟩
theorem AOp.appendG{t e:TypeId}{x y:Operand}{g:Option Nat}{elems news:List (List A)}{yv:A}{pre:Heap}{ti ei:TI}(hL:zaq P L)(hx:ev T x=some (outV ei.size g elems.length))(hg:g=none→elems=[])(hH:H=pre++outH e ei.size g elems)(hy:ev T y=some yv)(hy':RowOf H yv news)
  (ht:lay L t=some ti) (he:ti.td=.slice e) (hei:lay L e=some ei) (hpos:Nat.ble 1 ei.size=true) (hnl:∀c∈news,c.length=ei.size) (hnf:∀c∈news,zan c=true)
  (hb1:elems.length+news.length≤maxLen) (hb2:(elems.length+news.length)*ei.bytes≤140737488355328) (hd:zah N dst=true)
  (k:∀g',(g'=none→elems++news=[])→AOps P N ops rest Q (put dst (outV ei.size g' (elems++news).length) T) (pre++outH e ei.size g' (elems++news))):
  AOp P N ops ⟨dst,.call {callee:=.builtin .append,args:=[x,y].toArray,argTypes:=[t,t].toArray},ty,pos,after,guard⟩ rest Q T H:=by
 subst hH;have hnl':∀i (hi:i<news.length),news[i].length=ei.size:=fun i hi=>hnl _ (bz hi);cases g with
 |none=>
  have:=hg I;subst this;simp only[outV] at hx;by_cases hne:news=[]
  ·subst hne
   refine AOp.appendEmpty hL hx hy hy'.empty ht he hei hd ?_;have:=k none (fun _=>rfl);simpa only [outV,outH] using this
  ·have hp:(pre++outH e ei.size none []).Perm pre:=by simp[outH]
   refine AOp.appendNil hL hx hy ht he hei hpos hy' (.inl hp) hnl' hnf hne (by simpa using hb1) (by simpa using hb2) hd fun r hr=>?_;have:=k (some r) (fun h=>by cases h)
   simp only[outV,outH,b7] at this;exact AOps.perm (aN (l₁:=[_])) this
 |some r=>
  simp only[outV] at hx;simp only[outH] at*;refine AOp.append hL hx hy ht he hei hpos (aN (l₂:=[_])) (au _) hy' (.inl (ar _)) hnl' hnf hb1 hb2 hd fun r' hr'=>?_;have:=k (some r') (fun h=>by cases h)
  simp only[outV,aT] at this;rw[bM];exact AOps.perm (aN (l₁:=[_])) this
theorem AWp.freezeG{c:Code}{t e sz:Nat}{g:Option Nat}{elems:List (List A)}{pre:Heap}(ht:get T t=some (outV sz g elems.length))(hg:g=none→elems=[])(hH:H=pre++outH e sz g elems)(k:AWp P N c Q ((t,.ds elems)::T) pre):AWp P N c Q T H:=by
 subst hH;cases g with
 |none=>
  have:=hg I;subst this;simp only[outH,aQ];exact AWp.slot ht Sub.nils k
 |some r=>
  refine⟨fun fr w a s st=>?_⟩;have hp:(pre++outH e sz (some r) elems).Perm ((r,.row e sz elems)::pre):=aN (l₂:=[_]);have s1:=s.perm hp;have hless:Stays w (own fr (pre++outH e sz (some r) elems)) w (own fr pre):=Stays.less fun j hj=>by
   rcases hj with hj|hj
   ·exact .inl hj
   ·exact .inr ((hp.map (·.1)).mem_iff.2 (aB _ hj))
  have st2:St N w (own fr pre) ((t,.ds elems)::T) a:=by
   refine⟨st.size,st.defers,st.glob.mono hless,fun u x hx=>?_⟩;rw[zbc] at hx;split at hx
   ·rename_i htu
    cases hx;subst htu;obtain⟨v,h1,h2⟩:=st.at_ t _ ht;refine⟨v,h1,?_⟩;simp only[outV] at h2;rw[zaS hp] at h2;have:=zn3 s1 (by omega) h2;simpa using this
   ·obtain⟨v,h1,h2⟩:=st.at_ u x hx
    exact⟨v,h1,h2.mono hless⟩
  refine wp_mono (k.out fr w a s1.drop st2) ?_;rintro e' a' w' ⟨T',H'',q,s',st',x'⟩;exact⟨T',H'',q,s',st',(Ext.drop x').perm hp⟩
end
section
variable{P:Program}{N:NN}{Q:Exit→Env→Heap→Prop}{T:Env}{H:Heap}{ops rest:List Oper}{L:Lay}
theorem AOps.freezeG{t e sz:Nat}{g:Option Nat}{elems:List (List A)}{pre:Heap}(ht:get T t=some (outV sz g elems.length))(hg:g=none→elems=[])(hH:H=pre++outH e sz g elems)(k:AOps P N ops rest Q ((t,.ds elems)::T) pre):AOps P N ops rest Q T H:=by
 subst hH;cases g with
 |none=>
  have:=hg I;subst this;simp only[outH,aQ];exact AOps.cast (zfC ht Sub.nils) k
 |some r=>
  refine⟨fun fr w a s st=>?_⟩;have hp:(pre++outH e sz (some r) elems).Perm ((r,.row e sz elems)::pre):=aN (l₂:=[_]);have s1:=s.perm hp;have hless:Stays w (own fr (pre++outH e sz (some r) elems)) w (own fr pre):=Stays.less fun j hj=>by
   rcases hj with hj|hj
   ·exact .inl hj
   ·exact .inr ((hp.map (·.1)).mem_iff.2 (aB _ hj))
  have st2:St N w (own fr pre) ((t,.ds elems)::T) a:=by
   refine⟨st.size,st.defers,st.glob.mono hless,fun u x hx=>?_⟩;rw[zbc] at hx;split at hx
   ·rename_i htu
    cases hx;subst htu;obtain⟨v,h1,h2⟩:=st.at_ t _ ht;refine⟨v,h1,?_⟩;simp only[outV] at h2;rw[zaS hp] at h2;have:=zn3 s1 (by omega) h2;simpa using this
   ·obtain⟨v,h1,h2⟩:=st.at_ u x hx
    exact⟨v,h1,h2.mono hless⟩
  refine zaT ?_ _ _ _ (k.out fr w a s1.drop st2);rintro e' a' w' ⟨T',H'',q,s',st',x'⟩;exact⟨T',H'',q,s',st',(Ext.drop x').perm hp⟩
theorem zac.cellTmp{fn:Func}{t ty u:Nat}{r Te sz i o:Nat}{elems:List (List A)}{e:List A}{ti:TI}{v y:A}(hL:zaq P L)(h:fn.results=#[.cell t ty,.tmp u])(hx:get T t=some (.ptr r sz i o))(hm:(r,Blk.row Te sz elems)∈H)
  (he:elems[i]?=some e) (ht:lay L ty=some ti) (hv:zbw ti e o=some v) (hy:get T u=some y):zac P fn N T H (.tup [v,y]):=fun fr w a s st=>by
 have hu:=zaH st hx
 generalize h1:a.tmps.getD t undef=q at hu
 cases hu;obtain⟨vs,h2,h3,_,_⟩:=s.elem hm he;obtain⟨z,hz,hr⟩:=zbK (hL _ _ ht) h2 (h3.drop o) hv;rw[add_plain] at hz;refine⟨.tuple #[z,a.tmps.getD u undef],?_,Rep.tup_of (.cons hr (.cons (zaH st hy) .nil))⟩;have h1':a.tmps[t]?.getD undef=.pointer (some {block:=r,off:=i*sz+o}):=by rw[←h1];simp
 simp[results,h,asAddr,h1',hz]
end
section
variable{P:Program}{N:NN}{Q:Exit→Env→Heap→Prop}{ops rest:List Oper}
theorem Ext.dropL{w w':World}{H K:Heap}:∀(G:Heap),Ext H w K w'→Ext (G++H) w K w'
 |[],e=>e
 |p::G,e=>(Ext.dropL G e).drop
end
end Go.Abs

