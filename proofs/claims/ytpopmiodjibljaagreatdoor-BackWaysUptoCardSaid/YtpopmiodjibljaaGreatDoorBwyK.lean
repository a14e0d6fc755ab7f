/- A part of the proof. -/
import Derived.Deep.DeepWitnessRowRef
import Derived.Lib.LaidU8
import Derived.Test.YtpopmiodjibljaaGreatDoorBwyJ
set_option linter.unusedVariables false
set_option linter.unusedSimpArgs false
set_option maxRecDepth 100000

namespace Go.Proofs.YtpopmiodjibljaaGreatDoor
open Go Go.Abs Go.Great
theorem zsr(os:Os)(args:Array Value):((zcy os).forCall (fun _ _=>0) ⟨#[],args,[]⟩).variablesRefB Tryz.checked.prog=true:=by kernel_rfl
theorem zsV(os:Os)(args:Array Value):(((zcy os).forCall (fun _ _=>0) ⟨#[],args,[]⟩).heap.toList.drop Tryz.checked.prog.globals.size).take ((begin Tryz.checked.prog (fun _ _=>0) default).world.heap.size - Tryz.checked.prog.globals.size)=
   (begin Tryz.checked.prog (fun _ _=>0) default).world.heap.toList.drop Tryz.checked.prog.globals.size:=by kernel_rfl
open Go.ChangeShapes Go.WideShapes Go.ChangeAt Go.RowKit
theorem PTrG.calls{G:List (Nat×List A)}{P:Program}{f:FuncId}{args:List A}{b:Bool}(h:PTrG G P f args (.bool b)){W:World}{vs:List Value}(hg:GOk G W (own (fun _=>False) []))(hr:RepL W (own (fun _=>False) []) args vs):
  Calls P f vs.toArray W fun e W'=>e=.returned (.bool b)∧Below W.heap.size W W':=by
 refine(TrG.run h (fun _=>False) W vs (zpC W) hg hr).mono ?_;rintro e W' ⟨r,H',v,rfl,rfl,_,hv,x⟩;cases hv;exact⟨I,x.below⟩
theorem zsa{W:World}(h:Lib.Utf8Tabs 1 2 W):GOk tabG W (own (fun _=>False) []):=by
 intro p hp;rcases List.mem_cons.1 hp with rfl|hp
 ·refine .dp _ _ (fun j=>.int .u8 (Lib.firstT j)) (fun j hj=>⟨zmX _,?_⟩) fun j hj=>?_
  ·have hj:j<256:=by simpa using hj
   rw[Abs.add_plain];simpa using h.1 j hj
  ·have hj:j<256:=by simpa using hj
   rw[co,List.getElem_range];have hf:Lib.firstT j<256:=by rcases Lib.firstT_cases j with h|h|h|h|h|h|h|h|h<;>omega
   exact .int _ _ (zhV.2 (by omega))
 ·obtain rfl:=List.mem_singleton.1 hp
  have hlen:((List.range 16).flatMap fun i=>[A.int .u8 (Lib.accLo i),A.int .u8 (Lib.accHi i)]).length=32:=rfl;have key:∀j,j<32→∃n:Nat,n<256∧W.cell? ⟨2,j,none⟩=some (.int .u8 n)∧((List.range 16).flatMap fun i=>[A.int .u8 (Lib.accLo i),A.int .u8 (Lib.accHi i)])[j]?=some (A.int .u8 n):=by
   intro j hj;obtain⟨i,hi⟩:∃i,j=2*i∨j=2*i+1:=⟨j / 2,by omega⟩
   have hi16:i<16:=by omega
   obtain⟨e1,e2⟩:=zpz i hi16;obtain⟨c1,c2⟩:=h.2 i hi16;rcases hi with rfl|rfl
   ·exact⟨_,by unfold Lib.accLo;(repeat' split);all_goals omega,c1,e1⟩
   ·exact⟨_,by unfold Lib.accHi;(repeat' split);all_goals omega,c2,e2⟩
  refine .dp _ _ (fun j=>(W.cell? ⟨2,j,none⟩).getD undef) (fun j hj=>⟨zmX _,?_⟩) fun j hj=>?_
  ·rw[hlen] at hj
   obtain⟨n,_,hc,_⟩:=key j hj;rw[Abs.add_plain];simp[hc]
  ·have hj':=hj
   rw[hlen] at hj;obtain⟨n,hn,hc,he⟩:=key j hj;obtain⟨_,he⟩:=List.getElem?_eq_some_iff.1 he;rw[he,hc];exact .int _ _ (zhV.2 (by omega))
theorem zm9 {W : World} {l : List (String × DataW Unit)} (h : laidMet Tryz.prog l W) (m1 : ("unicode/utf8.first", Lib.firstData) ∈ l) (m2 : ("unicode/utf8.acceptRanges", Lib.acceptData) ∈ l) : GOk tabG W (own (fun _ => False) []) :=
 zsa (utf8Tabs_of_reads {Tryz.lays197 with} ⟨by kernel_rfl,by kernel_rfl,by kernel_rfl,by kernel_rfl,by kernel_rfl,by kernel_rfl,by kernel_rfl⟩ (Lib.laidMet.reads h m1) (Lib.laidMet.reads h m2))
theorem zhp{v:Value}{cs:List Value}(h:v.cells.toList=cs)(hl:cs.length=3):v=.agg cs.toArray:=by
 cases v<;>simp[Value.cells] at h<;>first|(subst h;simp at hl;done)|(subst h;rfl)
theorem zmp{H:Type}{enc:TypeId×Value→H}{w:World}{o:Nat→Prop}{sp:Nat→Bool}{held:Bool}{fuel:Nat}{cs:List Value}{d:DataW H}{ps:List MemPlace}(h:DataW.trod enc Tryz.prog w 0 sp held fuel 33 cs=some (d,ps)):∃(fl s:List UInt8) (p:Int),RepL w o [.str fl,.str s,i64 p] cs:=by
 cases fuel with
 |zero=>simp[DataW.trod] at h
 |succ fuel=>
  have ht:TIOk Tryz.prog 33 _:=tok (t:=33) I;have hc3:Tryz.prog.cellsOf 3=1:=zaY (tok (t:=3) I);have hc9:Tryz.prog.cellsOf 9=1:=zaY (tok (t:=9) I);obtain⟨hl,xs,hd,hxl,hx⟩:=zdM ht rfl h
  match cs,hl with
  |[c0,c1,c2],_=>
   obtain⟨x0,_,e0⟩:=hx 0 0 9 rfl;obtain⟨x1,_,e1⟩:=hx 1 1 9 rfl;obtain⟨x2,_,e2⟩:=hx 2 2 3 rfl;rw[hc9] at e0 e1;rw[hc3] at e2;obtain⟨s0,r0⟩:=zdO (o:=o) (zbf (tok (t:=9) rfl) rfl) e0;obtain⟨s1,r1⟩:=zdO (o:=o) (zbf (tok (t:=9) rfl) rfl) e1;obtain⟨n2,r2⟩:=zcV (o:=o) (zfV (tok (t:=3) rfl) rfl) e2;exact⟨s0,s1,n2,r0.append (r1.append r2)⟩
theorem zr1 (os : Os) (args : Array Value) : LaidIn Tryz.prog (mem6 os args) [("unicode/utf8.acceptRanges", Rows.laid_unicode_utf8_acceptRanges)] [2] :=
 LaidIn.of_run [2] 8 (by kernel_rfl) (by kernel_rfl) (by kernel_rfl) (by kernel_rfl)
theorem zlz (os : Os) (args : Array Value) : laidMet Tryz.prog [("unicode/utf8.acceptRanges", Rows.laid_unicode_utf8_acceptRanges), ("unicode.CaseRanges", Rows.laid_unicode_CaseRanges), ("unicode/utf8.first", Rows.laid_unicode_utf8_first)] (mem6 os args) := by
 have e:(Rows.laid_unicode_CaseRanges:DataW Unit)=.slice (Go.Lib.caseT.map Go.Lib.rowData) []:=by kernel_rfl
 rw[e];exact LaidIn.met (LaidIn.append (LaidIn.append (zr1 os args) (zsS os args) (by kernel_rfl)) (zsy os args) (by kernel_rfl))
end Go.Proofs.YtpopmiodjibljaaGreatDoor

