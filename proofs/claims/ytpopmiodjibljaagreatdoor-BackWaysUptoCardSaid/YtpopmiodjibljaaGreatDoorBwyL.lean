/- A part of the proof. -/
import Derived.Test.YtpopmiodjibljaaGreatDoorBwyK
set_option linter.unusedVariables false
set_option linter.unusedSimpArgs false
set_option maxRecDepth 100000

namespace Go.Proofs.YtpopmiodjibljaaGreatDoor
open Go Go.Abs Go.ChangeShapes Go.WideShapes Go.ChangeAt Go.RowKit
namespace BackWays
theorem zoD(H:Type)(enc:TypeId×Value→H)(W:World)(base:Nat)(args:Array Value)(ds gs:List (DataW H))(before:List MemPlace)(hgok:GOk tabG W (own (fun _=>False) []))(hval:∀(j:Nat) t v,Tryz.f9.params[j]?=some t→args[j]?=some v→Value.okWide Tryz.prog W .any base t v)
  (hW:DataW.Whole enc Tryz.prog Tryz.f9.params.toList Rows.backWaysSpec.vars false W args.toList ds gs before) (hk:Rows.uptoSmall H (ds++gs)=true):
  Calls Tryz.prog 9 args W fun e W'=>∃v,e=.returned v∧Rows.backWaysSpec.post enc Tryz.prog Tryz.f9 false true false false W args v W':=by
 have hW':=hW;obtain⟨p,q,hA0,hV,rfl,hfz,hnd⟩:=hW;have hA:DataW.TrodAll enc Tryz.prog W 0 (fun _=>true) true Tryz.f9.params.toList args.toList ds p:=hA0;rw[Tryz.params9] at hA;obtain⟨v0,vs0,d0,ds0,p0,q0,hargs,rfl,rfl,h0,r0⟩:=trodAll_cons hA;obtain⟨v1,vs1,d1,ds1,p1,q1,rfl,rfl,rfl,h1,r1⟩:=trodAll_cons r0;obtain⟨rfl,rfl,rfl⟩:=trodAll_nil r1;obtain rfl:args=#[v0,v1]:=by cases args;simp_all
 obtain⟨rfl,rfl⟩:=trodVars_none hV;have hkk:=aj hk;simp only[aQ,Rows.uptoBulkAll] at hkk;have k0:=h0;have lt0:∀x∈p0,x.block<W.heap.size:=by obtain⟨m,hm⟩:=k0;exact DataW.trod_lt m _ _ _ hm
 have k1:=h1;have lt1:∀x∈p1,x.block<W.heap.size:=by obtain⟨m,hm⟩:=k1;exact DataW.trod_lt m _ _ _ hm
 obtain⟨m0,hm0⟩:=h0;obtain⟨x0,hx0,hx70,hxb0⟩:=zj5 (o:=own (fun _=>False) []) zmX m0 m0 (au _) hm0;rw[Pat.cells_eq] at hx0 hx70;have hv0:v0=.agg v0.cells.toList.toArray:=zhv I (by rw[hx0.length];exact hx70);have hr0:Rep W (own (fun _=>False) []) (.agg x0.C) v0:=by rw[hv0];exact Rep.agg_of hx0
 have hb0:zaD x0≤1000000:=by omega
 obtain⟨m1,hm1⟩:=h1;obtain⟨fl1,sx1,px1,hx1⟩:=zmp (o:=own (fun _=>False) []) hm1;have hv1:v1=.agg v1.cells.toList.toArray:=zhp I (by rw[hx1.length];rfl);have hr1:Rep W (own (fun _=>False) []) (.agg [.str fl1,.str sx1,i64 px1]) v1:=by rw[hv1];exact Rep.agg_of hx1
 have hlaw:=PTrG.calls (zhu x0 hb0 fl1 sx1 px1) (W:=W) (vs:=[v0,v1]) hgok (.cons hr0 (.cons hr1 .nil));refine hlaw.mono fun e W' ⟨he,bel⟩=>?_;subst he;exact⟨_,I,_,_,_,[],_,[],hW',trodAll_mk1 (shut_bool Tryz.underlying4 _),(trodAll_cons_mk (Below.trod zmK (by kernel_rfl) (aj (by kernel_rfl)) k0 bel lt0) (trodAll_cons_mk (Below.trod zmK (by kernel_rfl) (aj (by kernel_rfl)) k1 bel lt1) trodAll_mk0)),I,bel.frame _,fun h=>by cases h⟩
end BackWays
namespace BackWays
def zkM:Array Value:=#[.agg #[.int .i64 0,.int .i64 0,.int .i64 0,.int .i64 0,.string ByteArray.empty,.slice none 0 0,.slice none 0 0],.agg #[.string ByteArray.empty,.string ByteArray.empty,.int .i64 0]]
theorem reads(os:Os){H:Type}(enc:TypeId×Value→H):∃places,DataW.whole enc Tryz.prog ((zcy os).forCall (fun _ _=>0) ⟨#[],zkM,[]⟩).memory Tryz.f9.params.toList Rows.backWaysSpec.vars false zkM.toList 8=some ([.agg [.lit (.int .i64 0),.lit (.int .i64 0),.lit (.int .i64 0),.lit (.int .i64 0),.lit (.string []),.nil,.nil],.agg [.lit (.string []),.lit (.string []),.lit (.int .i64 0)]],[],places):=
 ⟨[],by kernel_rfl⟩
theorem lifted(os:Os)(started:os.Started)(H:Type)(enc:TypeId×Value→H)(F:Stop.Interp):
  ReturnsInHanded {} Tryz.checked os 9 .any ((Rows.OpenSpec.upto Rows.backWaysSpec).preRow enc Tryz.prog Tryz.f9 Rows.backWaysUptoRow.domain false Rows.backWaysUptoRow.laid) (((Rows.OpenSpec.upto Rows.backWaysSpec).at F).post enc Tryz.prog Tryz.f9 false true false false):=by
 obtain⟨places,hx⟩:=reads os enc;refine returnsInHanded_of_row (C:=Tryz.checked) (s:=Rows.OpenSpec.upto Rows.backWaysSpec) own_ started (by kernel_rfl) Tryz.func9
  (witness_row_atRef (enc:=enc) (C:=Tryz.checked) false (zcy os) zkM I (zsr os zkM) (zsV os zkM) (by kernel_rfl)
   (OpenSpec.preRow_of_cond 8 hx (by kernel_rfl) (fun k hk=>by cases hk;kernel_rfl) (by kernel_rfl) (zlz os zkM))) ?_
 intro W base args ds gs before hval hW _ hcond _ hL _ _; have e : (Rows.backWaysUptoRow.laid.filter fun x => x.2.handleName?.isNone) = [("unicode/utf8.acceptRanges", Lib.acceptData), ("unicode.CaseRanges", Rows.laid_unicode_CaseRanges), ("unicode/utf8.first", Lib.firstData)] := by kernel_rfl
 have h1:=(laidMetH_iff.1 hL).1;rw[e] at h1;exact zoD H enc W base args ds gs before (zm9 h1 (.tail _ (.tail _ (.head _))) (.head _)) hval hW (hcond _ I)
end BackWays
end Go.Proofs.YtpopmiodjibljaaGreatDoor

