/- A part of the proof. -/
import Derived.Shelf.GgSortFunc.RowK
import Derived.Sort.Grow
import Derived.Shelf.SlSortFuncK.WholeK
import Derived.Shelf.Lay
import Derived.Ground.GgsProg
import Derived.Ground.NamesProg
import Derived.Shelf.GgSortFunc.SmallK
import Derived.Shelf.GgSortFunc.Tiny
import Derived.Deep.QuietTactic
import Derived.Test.YtpopmiodjibljaaGreatDoorBwyC
set_option linter.unusedVariables false
set_option linter.unusedSimpArgs false
set_option maxRecDepth 100000

namespace Go.Proofs.YtpopmiodjibljaaGreatDoor
open Go Go.Abs Go.Bk
def zk8(o:Oper):Nat:=match o.op with
 |.load .. =>1
 |.call {callee:=.value _,.. }=>2
 |_=>0
set_option maxHeartbeats 4000000 in
theorem look_0(X:Rt)(a:RS)(htd:a.td=false)(y:Pat)(op mn mx:Int)(nm:List UInt8)(st:List (Int×Int))(s:Sg)(hs:0≤s.at_∧s.at_≤1000000)(kb:Nat)(Hb:Heap)(R:A→Heap→Prop)(hW:Wd R)(R1:Bool→RS→Heap→Prop)(hne:∃t a1 H1,R1 t a1 H1)
  (h1:s.at_≥0→TrG [] Tryz.prog 222 [X.p,.agg y.C,.agg (stC {s with at_:=s.at_}),i64 (-1)] (Hr X a++Hb) (MidB X R1))
  (hT:∀t a1 H1,R1 t a1 H1→a1.td=true→R (i64 0) (Hr X a1++H1))
  (h2:∀a1 H1,R1 false a1 H1→a1.td=false→R (i64 0) (Hr X a1++H1))
  (h3:∀a1 H1,R1 true a1 H1→a1.td=false→TrG [] Tryz.prog 173 [X.p,.ptr kb 34 0 0,.agg (stC {s with caps:=a1.fd.caps})] (Hr X a1++H1) R):
  TrG [] Tryz.prog 176 [X.p,.agg (Pat.mk op 0 mn mx nm st [y]).C,.agg (stC s),.ptr kb 34 0 0] (Hr X a++Hb) R:=by
 refine Jb (N:=69) Tryz.func176 I I I ?_;have hd:([y].map Pat.cells)[((0:Nat):Int).toNat]?=some y.C:=by simp[Pat.cells_eq]
 refine ae0 (ag 2 I (O (Jc 5 I I (zab I) I (ab (J3 ?_)))));refine J7 (Jk I I (.inr ⟨_,I⟩) (zaB s) I fun r6 _=>?_)
 refine ab (ag 5 I (O (J1 okL I (.head _) I I I I (ab (O (Jf okL I I I (fun _ _=>(ab (J3 ?_)))))))));rename_i r9 _;refine J7 (J8 okL I I I (zab I) (zaB s) I I .here I I I ?_)
 refine ab (ag 19 I (J2 ?_));have g:s.at_≥0:=hs.1;refine aH zk8 (fun _=>.nilp) okL hmix (by kernel_rfl) ?_;refine aa I I I (ay I I (.inl I) (J1 okL I (.head _) I I I I (Ja (ah ⟨I,I⟩))) (aa I I I (aa I I I ?_)));rw[aA g];refine aa I I I (aa I I I (aa I I I (aa I I (zad I I I I I (am _) (hd) I) (aa I I I (ay I I (.inl I) (J1 okL I (.head _) I I I I (Ja (ah ⟨I,I⟩))) (aa I I I ?_))))));refine aR (R:=fun v H'=>∃t a1 H1,v=.bool t∧R1 t a1 H1∧H'.Perm ((r9,.row 108 23 [stC {s with at_:=s.at_}])::(r6,.row 108 23 [stC s])::(Hr X a1++H1))) rfl rfl rfl (by obtain⟨t,a1,H1,h⟩:=hne;exact⟨_,_,t,a1,H1,I,h,.refl _⟩)
  (Jd [_,_] I I I I (h1 g) fun v H' ⟨t,a1,H1,e,k1,k2⟩=>Ja (ah ⟨t,a1,H1,e,k1,(k2.cons _).cons _⟩)) fun v H' hv=>?_
 obtain⟨t,⟨aw,atd,acg,abar,afd,afr,aae⟩,H1,rfl,hr,hp⟩:=hv
 (repeat (refine aa I I I ?_))
 refine aF ?_;refine ae (ag 6 I (J3 ?_));refine Jl hp ?_;rw[zaZ,az];cases atd with
 |true=>
  refine ab (O (J1 okL I (.tail _ (.tail _ (.head _))) I I I I (ab (ag 18 I (J ?_)))));refine zaa (J5 I I) ?_;exact hW.add _ _ [_,_] (hT t _ H1 hr I)
 |false=>
  cases t with
  |false=>
   refine ab (O (J1 okL I (.tail _ (.tail _ (.head _))) I I I I (ab (ag 18 I (J ?_)))));refine zaa (J5 I I) ?_;exact hW.add _ _ [_,_] (h2 _ H1 hr I)
  |true=>
   refine ab (O (J1 okL I (.tail _ (.tail _ (.head _))) I I I I (ab (ag 25 I (O (J1 okL I (.tail _ (.tail _ (.head _))) I I I I (ab (ag 1 I (O (J8 okL I I I (zab I) I I I (.there .here) I I I (ab (ag 6 I (O (J1 okL I (.tail _ (.head _)) I I I I (ab (J3 ?_))))))))))))))));refine J7 (Jd [_,_] I I I I (h3 _ H1 hr I) fun v H' hr=>?_)
   refine ab (ag 4 I (J ?_));refine zaa (J5 I I) ?_;exact hW.add _ _ [_,_] hr
set_option maxHeartbeats 4000000 in
theorem look_1(X:Rt)(a:RS)(htd:a.td=false)(y:Pat)(op mn mx:Int)(nm:List UInt8)(st:List (Int×Int))(s:Sg)(hs:0≤s.at_∧s.at_≤1000000)(kb:Nat)(Hb:Heap)(R:A→Heap→Prop)(hW:Wd R)(R1:Bool→RS→Heap→Prop)(hne:∃t a1 H1,R1 t a1 H1)
  (h1:s.at_≥0→TrG [] Tryz.prog 222 [X.p,.agg y.C,.agg (stC {s with at_:=s.at_}),i64 (-1)] (Hr X a++Hb) (MidB X R1))
  (hT:∀t a1 H1,R1 t a1 H1→a1.td=true→R (i64 0) (Hr X a1++H1))
  (h2:∀a1 H1,R1 false a1 H1→a1.td=false→TrG [] Tryz.prog 173 [X.p,.ptr kb 34 0 0,.agg (stC s)] (Hr X a1++H1) R)
  (h3:∀a1 H1,R1 true a1 H1→a1.td=false→R (i64 0) (Hr X a1++H1)):
  TrG [] Tryz.prog 176 [X.p,.agg (Pat.mk op 1 mn mx nm st [y]).C,.agg (stC s),.ptr kb 34 0 0] (Hr X a++Hb) R:=by
 refine Jb (N:=69) Tryz.func176 I I I ?_;have hd:([y].map Pat.cells)[((0:Nat):Int).toNat]?=some y.C:=by simp[Pat.cells_eq]
 refine ae0 (ag 2 I (O (Jc 5 I I (zab I) I (ab (J3 ?_)))));refine J7 (Jk I I (.inr ⟨_,I⟩) (zaB s) I fun r6 _=>?_)
 refine ab (ag 5 I (O (J1 okL I (.head _) I I I I (ab (O (Jf okL I I I (fun _ _=>(ab (J3 ?_)))))))));rename_i r9 _;refine J7 (J8 okL I I I (zab I) (zaB s) I I .here I I I ?_)
 refine ab (ag 19 I (J2 ?_));have g:s.at_≥0:=hs.1;refine aH zk8 (fun _=>.nilp) okL hmix (by kernel_rfl) ?_;refine aa I I I (ay I I (.inl I) (J1 okL I (.head _) I I I I (Ja (ah ⟨I,I⟩))) (aa I I I (aa I I I ?_)));rw[aA g];refine aa I I I (aa I I I (aa I I I (aa I I (zad I I I I I (am _) (hd) I) (aa I I I (ay I I (.inl I) (J1 okL I (.head _) I I I I (Ja (ah ⟨I,I⟩))) (aa I I I ?_))))));refine aR (R:=fun v H'=>∃t a1 H1,v=.bool t∧R1 t a1 H1∧H'.Perm ((r9,.row 108 23 [stC {s with at_:=s.at_}])::(r6,.row 108 23 [stC s])::(Hr X a1++H1))) rfl rfl rfl (by obtain⟨t,a1,H1,h⟩:=hne;exact⟨_,_,t,a1,H1,I,h,.refl _⟩)
  (Jd [_,_] I I I I (h1 g) fun v H' ⟨t,a1,H1,e,k1,k2⟩=>Ja (ah ⟨t,a1,H1,e,k1,(k2.cons _).cons _⟩)) fun v H' hv=>?_
 obtain⟨t,⟨aw,atd,acg,abar,afd,afr,aae⟩,H1,rfl,hr,hp⟩:=hv
 (repeat (refine aa I I I ?_))
 refine aF ?_;refine ae (ag 6 I (J3 ?_));refine Jl hp ?_;rw[zaZ,az];cases atd with
 |true=>
  refine ab (O (J1 okL I (.tail _ (.tail _ (.head _))) I I I I (ab (ag 18 I (J ?_)))));refine zaa (J5 I I) ?_;exact hW.add _ _ [_,_] (hT t _ H1 hr I)
 |false=>
  cases t with
  |false=>
   refine ab (O (J1 okL I (.tail _ (.tail _ (.head _))) I I I I (ab (ag 26 I (O (J1 okL I (.tail _ (.head _)) I I I I (ab (J3 ?_))))))));refine J7 (Jd [_,_] I I I I (h2 _ H1 hr I) fun v H' hr=>?_)
   refine ab (ag 4 I (J ?_));refine zaa (J5 I I) ?_;exact hW.add _ _ [_,_] hr
  |true=>
   refine ab (O (J1 okL I (.tail _ (.tail _ (.head _))) I I I I (ab (ag 18 I (J ?_)))));refine zaa (J5 I I) ?_;exact hW.add _ _ [_,_] (h3 _ H1 hr I)
set_option maxHeartbeats 4000000 in
theorem look_2(X:Rt)(a:RS)(htd:a.td=false)(y:Pat)(op mn mx:Int)(nm:List UInt8)(st:List (Int×Int))(s:Sg)(hs:0≤s.at_∧s.at_≤1000000)(kb:Nat)(Hb:Heap)(R:A→Heap→Prop)(hW:Wd R)(R1:Bool→RS→Heap→Prop)(hne:∃t a1 H1,R1 t a1 H1)
  (lo hi:Int) (hlo:0≤lo∧lo≤1000000000000000000) (hL:PTr Tryz.prog 209 [.agg y.C] (.tup [i64 lo,i64 hi]))
  (h1:(s.at_ - lo)≥0→TrG [] Tryz.prog 222 [X.p,.agg y.C,.agg (stC {s with at_:=(s.at_ - lo)}),i64 s.at_] (Hr X a++Hb) (MidB X R1))
  (hT:∀t a1 H1,R1 t a1 H1→a1.td=true→R (i64 0) (Hr X a1++H1))
  (h0:s.at_ - lo<0→R (i64 0) (Hr X a++Hb))
  (h2:∀a1 H1,R1 false a1 H1→a1.td=false→R (i64 0) (Hr X a1++H1))
  (h3:∀a1 H1,R1 true a1 H1→a1.td=false→TrG [] Tryz.prog 173 [X.p,.ptr kb 34 0 0,.agg (stC {s with caps:=a1.fd.caps})] (Hr X a1++H1) R):
  TrG [] Tryz.prog 176 [X.p,.agg (Pat.mk op 2 mn mx nm st [y]).C,.agg (stC s),.ptr kb 34 0 0] (Hr X a++Hb) R:=by
 refine Jb (N:=69) Tryz.func176 I I I ?_;have hd:([y].map Pat.cells)[((0:Nat):Int).toNat]?=some y.C:=by simp[Pat.cells_eq]
 have hw:IntKind.i64.wrap (s.at_ - lo)=s.at_ - lo:=zap ⟨by omega,by omega⟩
 refine ae0 (ag 2 I (O (Jc 5 I I (zab I) I (ab (J3 ?_)))));refine J7 (Jk I I (.inr ⟨_,I⟩) (zaB s) I fun r6 _=>?_)
 refine ab (ag 5 I (O (J1 okL I (.head _) I I I I (ab (O (Jf okL I I I (fun _ _=>(ab (J3 ?_)))))))));rename_i r9 _;refine J7 (J8 okL I I I (zab I) (zaB s) I I .here I I I ?_)
 refine ab (ag 20 I (Jo okL (zad I I I I I (am _) (hd) I) I (ag 1 I (O (J9 I I I (hL) (ab (ag 10 I (O (J1 okL I (.head _) I I I I (ab (ag 3 I (O (J8 okL I I I (zab I) I I I .here I I I (ab (ag 4 I (O (J1 okL I (.tail _ (.head _)) I I I I (ab (ag 4 I (J2 ?_))))))))))))))))))));rw[hw];by_cases g:s.at_ - lo≥0
 ·skip
  refine aH zk8 (fun _=>.nilp) okL hmix (by kernel_rfl) ?_;refine aa I I I (ay I I (.inl I) (J1 okL I (.head _) I I I I (Ja (ah ⟨I,I⟩))) (aa I I I (aa I I I ?_)));rw[aA g];refine aa I I I (aa I I I (aa I I I (aa I I (zad I I I I I (am _) (hd) I) (aa I I I (ay I I (.inl I) (J1 okL I (.head _) I I I I (Ja (ah ⟨I,I⟩))) (aa I I I ?_))))));refine aR (R:=fun v H'=>∃t a1 H1,v=.bool t∧R1 t a1 H1∧H'.Perm ((r9,.row 108 23 [stC {s with at_:=(s.at_ - lo)}])::(r6,.row 108 23 [stC s])::(Hr X a1++H1))) rfl rfl rfl (by obtain⟨t,a1,H1,h⟩:=hne;exact⟨_,_,t,a1,H1,I,h,.refl _⟩)
   (Jd [_,_] I I I I (h1 g) fun v H' ⟨t,a1,H1,e,k1,k2⟩=>Ja (ah ⟨t,a1,H1,e,k1,(k2.cons _).cons _⟩)) fun v H' hv=>?_
  obtain⟨t,⟨aw,atd,acg,abar,afd,afr,aae⟩,H1,rfl,hr,hp⟩:=hv
  (repeat (refine aa I I I ?_))
  refine aF ?_;refine ae (ag 6 I (J3 ?_));refine Jl hp ?_;rw[zaZ,az];cases atd with
  |true=>
   refine ab (O (J1 okL I (.tail _ (.tail _ (.head _))) I I I I (ab (ag 18 I (J ?_)))));refine zaa (J5 I I) ?_;exact hW.add _ _ [_,_] (hT t _ H1 hr I)
  |false=>
   cases t with
   |false=>
    refine ab (O (J1 okL I (.tail _ (.tail _ (.head _))) I I I I (ab (ag 18 I (J ?_)))));refine zaa (J5 I I) ?_;exact hW.add _ _ [_,_] (h2 _ H1 hr I)
   |true=>
    refine ab (O (J1 okL I (.tail _ (.tail _ (.head _))) I I I I (ab (ag 25 I (O (J1 okL I (.tail _ (.tail _ (.head _))) I I I I (ab (ag 1 I (O (J8 okL I I I (zab I) I I I (.there .here) I I I (ab (ag 6 I (O (J1 okL I (.tail _ (.head _)) I I I I (ab (J3 ?_))))))))))))))));refine J7 (Jd [_,_] I I I I (h3 _ H1 hr I) fun v H' hr=>?_)
    refine ab (ag 4 I (J ?_));refine zaa (J5 I I) ?_;exact hW.add _ _ [_,_] hr
 ·skip
  refine aH zk8 (fun _=>.nilp) okL hmix (by kernel_rfl) ?_;refine aa I I I (ay I I (.inl I) (J1 okL I (.head _) I I I I (Ja (ah ⟨I,I⟩))) (aa I I I (aa I I I ?_)));rw[aG g];refine aP I I (aP I I (aP I I (aP I I (aP I I (aP I I (aP I I (aP I I (aa I I I (aa I I I ?_)))))))));refine aF ?_;obtain⟨aw,atd,acg,abar,afd,afr,aae⟩:=a;have htd:atd=false:=htd;subst htd;rw[zaZ,az];refine ae (ag 6 I (O (J1 okL I (.tail _ (.tail _ (.head _))) I I I I (ab (ag 18 I (J ?_))))));refine zaa (J5 I I) ?_;exact hW.add _ _ [_,_] (h0 (by omega))
set_option maxHeartbeats 4000000 in
theorem look_3(X:Rt)(a:RS)(htd:a.td=false)(y:Pat)(op mn mx:Int)(nm:List UInt8)(st:List (Int×Int))(s:Sg)(hs:0≤s.at_∧s.at_≤1000000)(kb:Nat)(Hb:Heap)(R:A→Heap→Prop)(hW:Wd R)(R1:Bool→RS→Heap→Prop)(hne:∃t a1 H1,R1 t a1 H1)
  (lo hi:Int) (hlo:0≤lo∧lo≤1000000000000000000) (hL:PTr Tryz.prog 209 [.agg y.C] (.tup [i64 lo,i64 hi]))
  (h1:(s.at_ - lo)≥0→TrG [] Tryz.prog 222 [X.p,.agg y.C,.agg (stC {s with at_:=(s.at_ - lo)}),i64 s.at_] (Hr X a++Hb) (MidB X R1))
  (hT:∀t a1 H1,R1 t a1 H1→a1.td=true→R (i64 0) (Hr X a1++H1))
  (h0:s.at_ - lo<0→TrG [] Tryz.prog 173 [X.p,.ptr kb 34 0 0,.agg (stC s)] (Hr X a++Hb) R)
  (h2:∀a1 H1,R1 false a1 H1→a1.td=false→TrG [] Tryz.prog 173 [X.p,.ptr kb 34 0 0,.agg (stC s)] (Hr X a1++H1) R)
  (h3:∀a1 H1,R1 true a1 H1→a1.td=false→R (i64 0) (Hr X a1++H1)):
  TrG [] Tryz.prog 176 [X.p,.agg (Pat.mk op 3 mn mx nm st [y]).C,.agg (stC s),.ptr kb 34 0 0] (Hr X a++Hb) R:=by
 refine Jb (N:=69) Tryz.func176 I I I ?_;have hd:([y].map Pat.cells)[((0:Nat):Int).toNat]?=some y.C:=by simp[Pat.cells_eq]
 have hw:IntKind.i64.wrap (s.at_ - lo)=s.at_ - lo:=zap ⟨by omega,by omega⟩
 refine ae0 (ag 2 I (O (Jc 5 I I (zab I) I (ab (J3 ?_)))));refine J7 (Jk I I (.inr ⟨_,I⟩) (zaB s) I fun r6 _=>?_)
 refine ab (ag 5 I (O (J1 okL I (.head _) I I I I (ab (O (Jf okL I I I (fun _ _=>(ab (J3 ?_)))))))));rename_i r9 _;refine J7 (J8 okL I I I (zab I) (zaB s) I I .here I I I ?_)
 refine ab (ag 20 I (Jo okL (zad I I I I I (am _) (hd) I) I (ag 1 I (O (J9 I I I (hL) (ab (ag 10 I (O (J1 okL I (.head _) I I I I (ab (ag 3 I (O (J8 okL I I I (zab I) I I I .here I I I (ab (ag 4 I (O (J1 okL I (.tail _ (.head _)) I I I I (ab (ag 4 I (J2 ?_))))))))))))))))))));rw[hw];by_cases g:s.at_ - lo≥0
 ·skip
  refine aH zk8 (fun _=>.nilp) okL hmix (by kernel_rfl) ?_;refine aa I I I (ay I I (.inl I) (J1 okL I (.head _) I I I I (Ja (ah ⟨I,I⟩))) (aa I I I (aa I I I ?_)));rw[aA g];refine aa I I I (aa I I I (aa I I I (aa I I (zad I I I I I (am _) (hd) I) (aa I I I (ay I I (.inl I) (J1 okL I (.head _) I I I I (Ja (ah ⟨I,I⟩))) (aa I I I ?_))))));refine aR (R:=fun v H'=>∃t a1 H1,v=.bool t∧R1 t a1 H1∧H'.Perm ((r9,.row 108 23 [stC {s with at_:=(s.at_ - lo)}])::(r6,.row 108 23 [stC s])::(Hr X a1++H1))) rfl rfl rfl (by obtain⟨t,a1,H1,h⟩:=hne;exact⟨_,_,t,a1,H1,I,h,.refl _⟩)
   (Jd [_,_] I I I I (h1 g) fun v H' ⟨t,a1,H1,e,k1,k2⟩=>Ja (ah ⟨t,a1,H1,e,k1,(k2.cons _).cons _⟩)) fun v H' hv=>?_
  obtain⟨t,⟨aw,atd,acg,abar,afd,afr,aae⟩,H1,rfl,hr,hp⟩:=hv
  (repeat (refine aa I I I ?_))
  refine aF ?_;refine ae (ag 6 I (J3 ?_));refine Jl hp ?_;rw[zaZ,az];cases atd with
  |true=>
   refine ab (O (J1 okL I (.tail _ (.tail _ (.head _))) I I I I (ab (ag 18 I (J ?_)))));refine zaa (J5 I I) ?_;exact hW.add _ _ [_,_] (hT t _ H1 hr I)
  |false=>
   cases t with
   |false=>
    refine ab (O (J1 okL I (.tail _ (.tail _ (.head _))) I I I I (ab (ag 26 I (O (J1 okL I (.tail _ (.head _)) I I I I (ab (J3 ?_))))))));refine J7 (Jd [_,_] I I I I (h2 _ H1 hr I) fun v H' hr=>?_)
    refine ab (ag 4 I (J ?_));refine zaa (J5 I I) ?_;exact hW.add _ _ [_,_] hr
   |true=>
    refine ab (O (J1 okL I (.tail _ (.tail _ (.head _))) I I I I (ab (ag 18 I (J ?_)))));refine zaa (J5 I I) ?_;exact hW.add _ _ [_,_] (h3 _ H1 hr I)
 ·skip
  refine aH zk8 (fun _=>.nilp) okL hmix (by kernel_rfl) ?_;refine aa I I I (ay I I (.inl I) (J1 okL I (.head _) I I I I (Ja (ah ⟨I,I⟩))) (aa I I I (aa I I I ?_)));rw[aG g];refine aP I I (aP I I (aP I I (aP I I (aP I I (aP I I (aP I I (aP I I (aa I I I (aa I I I ?_)))))))));refine aF ?_;obtain⟨aw,atd,acg,abar,afd,afr,aae⟩:=a;have htd:atd=false:=htd;subst htd;rw[zaZ,az];refine ae (ag 6 I (O (J1 okL I (.tail _ (.tail _ (.head _))) I I I I (ab (ag 26 I (O (J1 okL I (.tail _ (.head _)) I I I I (ab (J3 ?_)))))))));refine J7 (Jd [_,_] I I I I (h0 (by omega)) fun v H' hr=>?_)
  refine ab (ag 4 I (J ?_));refine zaa (J5 I I) ?_;exact hW.add _ _ [_,_] hr
theorem zjY(s:Sg)(kb:Nat):zan (fmC 4 zP 0 0 (stC s) (.ptr kb 34 0 0))=true:=by
 obtain⟨a,k,c,l⟩:=s;cases l<;>rfl
set_option maxHeartbeats 4000000 in
theorem call_ref(X:Rt)(a:RS)(y:Pat)(op n mn mx:Int)(nm:List UInt8)(st:List (Int×Int))(l:List Pat)(s:Sg)(hs:s.calls.length≤50)(kb:Nat)(Hb:Heap)(R:A→Heap→Prop)(hW:Wd R)(R1:Nat→Int→RS→Heap→Prop)
  (hg:n>0→∃t,PTr Tryz.prog 225 [.agg X.x.C,i64 n] (.tup [.agg y.C,.bool t])) (hg0:¬n>0→y=X.x)
  (h0:(n,s.at_)∈s.calls∨s.calls.length≥20→R (i64 0) (Hr X a++Hb))
  (h1:¬((n,s.at_)∈s.calls∨s.calls.length≥20)→∀b,b∉keys Hb→TrG [] Tryz.prog 124 [X.p,.agg y.C,.agg (stC {s with calls:=(n,s.at_)::s.calls}),.ptr b 34 0 0] ((b,.row 171 34 [fmC 4 zP 0 0 (stC s) (.ptr kb 34 0 0)])::(Hr X a++Hb)) (MidA X (R1 b)))
  (hbar:∀b a1 H1,R1 b 2 a1 H1→∃bb t1 s1 e1 t2 s2 e2,a1.bar=.ptr bb 34 0 0∧(bb,Blk.row t1 s1 e1)∈H1∧(b,Blk.row t2 s2 e2)∈H1)
  (h2a:∀b a1 H1 H',b∉keys Hb→R1 b 2 a1 H1→a1.bar=.ptr b 34 0 0→H'.Perm (Hr X a1++H1)→R (i64 0) H')
  (h2b:∀b m a1 H1 H',b∉keys Hb→R1 b m a1 H1→(m=2→a1.bar≠ .ptr b 34 0 0)→H'.Perm (Hr X a1++H1)→R (i64 m) H'):
  TrG [] Tryz.prog 179 [X.p,.agg (Pat.mk op n mn mx nm st l).C,.agg (stC s),.ptr kb 34 0 0] (Hr X a++Hb) R:=by
 refine Jb (N:=88) Tryz.func179 I I I ?_;refine ae0 (ag 2 I (O (Jc 5 I I (zab I) I (ab (J3 ?_)))));refine J7 (Jk I I (.inr ⟨_,I⟩) (zaB s) I fun r6 hr6=>?_)
 refine ab (ag 12 I (O (J1 okL I (.head _) I I I I (ab (ag 4 I (J2 ?_))))));refine Jj (α:=Nat×List (Int×Int)) (fun b=>b.2.length) (fun b=>[(0,X.p),(3,.ptr kb 34 0 0),(5,.dp (Pat.mk op n mn mx nm st l).C),(6,.ptr r6 23 0 0),(9,i64 b.1),(10,opA b.2)]) (fun b=>(r6,.row 108 23 [stC s])::(Hr X a++Hb))
  (fun b=>b.1+b.2.length=s.calls.length∧(∀c∈b.2,c∈s.calls)∧((n,s.at_)∈s.calls→(n,s.at_)∈b.2)) (0,s.calls) ⟨by simp,fun c h=>h,fun h=>h⟩ ?_ (ar _) ?_
 ·simp only[zaz]
  refine⟨I,I,I,I,I,I,trivial⟩
 rintro⟨m,q⟩ ⟨e1,e2,e3⟩ ih;simp only at e1 e2 e3;cases q with
 |cons c q=>
  obtain⟨c1,c2⟩:=c;have hlc:((c1,c2)::q).length=q.length+1:=rfl;have nx:A.int .i64 (IntKind.i64.wrap ((m:Int)+1))=.int .i64 ((m+1:Nat):Int):=by rw[zap ⟨by omega,by omega⟩];rfl
  refine ae0 (ag 20 I (Jq okL hmix (by kernel_rfl) (ag 8 I (Je ?_))))
  (refine bf I I (fun g1=>?_) (fun g1=>?_))
  ·have g1:c1=n:=by simpa [Pat.n] using g1
   subst g1;refine ap (ag 5 I (Je (aD I I I (J1 okL I (.head _) I I I I (Ja (Qn_n ⟨I,I⟩))) (ap (ag 4 I (J2 ?_))))))
   (refine J4 I (fun g2=>?_) (fun g2=>?_))
   ·have g2:c2=s.at_:=by simpa using g2
    subst g2;refine ae (ag 8 I (J (ax (ag 2 I (J ?_)))));refine zaa (J5 I I) ?_;exact hW.add _ _ [_] (h0 (.inl (e2 _ aE)))
   ·have g2:c2≠s.at_:=by simpa using g2
    refine ae (ag 10 I (J (zae ?_)))
    (refine aq 0 (ih ((m+1,q)) (⟨by simp only;omega,fun c h=>e2 c (aB _ h),fun h=>(List.mem_cons.1 (e3 h)).resolve_left (fun e=>g2 (by cases e;rfl))⟩) (by(simp only;omega))) ?_ I;exact⟨I,I,I,I,ai some nx,I,trivial⟩)
  ·have g1:c1≠n:=by simpa [Pat.n] using g1
   refine ap (ag 21 I (J (zae ?_)))
   (refine aq 0 (ih ((m+1,q)) (⟨by simp only;omega,fun c h=>e2 c (aB _ h),fun h=>(List.mem_cons.1 (e3 h)).resolve_left (fun e=>g1 (by cases e;rfl))⟩) (by(simp only;omega))) ?_ I;exact⟨I,I,I,I,ai some nx,I,trivial⟩)
 |nil=>
  have hno:¬(n,s.at_)∈s.calls:=fun h=>by cases e3 h
  have hm:m=s.calls.length:=by simpa using e1
  subst hm;refine ae0 (ag 10 I (J (ae (ag 7 I (J2 ?_)))))
  (refine J4 I (fun g=>?_) (fun g=>?_))
  ·have g:s.calls.length≥20:=by have g:=aj g;omega
   refine ae (ag 7 I (J ?_));refine zaa (J5 I I) ?_;exact hW.add _ _ [_] (h0 (.inr g))
  ·have g:¬s.calls.length≥20:=by have g:=ao g;omega
   have hno2:¬((n,s.at_)∈s.calls∨s.calls.length≥20):=fun h=>h.elim hno g;rw[zaZ,az];refine ae (ag 7 I (O (J1 okL I (.tail _ (.head _)) I I I I (ab (O (Jf okL I I I (fun _ _=>(ab (O (J8 okL I I I (zab I) I I I .here I I I (ab (ag 10 I (J2 ?_)))))))))))));rename_i r11 _
   (refine J4 I (fun g3=>?_) (fun g3=>?_))
   ·have g3:n>0:=aj g3
    obtain⟨t,hgt⟩:=hg g3;refine ae (Jq okL hmix (by kernel_rfl) (ag 3 I (Je (aD I I I (J1 okL I (.tail _ (.tail _ (.head _))) I I I I (Ja (Qn_n ⟨I,I⟩))) (ap (ag 2 I (Je (aD I I I (J9 I I I (hgt) (Ja (Qn_n ⟨I,I⟩))) (ap (ag 3 I (Je (Pl.eff1 I I I (J8 okL I I I (zab I) I I I .here I I I (Ja (Qn_n ⟨I,I⟩))) (ap (ag 4 I (O (J1 okL I (.tail _ (.head _)) I I I I (ab (ag 2 I (J3 ?_)))))))))))))))))));refine ab (J3 ?_)
    refine J7 (Jk I I (.inr ⟨_,I⟩) (zjY s kb) I fun b hb=>?_)
    have hbn:b∉keys Hb:=fun h=>hb (by
     rw[←az,←zaZ];simp only[keys,aU,bd,bx,bD];exact .inr (.inr (.inr h)))
    refine ab (ag 8 I (O (J1 okL I (.tail _ (.tail _ (.head _))) I I I I (ab (ag 1 I (O (J1 okL I (.tail _ (.tail _ (.head _))) I I I I (ab (J3 ?_)))))))));refine J7 (AOp.build okL I I I I (out:=[i64 n,i64 s.at_,opA s.calls,i64 0]) (by generalize s.calls=q;cases q<;>rfl) I ?_)
    refine J7 (Jc 70 I I (.inr ⟨_,I⟩) I ?_)
    refine ab (ag 1 I (O (J8 okL I I I (zab I) I I I (.there (.there .here)) I I I (ab (ag 5 I (O (J1 okL I (.tail _ (.head _)) I I I I (ab (O (J1 okL I (.tail _ (.tail _ (.head _))) I I I I (ab (ag 1 I (J3 ?_)))))))))))));refine J7 (Jp (Hc:=(b,.row 171 34 [fmC 4 zP 0 0 (stC s) (.ptr kb 34 0 0)])::(Hr X a++Hb)) (F:=[_,_]) I I I ((aN (l₁:=[_,_])).cons _) (h1 hno2 b hbn) fun v H' hv=>?_)
    obtain⟨m,⟨aw,atd,acg,abar,afd,afr,aae⟩,H1,rfl,hr,hp⟩:=hv;refine Jl ((aN (l₂:=[_,_])).trans ((hp.cons _).cons _)) ?_;by_cases hm:m=2
    ·subst hm
     obtain⟨bb,t1,s1,e1,t2,s2,e2,hbb,hm1,hm2⟩:=hbar _ _ _ hr;have hbb:abar=.ptr bb 34 0 0:=hbb;subst hbb;rw[zaZ,az];by_cases hq:bb=b
     ·subst hq
      refine ab (ag 12 I (Jg I I I (J1 okL I (.tail _ (.tail _ (.head _))) I I I I (ab (ag 1 I (J3 ?_))))));refine Jy I I I (AOp.ptrSame okL I I I I I I ?_)
      refine ab (ag 11 I (J ?_));refine zaa (J5 I I) ?_;exact hW.add _ _ [_,_] (h2a bb _ H1 _ hbn hr I (.refl _))
     ·refine ab (ag 12 I (Jg I I I (J1 okL I (.tail _ (.tail _ (.head _))) I I I I (ab (ag 1 I (J3 ?_))))))
      refine Jy I I I (AOp.ptrOther okL I I I I I hq (.tail _ (.tail _ (.tail _ (bI _ hm1)))) (.tail _ (.tail _ (.tail _ (bI _ hm2)))) I ?_)
      refine ab (ag 13 I (J ?_));refine zaa (J5 I I) ?_;exact hW.add _ _ [_,_] (h2b b 2 _ H1 _ hbn hr (fun _ e=>hq (by cases e;rfl)) (.refl _))
    ·have hm2:(m==2)=false:=by simpa using hm
     refine ab (ag 9 I (J3 ?_));rw[hm2];refine ab (ag 19 I (J ?_));refine zaa (J5 I I) ?_;exact hW.add _ _ [_,_] (h2b b m _ H1 _ hbn hr (fun e=>absurd e hm) (.refl _))
   ·have g3:¬n>0:=ao g3
    have e:=hg0 g3;subst e;refine ae (ag 4 I (O (J1 okL I (.tail _ (.head _)) I I I I (ab (ag 2 I (J3 ?_))))));refine J7 (Jk I I (.inr ⟨_,I⟩) (zjY s kb) I fun b hb=>?_)
    have hbn:b∉keys Hb:=fun h=>hb (by
     rw[←az,←zaZ];simp only[keys,aU,bd,bx,bD];exact .inr (.inr (.inr h)))
    refine ab (ag 8 I (O (J1 okL I (.tail _ (.tail _ (.head _))) I I I I (ab (ag 1 I (O (J1 okL I (.tail _ (.tail _ (.head _))) I I I I (ab (J3 ?_)))))))));refine J7 (AOp.build okL I I I I (out:=[i64 n,i64 s.at_,opA s.calls,i64 0]) (by generalize s.calls=q;cases q<;>rfl) I ?_)
    refine J7 (Jc 70 I I (.inr ⟨_,I⟩) I ?_)
    refine ab (ag 1 I (O (J8 okL I I I (zab I) I I I (.there (.there .here)) I I I (ab (ag 5 I (O (J1 okL I (.tail _ (.head _)) I I I I (ab (O (J1 okL I (.tail _ (.tail _ (.head _))) I I I I (ab (ag 1 I (J3 ?_)))))))))))));refine J7 (Jp (Hc:=(b,.row 171 34 [fmC 4 zP 0 0 (stC s) (.ptr kb 34 0 0)])::(Hr X a++Hb)) (F:=[_,_]) I I I ((aN (l₁:=[_,_])).cons _) (h1 hno2 b hbn) fun v H' hv=>?_)
    obtain⟨m,⟨aw,atd,acg,abar,afd,afr,aae⟩,H1,rfl,hr,hp⟩:=hv;refine Jl ((aN (l₂:=[_,_])).trans ((hp.cons _).cons _)) ?_;by_cases hm:m=2
    ·subst hm
     obtain⟨bb,t1,s1,e1,t2,s2,e2,hbb,hm1,hm2⟩:=hbar _ _ _ hr;have hbb:abar=.ptr bb 34 0 0:=hbb;subst hbb;rw[zaZ,az];by_cases hq:bb=b
     ·subst hq
      refine ab (ag 12 I (Jg I I I (J1 okL I (.tail _ (.tail _ (.head _))) I I I I (ab (ag 1 I (J3 ?_))))));refine Jy I I I (AOp.ptrSame okL I I I I I I ?_)
      refine ab (ag 11 I (J ?_));refine zaa (J5 I I) ?_;exact hW.add _ _ [_,_] (h2a bb _ H1 _ hbn hr I (.refl _))
     ·refine ab (ag 12 I (Jg I I I (J1 okL I (.tail _ (.tail _ (.head _))) I I I I (ab (ag 1 I (J3 ?_))))))
      refine Jy I I I (AOp.ptrOther okL I I I I I hq (.tail _ (.tail _ (.tail _ (bI _ hm1)))) (.tail _ (.tail _ (.tail _ (bI _ hm2)))) I ?_)
      refine ab (ag 13 I (J ?_));refine zaa (J5 I I) ?_;exact hW.add _ _ [_,_] (h2b b 2 _ H1 _ hbn hr (fun _ e=>hq (by cases e;rfl)) (.refl _))
    ·have hm2:(m==2)=false:=by simpa using hm
     refine ab (ag 9 I (J3 ?_));rw[hm2];refine ab (ag 19 I (J ?_));refine zaa (J5 I I) ?_;exact hW.add _ _ [_,_] (h2b b m _ H1 _ hbn hr (fun e=>absurd e hm) (.refl _))
def zgL(o:Oper):Nat:=match o.op with
 |.box .. =>4
 |.load .. =>1
 |.store .. =>2
 |.call {callee:=.value _,.. }=>2
 |_=>0
set_option maxHeartbeats 4000000 in
theorem goOn_cat(X:Rt)(x y:Pat)(n:Nat)(hy:x.l[n]?=some y)(s:Sg)(kb nb:Nat)(Hx:Heap)(R:A→Heap→Prop)(hne:∃v H',R v H')
  (h1:n+1=x.l.length→TrG [] Tryz.prog 124 [X.p,.agg y.C,.agg (stC s),.ptr nb 34 0 0] ((kb,.row 171 34 [fmC 1 x.C n 0 zSt (.ptr nb 34 0 0)])::Hx) R)
  (h2:n+1<x.l.length→∀b,TrG [] Tryz.prog 124 [X.p,.agg y.C,.agg (stC s),.ptr b 34 0 0] ((b,.row 171 34 [fmC 1 x.C ((n+1:Nat):Int) 0 zSt (.ptr nb 34 0 0)])::(kb,.row 171 34 [fmC 1 x.C n 0 zSt (.ptr nb 34 0 0)])::Hx) R):
  TrG [] Tryz.prog 173 [X.p,.ptr kb 34 0 0,.agg (stC s)] ((kb,.row 171 34 [fmC 1 x.C n 0 zSt (.ptr nb 34 0 0)])::Hx) R:=by
 refine Jb (N:=225) Tryz.func173 I I I ?_;have hn:n<x.l.length:=(List.getElem?_eq_some_iff.1 hy).1;have hd:(x.l.map Pat.cells)[((n:Nat):Int).toNat]?=some y.C:=getC hy;refine ae0 (ag 2 I (O (Jc 5 I I (zab I) I (ab (ag 9 I (O (J1 okL I (.head _) I I I I (ab (ag 12 I (J2 ?_))))))))));refine ae (Jq okL hmix (by kernel_rfl) (ag 3 I (Je (aD I I I (J1 okL I (.head _) I I I I (Ja (Qn_n ⟨I,I⟩))) (ap (ag 4 I (Je (aD I I I (J1 okL I (.head _) I I I I (Ja (Qn_n ⟨I,I⟩))) (ap (ag 5 I (J2 ?_)))))))))));refine Jv (t:=22) I (za1.ds _) fun hl=>?_;rw[ak] at hl;unfold maxLen at hl;have hw:IntKind.i64.wrap ((x.l.length:Int) - 1)=(x.l.length:Int) - 1:=zap ⟨by omega,by omega⟩
 have hw2:A.int .i64 (IntKind.i64.wrap ((n:Int)+1))=.int .i64 ((n+1:Nat):Int):=by rw[zap ⟨by omega,by omega⟩];rfl
 rw[ak,hw]
 (refine J4 I (fun q=>?_) (fun q=>?_))
 ·have q:(n:Int)=(x.l.length:Int) - 1:=by simpa using q
  refine ae (ag 1 I (J2 ?_));refine aH zgL (fun _=>.nilp) okL hmix (by kernel_rfl) ?_;refine aa I I I (aa I I I (aa I I I (aa I I I (aa I I I (ay I I (.inl I) (J1 okL I (.head _) I I I I (Ja (ah ⟨I,I⟩))) (aa I I I (aa I I I (aa I I I (ay I I (.inl I) (J1 okL I (.head _) I I I I (Ja (ah ⟨I,I⟩))) (aa I I (zad I I I I I (by omega) (hd) I) (aa I I I (aa I I I (aa I I I (aa I I I (aa I I I (ay I I (.inl I) (J1 okL I (.head _) I I I I (Ja (ah ⟨I,I⟩))) ?_))))))))))))))));refine aR (R:=R) I I I hne (Ji I I I (h1 (by omega)) fun v H' hr=>Ja (ah hr)) fun v H' hv=>?_
  (repeat (refine aa I I I ?_))
  refine aF ?_;refine ae (ag 4 I (J ?_));refine zaa (J5 I I) ?_;exact hv
 ·have q:(n:Int)≠(x.l.length:Int) - 1:=by simpa using q
  refine ae (ag 3 I (J2 ?_));refine aH zgL (fun _=>.nilp) okL hmix (by kernel_rfl) ?_;refine aa I I I (aa I I I (aa I I I (aa I I I (aa I I I (ay I I (.inl I) (J1 okL I (.head _) I I I I (Ja (ah ⟨I,I⟩))) (aa I I I (aa I I I (aa I I I (ay I I (.inl I) (J1 okL I (.head _) I I I I (Ja (ah ⟨I,I⟩))) (aa I I (zad I I I I I (by omega) (hd) I) (aa I I I (aa I I I (aa I I I (aa I I I (aa I I I (ay I I (.inl I) (J1 okL I (.head _) I I I I (Ja (ah ⟨I,I⟩))) (aa I I I (aa I I I (aa I I I (ay I I (.inl I) (J1 okL I (.head _) I I I I (Ja (ah ⟨I,I⟩))) (aa I I I (aa I I I (aa I I I (aa I I I (ay I I (.inl I) (J1 okL I (.head _) I I I I (Ja (ah ⟨I,I⟩))) (aa I I I ?_))))))))))))))))))))))))));rw[hw2];refine bK (R:=fun v F=>∃b,v=.ptr b 34 0 0∧F=[(b,.row 171 34 [fmC 1 x.C ((n+1:Nat):Int) 0 zSt (.ptr nb 34 0 0)])]) I I I ⟨_,_,0,I,I⟩ (Jk I I (.inr ⟨_,I⟩) I I fun b _=>Ja (ah ⟨_,⟨b,I,I⟩,I⟩)) ?_
  rintro v F ⟨b,rfl,rfl⟩;refine aR (R:=R) I I I hne (Ji I I I (h2 (by omega) b) fun v H' hr=>Ja (ah hr)) fun v H' hv=>?_
  (repeat (refine aa I I I ?_))
  refine aF ?_;refine ae (ag 3 I (J ?_));refine zaa (J5 I I) ?_;exact hv
set_option maxHeartbeats 4000000 in
theorem goOn_turn(X:Rt)(x:Pat)(many fr:Int)(s:Sg)(kb nb:Nat)(Hx:Heap)(R:A→Heap→Prop)(hne:∃v H',R v H')
  (h0:many≥x.min∧s.at_=fr→R (i64 0) ((kb,.row 171 34 [fmC 2 x.C many fr zSt (.ptr nb 34 0 0)])::Hx))
  (h1:¬(many≥x.min∧s.at_=fr)→TrG [] Tryz.prog 175 [X.p,.agg x.C,i64 (IntKind.i64.wrap (many+1)),.agg (stC s),.ptr nb 34 0 0] ((kb,.row 171 34 [fmC 2 x.C many fr zSt (.ptr nb 34 0 0)])::Hx) R):
  TrG [] Tryz.prog 173 [X.p,.ptr kb 34 0 0,.agg (stC s)] ((kb,.row 171 34 [fmC 2 x.C many fr zSt (.ptr nb 34 0 0)])::Hx) R:=by
 refine Jb (N:=225) Tryz.func173 I I I ?_;refine ae0 (ag 2 I (O (Jc 5 I I (zab I) I (ab (ag 9 I (O (J1 okL I (.head _) I I I I (ab (ag 19 I (J2 ?_))))))))));refine ae (Jq okL hmix (by kernel_rfl) (ag 3 I (Je (aD I I I (J1 okL I (.head _) I I I I (Ja (Qn_n ⟨I,I⟩))) (ap (ag 4 I (Je (aD I I I (J1 okL I (.head _) I I I I (Ja (Qn_n ⟨I,I⟩))) (ap (ag 2 I (Je ?_)))))))))))
 (refine bf I I (fun q=>?_) (fun q=>?_))
 ·have q:many≥x.min:=aj q
  refine ap (ag 5 I (Je (aD I I I (J1 okL I (.head _) I I I I (Ja (Qn_n ⟨I,I⟩))) (ap (ag 4 I (J2 ?_))))))
  (refine J4 I (fun q2=>?_) (fun q2=>?_))
  ·have q2:s.at_=fr:=by simpa using q2
   refine ae (ag 9 I (J ?_));refine zaa (J5 I I) ?_;exact h0 ⟨q,q2⟩
  ·have q2:s.at_≠fr:=by simpa using q2
   refine ae (ag 3 I (J2 ?_));refine aH zgL (fun _=>.nilp) okL hmix (by kernel_rfl) ?_;refine aa I I I (aa I I I (aa I I I (aa I I I (ay I I (.inl I) (J1 okL I (.head _) I I I I (Ja (ah ⟨I,I⟩))) (aa I I I (aa I I I (aa I I I (ay I I (.inl I) (J1 okL I (.head _) I I I I (Ja (ah ⟨I,I⟩))) (aa I I I (aa I I I (aa I I I (aa I I I (aa I I I (ay I I (.inl I) (J1 okL I (.head _) I I I I (Ja (ah ⟨I,I⟩))) ?_))))))))))))));refine aR (R:=R) I I I hne (Ji I I I (h1 fun e=>q2 e.2) fun v H' hr=>Ja (ah hr)) fun v H' hv=>?_
   (repeat (refine aa I I I ?_))
   refine aF ?_;refine ae (ag 3 I (J ?_));refine zaa (J5 I I) ?_;exact hv
 ·have q:¬many≥x.min:=ao q
  refine ap (ag 14 I (J2 ?_));refine aH zgL (fun _=>.nilp) okL hmix (by kernel_rfl) ?_;refine aa I I I (aa I I I (aa I I I (aa I I I (ay I I (.inl I) (J1 okL I (.head _) I I I I (Ja (ah ⟨I,I⟩))) (aa I I I (aa I I I (aa I I I (ay I I (.inl I) (J1 okL I (.head _) I I I I (Ja (ah ⟨I,I⟩))) (aa I I I (aa I I I (aa I I I (aa I I I (aa I I I (ay I I (.inl I) (J1 okL I (.head _) I I I I (Ja (ah ⟨I,I⟩))) ?_))))))))))))));refine aR (R:=R) I I I hne (Ji I I I (h1 fun e=>q e.1) fun v H' hr=>Ja (ah hr)) fun v H' hv=>?_
  (repeat (refine aa I I I ?_))
  refine aF ?_;refine ae (ag 3 I (J ?_));refine zaa (J5 I I) ?_;exact hv
theorem zjl{a kp:Int}{l:List (Int×Int)}{c:A}(h:l.length=10){n:Int}(hn:1≤n∧n≤9)(u v:Int):zcf (stL a kp l c) (0+2+n.toNat*2) [i64 u,i64 v]=some (stL a kp (l.set n.toNat (u,v)) c):=by
 obtain⟨c0,c1,c2,c3,c4,c5,c6,c7,c8,c9,rfl⟩:=ten h;rcases nine hn with rfl|rfl|rfl|rfl|rfl|rfl|rfl|rfl|rfl<;>rfl
set_option maxHeartbeats 4000000 in
theorem goOn_group(X:Rt)(n fr:Int)(hn:1≤n∧n≤9)(s:Sg)(hc:s.caps.length=10)(kb nb:Nat)(Hx:Heap)(R:A→Heap→Prop)(hW:Wd R)(hne:∃v H',R v H')
  (h:TrG [] Tryz.prog 173 [X.p,.ptr nb 34 0 0,.agg (stC {s with caps:=s.caps.set n.toNat (fr,s.at_)})] ((kb,.row 171 34 [fmC 3 zP n fr zSt (.ptr nb 34 0 0)])::Hx) R):
  TrG [] Tryz.prog 173 [X.p,.ptr kb 34 0 0,.agg (stC s)] ((kb,.row 171 34 [fmC 3 zP n fr zSt (.ptr nb 34 0 0)])::Hx) R:=by
 refine Jb (N:=225) Tryz.func173 I I I ?_;refine ae0 (ag 2 I (J3 ?_));refine J7 (Jk I I (.inr ⟨_,I⟩) (zaB s) I fun r5 _=>?_)
 refine ab (ag 9 I (O (J1 okL I (.tail _ (.head _)) I I I I (ab (ag 25 I (J2 ?_))))));refine aH zgL (fun _=>.nilp) okL hmix (by kernel_rfl) ?_;refine aa I I I (aa I I I (aa I I I (ay I I (.inl I) (J1 okL I (.tail _ (.head _)) I I I I (Ja (ah ⟨I,I⟩))) (aa I I I (aa I I I (aa I I I (ay I I (.inl I) (J1 okL I (.tail _ (.head _)) I I I I (Ja (ah ⟨I,I⟩))) (aa I I I (ay I I (.inl I) (J1 okL I (.head _) I I I I (Ja (ah ⟨I,I⟩))) (aa I I I (aa I I I (aa I I (zaC I I I I I (by omega) (by omega)) ?_))))))))))));refine bn I I I (J8 okL I I I (zab I) I I I .here I (zjl hc hn fr s.at_) I (Ja (ah ⟨I,I⟩))) ?_;refine aF ?_;refine ae (ag 1 I (J2 ?_));refine aH zgL (fun _=>.nilp) okL hmix (by kernel_rfl) ?_;refine aa I I I (aa I I I (aa I I I (aa I I I (ay I I (.inl I) (J1 okL I (.tail _ (.head _)) I I I I (Ja (ah ⟨I,I⟩))) (ay I I (.inl I) (J1 okL I (.head _) I I I I (Ja (ah ⟨I,I⟩))) ?_)))))
 refine aR (R:=R) I I I hne (Jd [_] I I I I h fun v H' hr=>Ja (ah (hW.add _ _ [_] hr))) fun v H' hv=>?_
 (repeat (refine aa I I I ?_))
 refine aF ?_;refine ae (ag 3 I (J ?_));refine zaa (J5 I I) ?_;exact hv
set_option maxHeartbeats 4000000 in
theorem goOn_call(X:Rt)(o s:Sg)(kb nb:Nat)(Hx:Heap)(R:A→Heap→Prop)(hW:Wd R)(hne:∃v H',R v H')
  (h:TrG [] Tryz.prog 173 [X.p,.ptr nb 34 0 0,.agg (stC {o with at_:=s.at_})] ((kb,.row 171 34 [fmC 4 zP 0 0 (stC o) (.ptr nb 34 0 0)])::Hx) R):
  TrG [] Tryz.prog 173 [X.p,.ptr kb 34 0 0,.agg (stC s)] ((kb,.row 171 34 [fmC 4 zP 0 0 (stC o) (.ptr nb 34 0 0)])::Hx) R:=by
 refine Jb (N:=225) Tryz.func173 I I I ?_;refine ae0 (ag 2 I (J3 ?_));refine J7 (Jk I I (.inr ⟨_,I⟩) (zaB s) I fun r5 _=>?_)
 refine ab (ag 9 I (O (J1 okL I (.tail _ (.head _)) I I I I (ab (ag 34 I (O (J1 okL I (.head _) I I I I (ab (ag 8 I (O (J1 okL I (.tail _ (.head _)) I I I I (ab (J3 ?_)))))))))))));refine J7 (J8 okL I I I (zab I) (zaB o) I I .here I I I ?_)
 refine ab (ag 6 I (O (J8 okL I I I (zab I) I I I .here I I I (ab (ag 3 I (J2 ?_))))));refine aH zgL (fun _=>.nilp) okL hmix (by kernel_rfl) ?_;refine aa I I I (aa I I I (aa I I I (aa I I I (ay I I (.inl I) (J1 okL I (.tail _ (.head _)) I I I I (Ja (ah ⟨I,I⟩))) (ay I I (.inl I) (J1 okL I (.head _) I I I I (Ja (ah ⟨I,I⟩))) ?_)))));refine aR (R:=R) I I I hne (Jd [_] I I I I h fun v H' hr=>Ja (ah (hW.add _ _ [_] hr))) fun v H' hv=>?_
 (repeat (refine aa I I I ?_))
 refine aF ?_;refine ae (ag 3 I (J ?_));refine zaa (J5 I I) ?_;exact hv
set_option maxHeartbeats 4000000 in
theorem goOn_stop(X:Rt)(a:RS)(want:Int)(s:Sg)(kb:Nat)(Hx:Heap)(R:A→Heap→Prop)
  (h0:want≥0∧want≠s.at_→R (i64 0) ((kb,.row 171 34 [fmC 5 zP 0 want zSt .nilp])::(Hr X a++Hx)))
  (h1:¬(want≥0∧want≠s.at_)→R (i64 1) ((kb,.row 171 34 [fmC 5 zP 0 want zSt .nilp])::(Hr X {a with fd:=s}++Hx))):
  TrG [] Tryz.prog 173 [X.p,.ptr kb 34 0 0,.agg (stC s)] ((kb,.row 171 34 [fmC 5 zP 0 want zSt .nilp])::(Hr X a++Hx)) R:=by
 refine Jb (N:=225) Tryz.func173 I I I ?_;rw[zaZ,az];refine ae0 (ag 2 I (O (Jc 5 I I (zab I) I (ab (ag 9 I (O (J1 okL I (.head _) I I I I (ab (ag 40 I (J2 ?_))))))))));refine ae (Jq okL hmix (by kernel_rfl) (ag 3 I (Je (aD I I I (J1 okL I (.head _) I I I I (Ja (Qn_n ⟨I,I⟩))) (ap (ag 2 I (Je ?_)))))))
 (refine bf I I (fun q=>?_) (fun q=>?_))
 ·have q:want≥0:=aj q
  refine ap (ag 3 I (Je (aD I I I (J1 okL I (.head _) I I I I (Ja (Qn_n ⟨I,I⟩))) (ap (ag 6 I (J2 ?_))))))
  (refine J4 I (fun q2=>?_) (fun q2=>?_))
  ·have q2:want≠s.at_:=by simpa using q2
   refine ae (ag 9 I (J ?_));refine zaa (J5 I I) ?_;exact h0 ⟨q,q2⟩
  ·have q2:want=s.at_:=by simpa using q2
   refine ae (ag 8 I (J3 ?_));refine J7 (J8 okL I I I (zab I) (zaB s) I I (.there .here) I I I ?_)
   refine ab (ag 10 I (J ?_));refine zaa (J5 I I) ?_;exact h1 fun e=>e.2 q2
 ·have q:¬want≥0:=ao q
  refine ap (ag 19 I (J3 ?_));refine J7 (J8 okL I I I (zab I) (zaB s) I I (.there .here) I I I ?_)
  refine ab (ag 10 I (J ?_));refine zaa (J5 I I) ?_;exact h1 fun e=>q e.1
def zez(X:Rt)(acc:List Int)(p:Int):Bool:=match X.en with
 |none=>true
 |some _=>(X.whole&&p==(X.s.length:Int))||!(decide ((acc.length:Int)+1<X.most)||X.most==0)
def accW(p:Int)(w:Wk):Wk:={w with acc:=w.acc++[p]}
theorem znD(n:Nat)(acc:List Int){p:Int}(h0:0≤p)(hp:p≤n):(zc2 n acc).set p.toNat [A.bool true]=zc2 n (acc++[p]):=by
 unfold zc2
 apply List.ext_getElem?
 intro i;rw[List.getElem?_set];by_cases h:p.toNat=i
 ·subst h
  rw[af I,List.getElem?_map];simp only[ak,dI];rw[af (by omega),List.getElem?_range (by omega)];simp only[bh,bD,df];rw[aA (.inr (by omega))]
 ·rw[ac h,List.getElem?_map,List.getElem?_map]
  by_cases hi:i<n+1
  ·rw[List.getElem?_range hi]
   simp only[bh,bD,df];have:((i:Int)=p)↔False:=⟨fun e=>h (by omega),fun e=>e.elim⟩;simp only[this,or_false]
  ·rw[List.getElem?_eq_none (by simpa using hi)]
   rfl
theorem zjw(n:Nat)(acc:List Int){p:Int}(h0:0≤p)(hp:p≤n):(zc2 n acc)[p.toNat]?=some [A.bool (decide (p∈acc))]:=by
 unfold zc2;rw[List.getElem?_map,List.getElem?_range (by omega)];simp only[bh,show((p.toNat:Nat):Int)=p by omega]
theorem znA(n:Nat)(acc:List Int):(zc2 n acc).length=n+1:=by simp[zc2]
set_option maxHeartbeats 4000000 in
theorem goOn_fin0(m al:Nat)(x:Pat)(fl:List UInt8)(ss:List Nat)(row most:Int)(whole:Bool)(a:RS)(s:Sg)(kb:Nat)(Hx:Heap)(R:A→Heap→Prop)
  (h1:R (i64 1) ((kb,.row 171 34 [fmC 0 zP 0 0 zSt .nilp])::(Hr ⟨m,al,none,x,fl,ss,row,most,whole⟩ {a with w:=accW s.at_ a.w,fd:=s}++Hx))):
  TrG [] Tryz.prog 173 [.ptr m 44 0 0,.ptr kb 34 0 0,.agg (stC s)] ((kb,.row 171 34 [fmC 0 zP 0 0 zSt .nilp])::(Hr ⟨m,al,none,x,fl,ss,row,most,whole⟩ a++Hx)) R:=by
 refine Jb (N:=225) Tryz.func173 I I I ?_;rw[zaZ,az];refine ae0 (ag 2 I (O (Jc 5 I I (zab I) I (ab (ag 9 I (O (J1 okL I (.head _) I I I I (ab (ag 47 I (O (J1 okL I (.tail _ (.head _)) I I I I (ab (ag 12 I (J3 ?_))))))))))))));refine J7 (J8 okL I I I (zab I) (zaB s) I I (.there .here) I I I ?_)
 refine ab (ag 8 I (J ?_));refine zaa (J5 I I) ?_;exact h1
set_option maxHeartbeats 4000000 in
theorem goOn_fin1(m al e:Nat)(x:Pat)(fl:List UInt8)(ss:List Nat)(hN:ss.length≤1000000)(row most:Int)(whole:Bool)(a:RS)(hacc:a.w.acc.length≤1000000)(s:Sg)(hs:0≤s.at_∧s.at_≤ss.length)(kb:Nat)(Hx:Heap)(R:A→Heap→Prop)
  (h1:zez ⟨m,al,some e,x,fl,ss,row,most,whole⟩ a.w.acc s.at_=true→R (i64 1) ((kb,.row 171 34 [fmC 0 zP 0 0 zSt .nilp])::(Hr ⟨m,al,some e,x,fl,ss,row,most,whole⟩ {a with w:=accW s.at_ a.w,fd:=s}++Hx)))
  (h0:zez ⟨m,al,some e,x,fl,ss,row,most,whole⟩ a.w.acc s.at_=false→R (i64 0) ((kb,.row 171 34 [fmC 0 zP 0 0 zSt .nilp])::(Hr ⟨m,al,some e,x,fl,ss,row,most,whole⟩ {a with w:=accW s.at_ a.w}++Hx))):
  TrG [] Tryz.prog 173 [.ptr m 44 0 0,.ptr kb 34 0 0,.agg (stC s)] ((kb,.row 171 34 [fmC 0 zP 0 0 zSt .nilp])::(Hr ⟨m,al,some e,x,fl,ss,row,most,whole⟩ a++Hx)) R:=by
 refine Jb (N:=225) Tryz.func173 I I I ?_;obtain⟨w,td,cg,bar,fd,fr,ae⟩:=a;have hacc:w.acc.length≤1000000:=hacc;have hw:IntKind.i64.wrap ((w.acc.length:Int)+1)=(w.acc.length:Int)+1:=zap ⟨by omega,by omega⟩
 have hst:zez ⟨m,al,some e,x,fl,ss,row,most,whole⟩ w.acc s.at_=((whole&&s.at_==(ss.length:Int))||!(decide ((w.acc.length:Int)+1<most)||most==0)):=rfl
 have hwv:IntKind.i64.wrap ((⟨m,al,some e,x,fl,ss,row,most,whole⟩:Rt).ways w+1)=(w.acc.length:Int)+1:=hw;have hwf:(⟨m,al,some e,x,fl,ss,row,most,whole⟩:Rt).ways (accW s.at_ w)=(w.acc.length:Int)+1:=by
  show(((w.acc++[s.at_]).length:Nat):Int)=_
  rw[aT,bc];omega
 have m1:(zc2 ss.length w.acc)[0+s.at_.toNat]?=some [A.bool (decide (s.at_∈w.acc))]:=by rw[aS];exact zjw _ _ hs.1 hs.2
 have m2:(zc2 ss.length w.acc).set (0+s.at_.toNat) [A.bool true]=zc2 ss.length (w.acc++[s.at_]):=by rw[aS];exact znD _ _ hs.1 hs.2
 have hH:∀(b:RS),(Hr ⟨m,al,some e,x,fl,ss,row,most,whole⟩ b++Hx)=(m,.row 111 44 [rC ⟨m,al,some e,x,fl,ss,row,most,whole⟩ b])::(al,.row 47 1 (b.ae.map alE))::(e,.row 4 1 (zc2 ss.length b.w.acc))::(outH 3 1 b.cg (b.w.codes.map zC)++Hx):=fun _=>rfl;rw[hH];have close:∀(v:A) (f:Sg),R v ((kb,.row 171 34 [fmC 0 zP 0 0 zSt .nilp])::(Hr ⟨m,al,some e,x,fl,ss,row,most,whole⟩ ⟨accW s.at_ w,td,cg,bar,f,fr,ae⟩++Hx))→∀q z,q=rC ⟨m,al,some e,x,fl,ss,row,most,whole⟩ ⟨accW s.at_ w,td,cg,bar,f,fr,ae⟩→z=zc2 ss.length (w.acc++[s.at_])→
   R v ((kb,.row 171 34 [fmC 0 zP 0 0 zSt .nilp])::(m,.row 111 44 [q])::(al,.row 47 1 (ae.map alE))::(e,.row 4 1 z)::(outH 3 1 cg (w.codes.map zC)++Hx)):=by
  rintro v f h q z rfl rfl;exact h
 have rcl:∀(f:Sg) (q:Int),q=(w.acc.length:Int)+1→x.C++[.str fl,.ds (ss.map nC),.os al 1 0 ss.length,i64 w.r,.bool td,.int .u64 row,outV 1 cg w.codes.length,bar]++stC f++[.os e 1 0 (ss.length+1),i64 q,i64 most,.bool whole,i64 fr,.bool false]=rC ⟨m,al,some e,x,fl,ss,row,most,whole⟩ ⟨accW s.at_ w,td,cg,bar,f,fr,ae⟩:=by
  intro f q hq;unfold rC;simp only;rw[hwf,hq];rfl
 refine ae0 (ag 2 I (O (Jc 5 I I (zab I) I (ab (ag 9 I (O (J1 okL I (.head _) I I I I (ab (ag 47 I (O (J1 okL I (.tail _ (.head _)) I I I I (ab (ag 5 I (J2 ?_))))))))))))));refine ae0 (Jq okL hmix (by kernel_rfl) (ag 3 I (Je (aD I I I (J1 okL I (.tail _ (.head _)) I I I I (Ja (Qn_n ⟨I,I⟩))) (ap (ag 2 I (Je (b4 I (zaN I I I I I (hs.1) (by simp only;omega) I) (ap (Je (Pl.eff1 I I I (J8 okL I I I (zab I) I I I (.there (.there (.there .here))) (m1) I I (Ja (Qn_n ⟨I,I⟩))) (ap (ag 1 I (J (ax (ag 6 I (O (J1 okL I (.tail _ (.head _)) I I I I (ab (ag 3 I (O (J8 okL I I I (zab I) I I I (.there .here) I I I (ab (ag 3 I (Jq okL hmix (by kernel_rfl) (ag 3 I (Je (aD I I I (J1 okL I (.tail _ (.head _)) I I I I (Ja (Qn_n ⟨I,I⟩))) (ap (ag 1 I (Je ?_)))))))))))))))))))))))))))))));cases hw0:whole with
 |false=>
  subst hw0;refine ap (ag 14 I (Je (aD I I I (J1 okL I (.tail _ (.head _)) I I I I (Ja (Qn_n ⟨I,I⟩))) (ap (ag 3 I (Je (aD I I I (J1 okL I (.tail _ (.head _)) I I I I (Ja (Qn_n ⟨I,I⟩))) (ap (ag 2 I (Je ?_))))))))));rw[hwv];by_cases q2:(w.acc.length:Int)+1<most
  ·rw[aA q2]
   have HH:zez ⟨m,al,some e,x,fl,ss,row,most,false⟩ w.acc s.at_=false:=by rw[hst,bj,aA q2];rfl
   refine ap (ag 17 I (J ?_));refine zaa (J5 I I) ?_;exact close _ fd (h0 HH) _ _ (rcl fd _ (by rfl)) m2
  ·rw[aG q2]
   refine ap (ag 3 I (Je (aD I I I (J1 okL I (.tail _ (.head _)) I I I I (Ja (Qn_n ⟨I,I⟩))) (ap (ag 5 I (J2 ?_))))));cases q3:(most==0) with
   |true=>
    have HH:zez ⟨m,al,some e,x,fl,ss,row,most,false⟩ w.acc s.at_=false:=by rw[hst,bj,aG q2,q3];rfl
    refine ae0 (ag 7 I (J (ax (ag 1 I (J ?_)))));refine zaa (J5 I I) ?_;exact close _ fd (h0 HH) _ _ (rcl fd _ (by rfl)) m2
   |false=>
    have HH:zez ⟨m,al,some e,x,fl,ss,row,most,false⟩ w.acc s.at_=true:=by rw[hst,bj,aG q2,q3];rfl
    refine ae0 (ag 2 I (J (ax (ag 7 I (J3 ?_)))));refine J7 (J8 okL I I I (zab I) (zaB s) I I (.there .here) I I I ?_)
    refine ab (ag 8 I (J ?_));refine zaa (J5 I I) ?_;exact close _ s (h1 HH) _ _ (rcl s _ (by rfl)) m2
 |true=>
  subst hw0;refine ap (ag 5 I (Je (aD I I I (J1 okL I (.tail _ (.head _)) I I I I (Ja (Qn_n ⟨I,I⟩))) (ap (ag 5 I (Je ?_))))));rw[ak];cases q1:(s.at_==(ss.length:Int)) with
  |true=>
   have HH:zez ⟨m,al,some e,x,fl,ss,row,most,true⟩ w.acc s.at_=true:=by rw[hst,q1];rfl
   refine ap (ag 28 I (J3 ?_));refine J7 (J8 okL I I I (zab I) (zaB s) I I (.there .here) I I I ?_)
   refine ab (ag 8 I (J ?_));refine zaa (J5 I I) ?_;exact close _ s (h1 HH) _ _ (rcl s _ (by exact hwv)) m2
  |false=>
   refine ap (ag 3 I (Je (aD I I I (J1 okL I (.tail _ (.head _)) I I I I (Ja (Qn_n ⟨I,I⟩))) (ap (ag 3 I (Je (aD I I I (J1 okL I (.tail _ (.head _)) I I I I (Ja (Qn_n ⟨I,I⟩))) (ap (ag 2 I (Je ?_))))))))));rw[hwv];by_cases q2:(w.acc.length:Int)+1<most
   ·rw[aA q2]
    have HH:zez ⟨m,al,some e,x,fl,ss,row,most,true⟩ w.acc s.at_=false:=by rw[hst,q1,aZ,aA q2];rfl
    refine ap (ag 17 I (J ?_));refine zaa (J5 I I) ?_;exact close _ fd (h0 HH) _ _ (rcl fd _ (by rfl)) m2
   ·rw[aG q2]
    refine ap (ag 3 I (Je (aD I I I (J1 okL I (.tail _ (.head _)) I I I I (Ja (Qn_n ⟨I,I⟩))) (ap (ag 5 I (J2 ?_))))));cases q3:(most==0) with
    |true=>
     have HH:zez ⟨m,al,some e,x,fl,ss,row,most,true⟩ w.acc s.at_=false:=by rw[hst,q1,aZ,aG q2,q3];rfl
     refine ae0 (ag 7 I (J (ax (ag 1 I (J ?_)))));refine zaa (J5 I I) ?_;exact close _ fd (h0 HH) _ _ (rcl fd _ (by rfl)) m2
    |false=>
     have HH:zez ⟨m,al,some e,x,fl,ss,row,most,true⟩ w.acc s.at_=true:=by rw[hst,q1,aZ,aG q2,q3];rfl
     refine ae0 (ag 2 I (J (ax (ag 7 I (J3 ?_)))));refine J7 (J8 okL I I I (zab I) (zaB s) I I (.there .here) I I I ?_)
     refine ab (ag 8 I (J ?_));refine zaa (J5 I I) ?_;exact close _ s (h1 HH) _ _ (rcl s _ (by rfl)) m2
theorem zno{a kp:Int}{l:List (Int×Int)}{c:A}{n:Int}(hn:1≤n∧n≤9){ti:TI}(ht:lay L 3=some ti):zbw ti (stL a kp l c) (0+2+n.toNat*2+0)=some (i64 (zaI l n.toNat).1):=by
 cases ht;rcases nine hn with rfl|rfl|rfl|rfl|rfl|rfl|rfl|rfl|rfl<;>rfl
theorem zll{a kp:Int}{l:List (Int×Int)}{c:A}{n:Int}(hn:1≤n∧n≤9){ti:TI}(ht:lay L 98=some ti):zbw ti (stL a kp l c) (0+2+n.toNat*2)=some (.agg (zaf (zaI l n.toNat))):=by
 cases ht;rcases nine hn with rfl|rfl|rfl|rfl|rfl|rfl|rfl|rfl|rfl<;>rfl
section
variable(X:Rt)(a:RS)(hp:a.w.r≤1000000)(htd:a.td=false)(n mn mx:Int)(nm:List UInt8)(st:List (Int×Int))(s:Sg)(kb:Nat)(Hb:Heap)(R:A→Heap→Prop)
include hp htd
set_option maxHeartbeats 4000000 in
theorem rtry_c1(l:List Pat)(hW:Wd R)
  (ht:a.w.r+1>80000→R (i64 0) (Hr X (zai a)++Hb))
  (RC:Bool→Heap→Prop)
  (hc:¬a.w.r+1>80000→TrG [] Tryz.prog 172 [X.p,.agg (Pat.mk 1 n mn mx nm st l).C,i64 s.at_] (Hr X (zai a)) fun v H'=>∃t:Bool,v=.bool t∧RC t H')
  (h0:∀H',RC false H'→R (i64 0) (H'++Hb)) (h1:∀H',RC true H'→TrG [] Tryz.prog 173 [X.p,.ptr kb 34 0 0,.agg (stC {s with at_:=IntKind.i64.wrap (s.at_+1)})] (H'++Hb) R)
  :TrG [] Tryz.prog 124 [X.p,.agg (Pat.mk 1 n mn mx nm st l).C,.agg (stC s),.ptr kb 34 0 0] (Hr X a++Hb) R:=by
 refine Jb (N:=217) Tryz.func124 I I I ?_;refine ae0 (ag 2 I (O (Jc 5 I I (zab I) I (ab (J3 ?_)))));refine J7 (Jk I I (.inr ⟨_,I⟩) (zaB s) I fun r6 _=>?_)
 refine ab (ag 7 I (J3 ?_));refine J7 (Jn [_] Hb I I I I (za9 X a hp htd) fun v H' hv=>?_)
 obtain⟨rfl,rfl⟩:=hv;by_cases hq:a.w.r+1>80000
 ·rw[show(zai a).td=true from aA hq]
  refine ab (ag 11 I (J ?_));refine zaa (J5 I I) ?_;exact hW.add _ _ [_] (ht hq)
 rw[show(zai a).td=false from aG hq]
 refine ab (ag 31 I (O (J1 okL I (.head _) I I I I (ab (J3 ?_)))));refine J7 (Jn [_] Hb I I I I (hc hq) fun v H' hr=>?_)
 obtain⟨t,rfl,hr⟩:=hr;cases t with
 |false=>
  refine ab (ag 13 I (J ?_));refine zaa (J5 I I) ?_;exact hW.add _ _ [_] (h0 _ hr)
 |true=>
  refine ab (ag 8 I (O (J1 okL I (.head _) I I I I (ab (ag 2 I (O (J8 okL I I I (zab I) I I I .here I I I (ab (ag 7 I (O (J1 okL I (.head _) I I I I (ab (J3 ?_)))))))))))));refine J7 (Jd [_] I I I I (h1 _ hr) fun v H' hr=>?_)
  refine ab (ag 4 I (J ?_));refine zaa (J5 I I) ?_;exact hW.add _ _ [_] hr
set_option maxHeartbeats 4000000 in
theorem rtry_c2(l:List Pat)(hW:Wd R)
  (ht:a.w.r+1>80000→R (i64 0) (Hr X (zai a)++Hb))
  (RC:Bool→Heap→Prop)
  (hc:¬a.w.r+1>80000→TrG [] Tryz.prog 172 [X.p,.agg (Pat.mk 2 n mn mx nm st l).C,i64 s.at_] (Hr X (zai a)) fun v H'=>∃t:Bool,v=.bool t∧RC t H')
  (h0:∀H',RC false H'→R (i64 0) (H'++Hb)) (h1:∀H',RC true H'→TrG [] Tryz.prog 173 [X.p,.ptr kb 34 0 0,.agg (stC {s with at_:=IntKind.i64.wrap (s.at_+1)})] (H'++Hb) R)
  :TrG [] Tryz.prog 124 [X.p,.agg (Pat.mk 2 n mn mx nm st l).C,.agg (stC s),.ptr kb 34 0 0] (Hr X a++Hb) R:=by
 refine Jb (N:=217) Tryz.func124 I I I ?_;refine ae0 (ag 2 I (O (Jc 5 I I (zab I) I (ab (J3 ?_)))));refine J7 (Jk I I (.inr ⟨_,I⟩) (zaB s) I fun r6 _=>?_)
 refine ab (ag 7 I (J3 ?_));refine J7 (Jn [_] Hb I I I I (za9 X a hp htd) fun v H' hv=>?_)
 obtain⟨rfl,rfl⟩:=hv;by_cases hq:a.w.r+1>80000
 ·rw[show(zai a).td=true from aA hq]
  refine ab (ag 11 I (J ?_));refine zaa (J5 I I) ?_;exact hW.add _ _ [_] (ht hq)
 rw[show(zai a).td=false from aG hq]
 refine ab (ag 38 I (O (J1 okL I (.head _) I I I I (ab (J3 ?_)))));refine J7 (Jn [_] Hb I I I I (hc hq) fun v H' hr=>?_)
 obtain⟨t,rfl,hr⟩:=hr;cases t with
 |false=>
  refine ab (ag 13 I (J ?_));refine zaa (J5 I I) ?_;exact hW.add _ _ [_] (h0 _ hr)
 |true=>
  refine ab (ag 8 I (O (J1 okL I (.head _) I I I I (ab (ag 2 I (O (J8 okL I I I (zab I) I I I .here I I I (ab (ag 7 I (O (J1 okL I (.head _) I I I I (ab (J3 ?_)))))))))))));refine J7 (Jd [_] I I I I (h1 _ hr) fun v H' hr=>?_)
  refine ab (ag 4 I (J ?_));refine zaa (J5 I I) ?_;exact hW.add _ _ [_] hr
set_option maxHeartbeats 4000000 in
theorem rtry_c3(l:List Pat)(hW:Wd R)
  (ht:a.w.r+1>80000→R (i64 0) (Hr X (zai a)++Hb))
  (RC:Bool→Heap→Prop)
  (hc:¬a.w.r+1>80000→TrG [] Tryz.prog 172 [X.p,.agg (Pat.mk 3 n mn mx nm st l).C,i64 s.at_] (Hr X (zai a)) fun v H'=>∃t:Bool,v=.bool t∧RC t H')
  (h0:∀H',RC false H'→R (i64 0) (H'++Hb)) (h1:∀H',RC true H'→TrG [] Tryz.prog 173 [X.p,.ptr kb 34 0 0,.agg (stC {s with at_:=IntKind.i64.wrap (s.at_+1)})] (H'++Hb) R)
  :TrG [] Tryz.prog 124 [X.p,.agg (Pat.mk 3 n mn mx nm st l).C,.agg (stC s),.ptr kb 34 0 0] (Hr X a++Hb) R:=by
 refine Jb (N:=217) Tryz.func124 I I I ?_;refine ae0 (ag 2 I (O (Jc 5 I I (zab I) I (ab (J3 ?_)))));refine J7 (Jk I I (.inr ⟨_,I⟩) (zaB s) I fun r6 _=>?_)
 refine ab (ag 7 I (J3 ?_));refine J7 (Jn [_] Hb I I I I (za9 X a hp htd) fun v H' hv=>?_)
 obtain⟨rfl,rfl⟩:=hv;by_cases hq:a.w.r+1>80000
 ·rw[show(zai a).td=true from aA hq]
  refine ab (ag 11 I (J ?_));refine zaa (J5 I I) ?_;exact hW.add _ _ [_] (ht hq)
 rw[show(zai a).td=false from aG hq]
 refine ab (ag 41 I (O (J1 okL I (.head _) I I I I (ab (J3 ?_)))));refine J7 (Jn [_] Hb I I I I (hc hq) fun v H' hr=>?_)
 obtain⟨t,rfl,hr⟩:=hr;cases t with
 |false=>
  refine ab (ag 13 I (J ?_));refine zaa (J5 I I) ?_;exact hW.add _ _ [_] (h0 _ hr)
 |true=>
  refine ab (ag 8 I (O (J1 okL I (.head _) I I I I (ab (ag 2 I (O (J8 okL I I I (zab I) I I I .here I I I (ab (ag 7 I (O (J1 okL I (.head _) I I I I (ab (J3 ?_)))))))))))));refine J7 (Jd [_] I I I I (h1 _ hr) fun v H' hr=>?_)
  refine ab (ag 4 I (J ?_));refine zaa (J5 I I) ?_;exact hW.add _ _ [_] hr
set_option maxHeartbeats 4000000 in
theorem rtry_h11(l:List Pat)
  (ht:a.w.r+1>80000→R (i64 0) (Hr X (zai a)++Hb))
  (RC:Bool→Heap→Prop)
  (hc:¬a.w.r+1>80000→TrG [] Tryz.prog 178 [X.p,.agg (Pat.mk 11 n mn mx nm st l).C,i64 s.at_] (Hr X (zai a)) fun v H'=>∃t:Bool,v=.bool t∧RC t H')
  (h0:∀H',RC false H'→R (i64 0) (H'++Hb)) (h1:∀H',RC true H'→TrG [] Tryz.prog 173 [X.p,.ptr kb 34 0 0,.agg (stC s)] (H'++Hb) R)
  :TrG [] Tryz.prog 124 [X.p,.agg (Pat.mk 11 n mn mx nm st l).C,.agg (stC s),.ptr kb 34 0 0] (Hr X a++Hb) R:=by
 refine Jb (N:=217) Tryz.func124 I I I ?_;refine ae0 (ag 2 I (O (Jc 5 I I (zab I) I (ab (O (Jc 6 I I (zab I) I (ab (ag 7 I (J3 ?_)))))))));refine J7 (Jn [] Hb I I I I (za9 X a hp htd) fun v H' hv=>?_)
 obtain⟨rfl,rfl⟩:=hv;by_cases hq:a.w.r+1>80000
 ·rw[show(zai a).td=true from aA hq]
  refine ab (ag 11 I (J ?_));refine zaa (J5 I I) ?_;exact ht hq
 rw[show(zai a).td=false from aG hq]
 refine ab (ag 101 I (J3 ?_));refine J7 (Jn [] Hb I I I I (hc hq) fun v H' hr=>?_)
 obtain⟨t,rfl,hr⟩:=hr;cases t with
 |false=>
  refine ab (ag 12 I (J ?_));refine zaa (J5 I I) ?_;exact(h0 _ hr)
 |true=>
  refine ab (ag 12 I (J3 ?_));refine J7 (Jd [] I I I I (h1 _ hr) fun v H' hr=>?_)
  refine ab (ag 4 I (J ?_));refine zaa (J5 I I) ?_;exact hr
set_option maxHeartbeats 4000000 in
theorem rtry_h12(l:List Pat)
  (ht:a.w.r+1>80000→R (i64 0) (Hr X (zai a)++Hb))
  (RC:Bool→Heap→Prop)
  (hc:¬a.w.r+1>80000→TrG [] Tryz.prog 178 [X.p,.agg (Pat.mk 12 n mn mx nm st l).C,i64 s.at_] (Hr X (zai a)) fun v H'=>∃t:Bool,v=.bool t∧RC t H')
  (h0:∀H',RC false H'→R (i64 0) (H'++Hb)) (h1:∀H',RC true H'→TrG [] Tryz.prog 173 [X.p,.ptr kb 34 0 0,.agg (stC s)] (H'++Hb) R)
  :TrG [] Tryz.prog 124 [X.p,.agg (Pat.mk 12 n mn mx nm st l).C,.agg (stC s),.ptr kb 34 0 0] (Hr X a++Hb) R:=by
 refine Jb (N:=217) Tryz.func124 I I I ?_;refine ae0 (ag 2 I (O (Jc 5 I I (zab I) I (ab (O (Jc 6 I I (zab I) I (ab (ag 7 I (J3 ?_)))))))));refine J7 (Jn [] Hb I I I I (za9 X a hp htd) fun v H' hv=>?_)
 obtain⟨rfl,rfl⟩:=hv;by_cases hq:a.w.r+1>80000
 ·rw[show(zai a).td=true from aA hq]
  refine ab (ag 11 I (J ?_));refine zaa (J5 I I) ?_;exact ht hq
 rw[show(zai a).td=false from aG hq]
 refine ab (ag 108 I (J3 ?_));refine J7 (Jn [] Hb I I I I (hc hq) fun v H' hr=>?_)
 obtain⟨t,rfl,hr⟩:=hr;cases t with
 |false=>
  refine ab (ag 12 I (J ?_));refine zaa (J5 I I) ?_;exact(h0 _ hr)
 |true=>
  refine ab (ag 12 I (J3 ?_));refine J7 (Jd [] I I I I (h1 _ hr) fun v H' hr=>?_)
  refine ab (ag 4 I (J ?_));refine zaa (J5 I I) ?_;exact hr
set_option maxHeartbeats 4000000 in
theorem rtry_h13(l:List Pat)
  (ht:a.w.r+1>80000→R (i64 0) (Hr X (zai a)++Hb))
  (RC:Bool→Heap→Prop)
  (hc:¬a.w.r+1>80000→TrG [] Tryz.prog 178 [X.p,.agg (Pat.mk 13 n mn mx nm st l).C,i64 s.at_] (Hr X (zai a)) fun v H'=>∃t:Bool,v=.bool t∧RC t H')
  (h0:∀H',RC false H'→R (i64 0) (H'++Hb)) (h1:∀H',RC true H'→TrG [] Tryz.prog 173 [X.p,.ptr kb 34 0 0,.agg (stC s)] (H'++Hb) R)
  :TrG [] Tryz.prog 124 [X.p,.agg (Pat.mk 13 n mn mx nm st l).C,.agg (stC s),.ptr kb 34 0 0] (Hr X a++Hb) R:=by
 refine Jb (N:=217) Tryz.func124 I I I ?_;refine ae0 (ag 2 I (O (Jc 5 I I (zab I) I (ab (O (Jc 6 I I (zab I) I (ab (ag 7 I (J3 ?_)))))))));refine J7 (Jn [] Hb I I I I (za9 X a hp htd) fun v H' hv=>?_)
 obtain⟨rfl,rfl⟩:=hv;by_cases hq:a.w.r+1>80000
 ·rw[show(zai a).td=true from aA hq]
  refine ab (ag 11 I (J ?_));refine zaa (J5 I I) ?_;exact ht hq
 rw[show(zai a).td=false from aG hq]
 refine ab (ag 111 I (J3 ?_));refine J7 (Jn [] Hb I I I I (hc hq) fun v H' hr=>?_)
 obtain⟨t,rfl,hr⟩:=hr;cases t with
 |false=>
  refine ab (ag 12 I (J ?_));refine zaa (J5 I I) ?_;exact(h0 _ hr)
 |true=>
  refine ab (ag 12 I (J3 ?_));refine J7 (Jd [] I I I I (h1 _ hr) fun v H' hr=>?_)
  refine ab (ag 4 I (J ?_));refine zaa (J5 I I) ?_;exact hr
set_option maxHeartbeats 4000000 in
theorem rtry_empty(l:List Pat)
  (ht:a.w.r+1>80000→R (i64 0) (Hr X (zai a)++Hb))
  (h1:¬a.w.r+1>80000→TrG [] Tryz.prog 173 [X.p,.ptr kb 34 0 0,.agg (stC s)] (Hr X (zai a)++Hb) R)
  :TrG [] Tryz.prog 124 [X.p,.agg (Pat.mk 0 n mn mx nm st l).C,.agg (stC s),.ptr kb 34 0 0] (Hr X a++Hb) R:=by
 refine Jb (N:=217) Tryz.func124 I I I ?_;refine ae0 (ag 2 I (O (Jc 5 I I (zab I) I (ab (O (Jc 6 I I (zab I) I (ab (ag 7 I (J3 ?_)))))))));refine J7 (Jn [] Hb I I I I (za9 X a hp htd) fun v H' hv=>?_)
 obtain⟨rfl,rfl⟩:=hv;by_cases hq:a.w.r+1>80000
 ·rw[show(zai a).td=true from aA hq]
  refine ab (ag 11 I (J ?_));refine zaa (J5 I I) ?_;exact ht hq
 rw[show(zai a).td=false from aG hq]
 refine ab (ag 148 I (J3 ?_));refine J7 (Jd [] I I I I (h1 hq) fun v H' hr=>?_)
 refine ab (ag 4 I (J ?_));refine zaa (J5 I I) ?_;exact hr
set_option maxHeartbeats 4000000 in
theorem rtry_keep(l:List Pat)(hW:Wd R)
  (ht:a.w.r+1>80000→R (i64 0) (Hr X (zai a)++Hb))
  (h1:¬a.w.r+1>80000→TrG [] Tryz.prog 173 [X.p,.ptr kb 34 0 0,.agg (stC {s with keep:=s.at_})] (Hr X (zai a)++Hb) R)
  :TrG [] Tryz.prog 124 [X.p,.agg (Pat.mk 18 n mn mx nm st l).C,.agg (stC s),.ptr kb 34 0 0] (Hr X a++Hb) R:=by
 refine Jb (N:=217) Tryz.func124 I I I ?_;refine ae0 (ag 2 I (O (Jc 5 I I (zab I) I (ab (J3 ?_)))));refine J7 (Jk I I (.inr ⟨_,I⟩) (zaB s) I fun r6 _=>?_)
 refine ab (ag 7 I (J3 ?_));refine J7 (Jn [_] Hb I I I I (za9 X a hp htd) fun v H' hv=>?_)
 obtain⟨rfl,rfl⟩:=hv;by_cases hq:a.w.r+1>80000
 ·rw[show(zai a).td=true from aA hq]
  refine ab (ag 11 I (J ?_));refine zaa (J5 I I) ?_;exact hW.add _ _ [_] (ht hq)
 rw[show(zai a).td=false from aG hq]
 refine ab (ag 142 I (O (J1 okL I (.head _) I I I I (ab (ag 1 I (O (J8 okL I I I (zab I) I I I .here I I I (ab (ag 7 I (O (J1 okL I (.head _) I I I I (ab (J3 ?_)))))))))))));refine J7 (Jd [_] I I I I (h1 hq) fun v H' hr=>?_)
 refine ab (ag 4 I (J ?_));refine zaa (J5 I I) ?_;exact hW.add _ _ [_] hr
set_option maxHeartbeats 4000000 in
theorem rtry_cat(l:List Pat)
  (ht:a.w.r+1>80000→R (i64 0) (Hr X (zai a)++Hb))
  (h1:¬a.w.r+1>80000→∀b,TrG [] Tryz.prog 173 [X.p,.ptr b 34 0 0,.agg (stC s)] ((b,.row 171 34 [fmC 1 (Pat.mk 4 n mn mx nm st l).C 0 0 zSt (.ptr kb 34 0 0)])::(Hr X (zai a)++Hb)) R)
  :TrG [] Tryz.prog 124 [X.p,.agg (Pat.mk 4 n mn mx nm st l).C,.agg (stC s),.ptr kb 34 0 0] (Hr X a++Hb) R:=by
 refine Jb (N:=217) Tryz.func124 I I I ?_;refine ae0 (ag 2 I (O (Jc 5 I I (zab I) I (ab (O (Jc 6 I I (zab I) I (ab (ag 7 I (J3 ?_)))))))));refine J7 (Jn [] Hb I I I I (za9 X a hp htd) fun v H' hv=>?_)
 obtain⟨rfl,rfl⟩:=hv;by_cases hq:a.w.r+1>80000
 ·rw[show(zai a).td=true from aA hq]
  refine ab (ag 11 I (J ?_));refine zaa (J5 I I) ?_;exact ht hq
 rw[show(zai a).td=false from aG hq]
 refine ab (ag 48 I (O (Jk I I (zab I) I I (fun _ _=>(ab (ag 1 I (J3 ?_)))))));rename_i b _;refine J7 (Ji I I I (h1 hq b) fun v H' hr=>?_)
 refine ab (ag 6 I (J ?_));refine zaa (J5 I I) ?_;exact hr
set_option maxHeartbeats 4000000 in
theorem rtry_rep(l:List Pat)
  (ht:a.w.r+1>80000→R (i64 0) (Hr X (zai a)++Hb))
  (hn:n≠2)
  (h1:¬a.w.r+1>80000→TrG [] Tryz.prog 175 [X.p,.agg (Pat.mk 6 n mn mx nm st l).C,i64 0,.agg (stC s),.ptr kb 34 0 0] (Hr X (zai a)++Hb) R)
  :TrG [] Tryz.prog 124 [X.p,.agg (Pat.mk 6 n mn mx nm st l).C,.agg (stC s),.ptr kb 34 0 0] (Hr X a++Hb) R:=by
 refine Jb (N:=217) Tryz.func124 I I I ?_;refine ae0 (ag 2 I (O (Jc 5 I I (zab I) I (ab (O (Jc 6 I I (zab I) I (ab (ag 7 I (J3 ?_)))))))));refine J7 (Jn [] Hb I I I I (za9 X a hp htd) fun v H' hv=>?_)
 obtain⟨rfl,rfl⟩:=hv;by_cases hq:a.w.r+1>80000
 ·rw[show(zai a).td=true from aA hq]
  refine ab (ag 11 I (J ?_));refine zaa (J5 I I) ?_;exact ht hq
 rw[show(zai a).td=false from aG hq]
 have hn2:(n==2)=false:=by simpa using hn
 refine ab (ag 64 I (J2 ?_));rw[show((Pat.mk 6 n mn mx nm st l).n==2)=false from hn2]
 refine ae (ag 9 I (J3 ?_));refine J7 (Jd [] I I I I (h1 hq) fun v H' hr=>?_)
 refine ab (ag 6 I (J ?_));refine zaa (J5 I I) ?_;exact hr
set_option maxHeartbeats 4000000 in
theorem rtry_poss(l:List Pat)(hW:Wd R)
  (ht:a.w.r+1>80000→R (i64 0) (Hr X (zai a)++Hb))
  (h1:¬a.w.r+1>80000→TrG [] Tryz.prog 174 [X.p,.agg (Pat.mk 6 0 mn mx nm st l).C,.agg (stC s),.ptr kb 34 0 0] (Hr X (zai a)++Hb) R)
  :TrG [] Tryz.prog 124 [X.p,.agg (Pat.mk 6 2 mn mx nm st l).C,.agg (stC s),.ptr kb 34 0 0] (Hr X a++Hb) R:=by
 refine Jb (N:=217) Tryz.func124 I I I ?_;refine ae0 (ag 2 I (O (Jk I I (zab I) I I (fun _ _=>(ab (J3 ?_))))));rename_i r5 _;refine J7 (Jk I I (.inr ⟨_,I⟩) (zaB s) I fun r6 _=>?_)
 refine ab (ag 7 I (J3 ?_));refine J7 (Jn [_,_] Hb I I I I (za9 X a hp htd) fun v H' hv=>?_)
 obtain⟨rfl,rfl⟩:=hv;by_cases hq:a.w.r+1>80000
 ·rw[show(zai a).td=true from aA hq]
  refine ab (ag 11 I (J ?_));refine zaa (J5 I I) ?_;exact hW.add _ _ [_,_] (ht hq)
 rw[show(zai a).td=false from aG hq]
 refine ab (ag 10 I (O (J1 okL I (.tail _ (.head _)) I I I I (ab (ag 49 I (O (J1 okL I (.tail _ (.head _)) I I I I (ab (ag 7 I (O (J8 okL I I I (zab I) I I I (.there .here) I I I (ab (ag 5 I (O (J1 okL I (.tail _ (.head _)) I I I I (ab (O (J1 okL I (.head _) I I I I (ab (ag 1 I (J3 ?_)))))))))))))))))))));refine J7 (Jd [_,_] I I I I (h1 hq) fun v H' hr=>?_)
 refine ab (ag 7 I (J ?_));refine zaa (J5 I I) ?_;exact hW.add _ _ [_,_] hr
set_option maxHeartbeats 4000000 in
theorem rtry_look(l:List Pat)
  (ht:a.w.r+1>80000→R (i64 0) (Hr X (zai a)++Hb))
  (h1:¬a.w.r+1>80000→TrG [] Tryz.prog 176 [X.p,.agg (Pat.mk 9 n mn mx nm st l).C,.agg (stC s),.ptr kb 34 0 0] (Hr X (zai a)++Hb) R)
  :TrG [] Tryz.prog 124 [X.p,.agg (Pat.mk 9 n mn mx nm st l).C,.agg (stC s),.ptr kb 34 0 0] (Hr X a++Hb) R:=by
 refine Jb (N:=217) Tryz.func124 I I I ?_;refine ae0 (ag 2 I (O (Jc 5 I I (zab I) I (ab (O (Jc 6 I I (zab I) I (ab (ag 7 I (J3 ?_)))))))));refine J7 (Jn [] Hb I I I I (za9 X a hp htd) fun v H' hv=>?_)
 obtain⟨rfl,rfl⟩:=hv;by_cases hq:a.w.r+1>80000
 ·rw[show(zai a).td=true from aA hq]
  refine ab (ag 11 I (J ?_));refine zaa (J5 I I) ?_;exact ht hq
 rw[show(zai a).td=false from aG hq]
 refine ab (ag 83 I (J3 ?_));refine J7 (Jd [] I I I I (h1 hq) fun v H' hr=>?_)
 refine ab (ag 6 I (J ?_));refine zaa (J5 I I) ?_;exact hr
set_option maxHeartbeats 4000000 in
theorem rtry_call(l:List Pat)
  (ht:a.w.r+1>80000→R (i64 0) (Hr X (zai a)++Hb))
  (h1:¬a.w.r+1>80000→TrG [] Tryz.prog 179 [X.p,.agg (Pat.mk 14 n mn mx nm st l).C,.agg (stC s),.ptr kb 34 0 0] (Hr X (zai a)++Hb) R)
  :TrG [] Tryz.prog 124 [X.p,.agg (Pat.mk 14 n mn mx nm st l).C,.agg (stC s),.ptr kb 34 0 0] (Hr X a++Hb) R:=by
 refine Jb (N:=217) Tryz.func124 I I I ?_;refine ae0 (ag 2 I (O (Jc 5 I I (zab I) I (ab (O (Jc 6 I I (zab I) I (ab (ag 7 I (J3 ?_)))))))));refine J7 (Jn [] Hb I I I I (za9 X a hp htd) fun v H' hv=>?_)
 obtain⟨rfl,rfl⟩:=hv;by_cases hq:a.w.r+1>80000
 ·rw[show(zai a).td=true from aA hq]
  refine ab (ag 11 I (J ?_));refine zaa (J5 I I) ?_;exact ht hq
 rw[show(zai a).td=false from aG hq]
 refine ab (ag 118 I (J3 ?_));refine J7 (Jd [] I I I I (h1 hq) fun v H' hr=>?_)
 refine ab (ag 6 I (J ?_));refine zaa (J5 I I) ?_;exact hr
set_option maxHeartbeats 4000000 in
theorem rtry_verb(l:List Pat)
  (ht:a.w.r+1>80000→R (i64 0) (Hr X (zai a)++Hb))
  (h1:¬a.w.r+1>80000→TrG [] Tryz.prog 180 [X.p,.agg (Pat.mk 16 n mn mx nm st l).C,.agg (stC s),.ptr kb 34 0 0] (Hr X (zai a)++Hb) R)
  :TrG [] Tryz.prog 124 [X.p,.agg (Pat.mk 16 n mn mx nm st l).C,.agg (stC s),.ptr kb 34 0 0] (Hr X a++Hb) R:=by
 refine Jb (N:=217) Tryz.func124 I I I ?_;refine ae0 (ag 2 I (O (Jc 5 I I (zab I) I (ab (O (Jc 6 I I (zab I) I (ab (ag 7 I (J3 ?_)))))))));refine J7 (Jn [] Hb I I I I (za9 X a hp htd) fun v H' hv=>?_)
 obtain⟨rfl,rfl⟩:=hv;by_cases hq:a.w.r+1>80000
 ·rw[show(zai a).td=true from aA hq]
  refine ab (ag 11 I (J ?_));refine zaa (J5 I I) ?_;exact ht hq
 rw[show(zai a).td=false from aG hq]
 refine ab (ag 132 I (J3 ?_));refine J7 (Jd [] I I I I (h1 hq) fun v H' hr=>?_)
 refine ab (ag 6 I (J ?_));refine zaa (J5 I I) ?_;exact hr
set_option maxHeartbeats 4000000 in
theorem rtry_group(y:Pat)
  (ht:a.w.r+1>80000→R (i64 0) (Hr X (zai a)++Hb))
  (hR:∃v H',R v H')
  (h1:¬a.w.r+1>80000→∀b,TrG [] Tryz.prog 124 [X.p,.agg y.C,.agg (stC s),.ptr b 34 0 0] ((b,.row 171 34 [fmC 3 zP n s.at_ zSt (.ptr kb 34 0 0)])::(Hr X (zai a)++Hb)) R)
  :TrG [] Tryz.prog 124 [X.p,.agg (Pat.mk 7 n mn mx nm st [y]).C,.agg (stC s),.ptr kb 34 0 0] (Hr X a++Hb) R:=by
 refine Jb (N:=217) Tryz.func124 I I I ?_;have hd:([y].map Pat.cells)[((0:Nat):Int).toNat]?=some y.C:=by simp[Pat.cells_eq]
 refine ae0 (ag 2 I (O (Jc 5 I I (zab I) I (ab (O (Jc 6 I I (zab I) I (ab (ag 7 I (J3 ?_)))))))));refine J7 (Jn [] Hb I I I I (za9 X a hp htd) fun v H' hv=>?_)
 obtain⟨rfl,rfl⟩:=hv;by_cases hq:a.w.r+1>80000
 ·rw[show(zai a).td=true from aA hq]
  refine ab (ag 11 I (J ?_));refine zaa (J5 I I) ?_;exact ht hq
 rw[show(zai a).td=false from aG hq]
 refine ab (ag 64 I (J2 ?_));refine aH zop (fun _=>.nilp) okL hmix (by kernel_rfl) ?_;refine aa I I I (aa I I I (aa I I I (aa I I (zad I I I I I (am _) (hd) I) (aa I I I (aa I I I (aa I I I (aa I I I (aa I I I (aa I I I (aa I I I (aa I I I ?_)))))))))));refine bK (R:=fun v F=>∃b,v=.ptr b 34 0 0∧F=[(b,.row 171 34 [fmC 3 zP n s.at_ zSt (.ptr kb 34 0 0)])]) I I I ⟨_,_,0,I,I⟩ (Jk I I (.inr ⟨_,I⟩) I I fun b _=>Ja (ah ⟨_,⟨b,I,I⟩,I⟩)) ?_;rintro v F ⟨b,rfl,rfl⟩;refine aR (R:=R) I I I hR (Ji I I I (h1 hq b) fun v H' hr=>Ja (ah hr)) fun v H' hv=>?_
 (repeat (refine aa I I I ?_))
 refine aF ?_;refine ae (ag 3 I (J ?_));refine zaa (J5 I I) ?_;exact hv
set_option maxHeartbeats 4000000 in
theorem rtry_atomic(y:Pat)
  (ht:a.w.r+1>80000→R (i64 0) (Hr X (zai a)++Hb))
  (hR:∃v H',R v H')
  (h1:¬a.w.r+1>80000→TrG [] Tryz.prog 174 [X.p,.agg y.C,.agg (stC s),.ptr kb 34 0 0] (Hr X (zai a)++Hb) R)
  :TrG [] Tryz.prog 124 [X.p,.agg (Pat.mk 8 n mn mx nm st [y]).C,.agg (stC s),.ptr kb 34 0 0] (Hr X a++Hb) R:=by
 refine Jb (N:=217) Tryz.func124 I I I ?_;have hd:([y].map Pat.cells)[((0:Nat):Int).toNat]?=some y.C:=by simp[Pat.cells_eq]
 refine ae0 (ag 2 I (O (Jc 5 I I (zab I) I (ab (O (Jc 6 I I (zab I) I (ab (ag 7 I (J3 ?_)))))))));refine J7 (Jn [] Hb I I I I (za9 X a hp htd) fun v H' hv=>?_)
 obtain⟨rfl,rfl⟩:=hv;by_cases hq:a.w.r+1>80000
 ·rw[show(zai a).td=true from aA hq]
  refine ab (ag 11 I (J ?_));refine zaa (J5 I I) ?_;exact ht hq
 rw[show(zai a).td=false from aG hq]
 refine ab (ag 71 I (J2 ?_));refine aH zop (fun _=>.nilp) okL hmix (by kernel_rfl) ?_;refine aa I I I (aa I I I (aa I I I (aa I I (zad I I I I I (am _) (hd) I) (aa I I I (aa I I I (aa I I I ?_))))));refine aR (R:=R) I I I hR (Ji I I I (h1 hq) fun v H' hr=>Ja (ah hr)) fun v H' hv=>?_
 (repeat (refine aa I I I ?_))
 refine aF ?_;refine ae (ag 3 I (J ?_));refine zaa (J5 I I) ?_;exact hv
end
section
variable(X:Rt)(a:RS)(hp:a.w.r≤1000000)(htd:a.td=false)(n mn mx:Int)(nm:List UInt8)(st:List (Int×Int))(s:Sg)(kb:Nat)(Hb:Heap)(R:A→Heap→Prop)
include hp htd
set_option maxHeartbeats 4000000 in
theorem rtry_alts(l:List Pat)(hl:l.length≤60)
  (ht:a.w.r+1>80000→R (i64 0) (Hr X (zai a)++Hb))
  (RA:Nat→Heap→Prop)
  (hs:¬a.w.r+1>80000→RA 0 (Hr X (zai a)++Hb))
  (hn:∀i y H,l[i]?=some y→RA i H→∃R1:Int→RS→Heap→Prop,(∃v H',MidA X R1 v H')∧TrG [] Tryz.prog 124 [X.p,.agg y.C,.agg (stC s),.ptr kb 34 0 0] H (MidA X R1)∧∀m a1 H1,R1 m a1 H1→(∀H',H'.Perm (Hr X a1++H1)→(m≠0∨a1.td=true)→R (i64 m) H')∧(m=0→a1.td=false→RA (i+1) (Hr X a1++H1)))
  (he:∀H,RA l.length H→R (i64 0) H)
  :TrG [] Tryz.prog 124 [X.p,.agg (Pat.mk 5 n mn mx nm st l).C,.agg (stC s),.ptr kb 34 0 0] (Hr X a++Hb) R:=by
 refine Jb (N:=217) Tryz.func124 I I I ?_;refine ae0 (ag 2 I (O (Jc 5 I I (zab I) I (ab (O (Jc 6 I I (zab I) I (ab (ag 7 I (J3 ?_)))))))));refine J7 (Jn [] Hb I I I I (za9 X a hp htd) fun v H' hv=>?_)
 obtain⟨rfl,rfl⟩:=hv;by_cases hq:a.w.r+1>80000
 ·rw[show(zai a).td=true from aA hq]
  refine ab (ag 11 I (J ?_));refine zaa (J5 I I) ?_;exact ht hq
 rw[show(zai a).td=false from aG hq]
 refine ab (ag 56 I (J2 ?_));refine Jj (α:=Nat×Heap) (fun k=>l.length - k.1) (fun k=>[(0,X.p),(3,.ptr kb 34 0 0),(5,.dp (Pat.mk 5 n mn mx nm st l).C),(6,.dp (stC s)),(9,i64 k.1)]) (fun k=>k.2)
  (fun k=>k.1≤l.length∧RA k.1 k.2) (0,Hr X (zai a)++Hb) ⟨aM _,hs hq⟩ ?_ (ar _) ?_
 ·simp only[zaz]
  refine⟨I,I,I,I,I,trivial⟩
 rintro⟨k,Hk⟩ ⟨hk,hm⟩ ih;simp only at hk hm;refine ae0 (ag 10 I (J2 ?_));rw[show(Pat.mk 5 n mn mx nm st l).l=l from rfl,ak]
 (refine J4 I (fun h=>?_) (fun h=>?_))
 ·have h:=aj h
  obtain⟨y,hy⟩:∃y,l[k]?=some y:=⟨l[k],by simp[show k<l.length by omega]⟩
  have nx:=nxt (k:=k) (n:=l.length) (by omega) (by unfold maxLen;omega);refine ae (ag 5 I (J2 ?_));refine aH zop (fun _=>.nilp) okL hmix (by kernel_rfl) ?_;refine aa I I I (aa I I I (aa I I I (aa I I I (aa I I (zad I I I I I (by omega) (getC hy) I) (aa I I I (aa I I I (aa I I I ?_)))))));obtain⟨R1,hR1,hT,hK⟩:=hn k y Hk hy hm;refine aR (R:=MidA X R1) I I I hR1 (Ji I I I hT fun v H' hr=>Ja (ah hr)) fun v H' hv=>?_
  (repeat (refine aa I I I ?_))
  refine aF ?_;obtain⟨m,⟨aw,atd,acg,abar,afd,afr,aae⟩,H1,rfl,hr1,hpm⟩:=hv;obtain⟨k1,k2⟩:=hK _ _ _ hr1;by_cases g1:m=0
  ·subst g1
   refine ae (ag 8 I (J3 ?_));refine Jl hpm ?_;rw[zaZ,az];cases atd with
   |true=>
    refine ab (Jg I I I (J1 okL I (.head _) I I I I (ab (ag 13 I (J (ax (ag 4 I (J ?_))))))));refine zaa (J5 I I) ?_;exact k1 _ (.refl _) (.inr I)
   |false=>
    refine ab (Jg I I I (J1 okL I (.head _) I I I I (ab (ag 12 I (J (zae ?_))))))
    (refine aq 0 (ih ((k+1,Hr X ⟨aw,false,acg,abar,afd,afr,aae⟩++H1)) (⟨by simp only;omega,k2 I I⟩) (by omega)) ?_ I;exact⟨I,I,I,I,ai some nx,trivial⟩)
  ·have g2:(m !=0)=true:=by simpa using g1
   refine ae (ag 5 I (J3 ?_));rw[g2];refine ab (ag 17 I (J (ax (ag 4 I (J ?_)))));refine zaa (J5 I I) ?_;exact k1 _ hpm (.inl g1)
 ·have h:=ao h
  have hkk:k=l.length:=by omega
  subst hkk;refine ae (ag 2 I (J (ae (ag 8 I (J ?_)))));refine zaa (J5 I I) ?_;exact he _ hm
set_option maxHeartbeats 4000000 in
theorem rtry_back(l:List Pat)(hW:Wd R)
  (ht:a.w.r+1>80000→R (i64 0) (Hr X (zai a)++Hb))
  (RC:Int→Heap→Prop)
  (hc:¬a.w.r+1>80000→TrG [] Tryz.prog 177 [X.p,.agg (stC s),i64 n] (Hr X (zai a)) fun v H'=>∃m,v=i64 m∧RC m H')
  (h0:∀m H',m<0→RC m H'→R (i64 0) (H'++Hb)) (h1:∀m H',¬m<0→RC m H'→TrG [] Tryz.prog 173 [X.p,.ptr kb 34 0 0,.agg (stC {s with at_:=IntKind.i64.wrap (s.at_+m)})] (H'++Hb) R)
  :TrG [] Tryz.prog 124 [X.p,.agg (Pat.mk 10 n mn mx nm st l).C,.agg (stC s),.ptr kb 34 0 0] (Hr X a++Hb) R:=by
 refine Jb (N:=217) Tryz.func124 I I I ?_;refine ae0 (ag 2 I (O (Jc 5 I I (zab I) I (ab (J3 ?_)))));refine J7 (Jk I I (.inr ⟨_,I⟩) (zaB s) I fun r6 _=>?_)
 refine ab (ag 7 I (J3 ?_));refine J7 (Jn [_] Hb I I I I (za9 X a hp htd) fun v H' hv=>?_)
 obtain⟨rfl,rfl⟩:=hv;by_cases hq:a.w.r+1>80000
 ·rw[show(zai a).td=true from aA hq]
  refine ab (ag 11 I (J ?_));refine zaa (J5 I I) ?_;exact hW.add _ _ [_] (ht hq)
 rw[show(zai a).td=false from aG hq]
 refine ab (ag 87 I (O (J1 okL I (.head _) I I I I (ab (ag 2 I (J3 ?_))))));refine J7 (Jn [_] Hb I I I I (hc hq) fun v H' hr=>?_)
 obtain⟨m,rfl,hr⟩:=hr;refine ab (ag 10 I (J2 ?_))
 (refine J4 I (fun g=>?_) (fun g=>?_))
 ·have g:m<0:=aj g
  refine ae (ag 9 I (J ?_));refine zaa (J5 I I) ?_;exact hW.add _ _ [_] (h0 m _ g hr)
 ·have g:¬m<0:=ao g
  refine ae (ag 4 I (O (J1 okL I (.head _) I I I I (ab (ag 3 I (O (J8 okL I I I (zab I) I I I .here I I I (ab (ag 7 I (O (J1 okL I (.head _) I I I I (ab (J3 ?_)))))))))))));refine J7 (Jd [_] I I I I (h1 m _ g hr) fun v H' hr=>?_)
  refine ab (ag 4 I (J ?_));refine zaa (J5 I I) ?_;exact hW.add _ _ [_] hr
set_option maxHeartbeats 4000000 in
theorem rtry_cond(y z:Pat)(hW:Wd R)(hn:1≤n∧n≤9)(hR:∃v H',R v H')
  (ht:a.w.r+1>80000→R (i64 0) (Hr X (zai a)++Hb))
  (h1:¬a.w.r+1>80000→(zaI s.caps n.toNat).1≥0→TrG [] Tryz.prog 124 [X.p,.agg y.C,.agg (stC s),.ptr kb 34 0 0] (Hr X (zai a)++Hb) R)
  (h2:¬a.w.r+1>80000→¬(zaI s.caps n.toNat).1≥0→TrG [] Tryz.prog 124 [X.p,.agg z.C,.agg (stC s),.ptr kb 34 0 0] (Hr X (zai a)++Hb) R)
  :TrG [] Tryz.prog 124 [X.p,.agg (Pat.mk 15 n mn mx nm st [y,z]).C,.agg (stC s),.ptr kb 34 0 0] (Hr X a++Hb) R:=by
 refine Jb (N:=217) Tryz.func124 I I I ?_;have hd:([y,z].map Pat.cells)[((0:Nat):Int).toNat]?=some y.C:=by simp[Pat.cells_eq]
 have hd2:([y,z].map Pat.cells)[((1:Nat):Int).toNat]?=some z.C:=by simp[Pat.cells_eq]
 have hl0:((0:Nat):Int)<2:=by decide
 have hl1:((1:Nat):Int)<2:=by decide
 refine ae0 (ag 2 I (O (Jc 5 I I (zab I) I (ab (J3 ?_)))));refine J7 (Jk I I (.inr ⟨_,I⟩) (zaB s) I fun r6 _=>?_)
 refine ab (ag 7 I (J3 ?_));refine J7 (Jn [_] Hb I I I I (za9 X a hp htd) fun v H' hv=>?_)
 obtain⟨rfl,rfl⟩:=hv;by_cases hq:a.w.r+1>80000
 ·rw[show(zai a).td=true from aA hq]
  refine ab (ag 11 I (J ?_));refine zaa (J5 I I) ?_;exact hW.add _ _ [_] (ht hq)
 rw[show(zai a).td=false from aG hq]
 have hn0:(0:Int)≤(Pat.mk 15 n mn mx nm st [y,z]).n:=by show 0≤n;omega
 have hn9:(Pat.mk 15 n mn mx nm st [y,z]).n<((10:Nat):Int):=by show n<10;omega
 refine ab (ag 125 I (Jo okL (zaC I I I I I (hn0) (hn9)) I (Jo okL (zaC I I I I I (am _) (by decide)) I (J3 ?_))));refine J7 (J1 okL I (.head _) I I (zno hn I) I ?_)
 refine ab (ag 3 I (J2 ?_))
 (refine J4 I (fun g=>?_) (fun g=>?_))
 ·have g:=aj g
  refine ae (ag 1 I (J2 ?_));refine aH zgL (fun _=>.nilp) okL hmix (by kernel_rfl) ?_;refine aa I I I (aa I I I (aa I I I (aa I I (zad I I I I I (am _) (hd) I) (aa I I I (ay I I (.inl I) (J1 okL I (.head _) I I I I (Ja (ah ⟨I,I⟩))) (aa I I I ?_))))));refine aR (R:=R) I I I hR (Jd [_] I I I I (h1 hq g) fun v H' hr=>Ja (ah (hW.add _ _ [_] hr))) fun v H' hv=>?_
  (repeat (refine aa I I I ?_))
  refine aF ?_;refine ae (ag 4 I (J ?_));refine zaa (J5 I I) ?_;exact hv
 ·have g:=ao g
  refine ae (ag 3 I (J2 ?_));refine aH zgL (fun _=>.nilp) okL hmix (by kernel_rfl) ?_;refine aa I I I (aa I I I (aa I I I (aa I I (zad I I I I I (by decide) (hd2) I) (aa I I I (ay I I (.inl I) (J1 okL I (.head _) I I I I (Ja (ah ⟨I,I⟩))) (aa I I I ?_))))));refine aR (R:=R) I I I hR (Jd [_] I I I I (h2 hq g) fun v H' hr=>Ja (ah (hW.add _ _ [_] hr))) fun v H' hv=>?_
  (repeat (refine aa I I I ?_))
  refine aF ?_;refine ae (ag 3 I (J ?_));refine zaa (J5 I I) ?_;exact hv
end
def zqu(o:Oper):Nat:=match o.op with
 |.load .. =>1
 |.binOp .shr _ _ _ _=>1
 |_=>0
def zrD(o:Oper):Nat:=match o.op with
 |.load .. =>1
 |.buildSlice .. =>4
 |.store .. =>2
 |.call {callee:=.builtin .append,.. }=>2
 |_=>0
def bitR(row n:Int):Bool:=!(IntKind.u64.wrap ((BitVec.ofInt IntKind.u64.bits (row.fdiv (2^min (IntKind.u64.wrap n).toNat IntKind.u64.bits))&&&BitVec.ofInt IntKind.u64.bits 1).toNat:Int)==0)
def zdh(n:Int)(w:Wk):Wk:=if w.codes.length<100 then {w with codes:=w.codes++[n]} else w
set_option maxHeartbeats 4000000 in
theorem rtry_code(X:Rt)(a:RS)(hp:a.w.r≤1000000)(htd:a.td=false)(n mn mx:Int)(nm:List UInt8)(st:List (Int×Int))(s:Sg)(kb:Nat)(Hb:Heap)(R:A→Heap→Prop)(l:List Pat)(hW:Wd R)(hn:0≤n∧n≤9)(hg:a.cg=none→a.w.codes=[])
  (ht:a.w.r+1>80000→R (i64 0) (Hr X (zai a)++Hb))
  (h0:¬a.w.r+1>80000→bitR X.row n=false→∀g',(g'=none→(zdh n a.w).codes=[])→R (i64 0) (Hr X {a with w:=zdh n (tick a.w),cg:=g'}++Hb))
  (h1:¬a.w.r+1>80000→bitR X.row n=true→∀g' H',(g'=none→(zdh n a.w).codes=[])→H'.Perm (Hr X {a with w:=zdh n (tick a.w),cg:=g'}++Hb)→TrG [] Tryz.prog 173 [X.p,.ptr kb 34 0 0,.agg (stC s)] H' R)
  :TrG [] Tryz.prog 124 [X.p,.agg (Pat.mk 17 n mn mx nm st l).C,.agg (stC s),.ptr kb 34 0 0] (Hr X a++Hb) R:=by
 refine Jb (N:=217) Tryz.func124 I I I ?_;refine ae0 (ag 2 I (O (Jc 5 I I (zab I) I (ab (O (Jc 6 I I (zab I) I (ab (ag 7 I (J3 ?_)))))))));refine J7 (Jn [] Hb I I I I (za9 X a hp htd) fun v H' hv=>?_)
 obtain⟨rfl,rfl⟩:=hv;by_cases hq:a.w.r+1>80000
 ·rw[show(zai a).td=true from aA hq]
  refine ab (ag 11 I (J ?_));refine zaa (J5 I I) ?_;exact ht hq
 rw[show(zai a).td=false from aG hq]
 have hu:IntKind.u64.wrap n≥0:=(zdZ .u64 n).1;obtain⟨w,td,cg,bar,fd,fr,ae⟩:=a;have htd:td=false:=htd;subst htd;have e1:zai ⟨w,false,cg,bar,fd,fr,ae⟩=⟨tick w,false,cg,bar,fd,fr,ae⟩:=by
  show(⟨tick w,decide (w.r+1>80000),cg,bar,fd,fr,ae⟩:RS)=_
  rw[aG hq]
 rw[e1,b7];have hP:∀(b:RS),(Hr X b++Hb).Perm ((X.m,.row 111 44 [rC X b])::(X.al,.row 47 1 (b.ae.map alE))::((X.enH b.w++Hb)++outH 3 1 b.cg (b.w.codes.map zC))):=fun b=>by
  rw[zaZ,az,az];refine(cY _ (cY _ ?_));rw[aI,aI];exact List.perm_append_comm.append_left _
 refine Jl (hP _) ?_;cases cg with
 |none=>
  have hc0:w.codes=[]:=hg I;have h:w.codes.length<100:=by rw[hc0];simp
  have e:zdh n (tick w)={tick w with codes:=w.codes++[n]}:=af h
  refine ab (ag 139 I (O (J1 okL I (.head _) I I I I (ab (ag 5 I (J2 ?_))))));refine aH zrD (fun _=>.nilp) okL hmix (by kernel_rfl) ?_;refine aa I I I (aa I I I (aa I I I (aa I I I (ay I I (.inl I) (J1 okL I (.head _) I I I I (Ja (ah ⟨I,I⟩))) (aa I I I (aa I I I ?_))))));refine bK (R:=fun v F=>∃rb,v=.os rb 1 0 1∧F=[(rb,.row 3 1 [[i64 n]])]) I I I ⟨_,_,0,I,I⟩ (Jh okL I I I I I I I I I I I fun rb _=>Ja (ah ⟨_,⟨rb,I,I⟩,I⟩)) ?_;rintro v F ⟨rb,rfl,rfl⟩;refine aR (R:=fun v H'=>∃r',v=outV 1 (some r') (w.codes++[n]).length∧H'=((X.m,Blk.row 111 44 [rC X ⟨tick w,false,none,bar,fd,fr,ae⟩])::(X.al,.row 47 1 (ae.map alE))::(X.enH (tick w)++Hb))++outH 3 1 (some r') ((w.codes++[n]).map zC)) I I I ⟨_,_,0,I,I⟩
   (cB zC (none) w.codes [n] ((X.m,.row 111 44 [rC X ⟨tick w,false,none,bar,fd,fr,ae⟩])::(X.al,.row 47 1 (ae.map alE))::(X.enH (tick w)++Hb)) okL (fun _=>hc0) I I I (by simp) I I I I (fun a _=>rfl) (fun a _=>rfl) (by simp only[bc];omega) I I fun r' _=>Ja (ah ⟨r',I,I⟩)) ?_
  rintro v H' ⟨r',rfl,rfl⟩;refine aa I I I (aa I I I (bn I I I (J8 okL I I I (zab I) I I I .here I I I (Ja (ah ⟨I,I⟩))) ?_));refine aF ?_;refine ax (ag 2 I (J2 ?_));refine aH zqu (fun _=>.nilp) okL hmix (by kernel_rfl) ?_;refine aa I I I (aa I I I (aa I I I (ay I I (.inl I) (J1 okL I (.head _) I I I I (Ja (ah ⟨I,I⟩))) (aa I I I (aa I I I (aa I I I ?_))))));refine ay I I (.inl I) (cL I I hu I (Ja (ah ⟨I,I⟩))) ?_
  (repeat (refine aa I I I ?_))
  refine aF ?_;refine ax (ag 1 I (J2 ?_))
  (refine J4 I (fun hb=>?_) (fun hb=>?_))
  ·have hb:bitR X.row n=false:=ai Bool.not hb
   have k:=h0 hq hb (some r') (fun h=>nomatch h);simp only at k;rw[e] at k;refine ae0 (ag 6 I (J (ax (ag 2 I (J ?_)))));refine zaa (J5 I I) ?_;exact hW.perm _ _ _ (hP _) k
  ·have hb:bitR X.row n=true:=ai Bool.not hb
   have k:=fun H'=>h1 hq hb (some r') H' (fun h=>nomatch h);simp only at k;rw[e] at k;refine ae0 (ag 1 I (J (ax (ag 7 I (J3 ?_)))));refine J7 (Ji I I I (k _ (hP ⟨{tick w with codes:=w.codes++[n]},false,some r',bar,fd,fr,ae⟩).symm) fun v H' hr=>?_)
   refine ab (ag 4 I (J ?_));refine zaa (J5 I I) ?_;exact hr
 |some r=>
  refine ab (ag 139 I (O (J1 okL I (.head _) I I I I (ab (ag 4 I (J2 ?_))))))
  (refine J4 I (fun h=>?_) (fun h=>?_))
  ·have h:w.codes.length<100:=by have h:((w.codes.length:Nat):Int)<100:=aj h;omega
   have e:zdh n (tick w)={tick w with codes:=w.codes++[n]}:=af h
   refine ae0 (J2 ?_)
   refine aH zrD (fun _=>.nilp) okL hmix (by kernel_rfl) ?_;refine aa I I I (aa I I I (aa I I I (aa I I I (ay I I (.inl I) (J1 okL I (.head _) I I I I (Ja (ah ⟨I,I⟩))) (aa I I I (aa I I I ?_))))));refine bK (R:=fun v F=>∃rb,v=.os rb 1 0 1∧F=[(rb,.row 3 1 [[i64 n]])]) I I I ⟨_,_,0,I,I⟩ (Jh okL I I I I I I I I I I I fun rb _=>Ja (ah ⟨_,⟨rb,I,I⟩,I⟩)) ?_;rintro v F ⟨rb,rfl,rfl⟩;refine aR (R:=fun v H'=>∃r',v=outV 1 (some r') (w.codes++[n]).length∧H'=((X.m,Blk.row 111 44 [rC X ⟨tick w,false,some r,bar,fd,fr,ae⟩])::(X.al,.row 47 1 (ae.map alE))::(X.enH (tick w)++Hb))++outH 3 1 (some r') ((w.codes++[n]).map zC)) I I I ⟨_,_,0,I,I⟩
    (cB zC (some r) w.codes [n] ((X.m,.row 111 44 [rC X ⟨tick w,false,some r,bar,fd,fr,ae⟩])::(X.al,.row 47 1 (ae.map alE))::(X.enH (tick w)++Hb)) okL (fun h=>nomatch h) I I I (by simp) I I I I (fun a _=>rfl) (fun a _=>rfl) (by simp only[bc];omega) I I fun r' _=>Ja (ah ⟨r',I,I⟩)) ?_
   rintro v H' ⟨r',rfl,rfl⟩;refine aa I I I (aa I I I (bn I I I (J8 okL I I I (zab I) I I I .here I I I (Ja (ah ⟨I,I⟩))) ?_));refine aF ?_;refine ax (J (ax (ag 2 I (J2 ?_))));refine aH zqu (fun _=>.nilp) okL hmix (by kernel_rfl) ?_;refine aa I I I (aa I I I (aa I I I (ay I I (.inl I) (J1 okL I (.head _) I I I I (Ja (ah ⟨I,I⟩))) (aa I I I (aa I I I (aa I I I ?_))))));refine ay I I (.inl I) (cL I I hu I (Ja (ah ⟨I,I⟩))) ?_
   (repeat (refine aa I I I ?_))
   refine aF ?_;refine ax (ag 1 I (J2 ?_))
   (refine J4 I (fun hb=>?_) (fun hb=>?_))
   ·have hb:bitR X.row n=false:=ai Bool.not hb
    have k:=h0 hq hb (some r') (fun h=>nomatch h);simp only at k;rw[e] at k;refine ae0 (ag 6 I (J (ax (ag 2 I (J ?_)))));refine zaa (J5 I I) ?_;exact hW.perm _ _ _ (hP _) k
   ·have hb:bitR X.row n=true:=ai Bool.not hb
    have k:=fun H'=>h1 hq hb (some r') H' (fun h=>nomatch h);simp only at k;rw[e] at k;refine ae0 (ag 1 I (J (ax (ag 7 I (J3 ?_)))));refine J7 (Ji I I I (k _ (hP ⟨{tick w with codes:=w.codes++[n]},false,some r',bar,fd,fr,ae⟩).symm) fun v H' hr=>?_)
    refine ab (ag 4 I (J ?_));refine zaa (J5 I I) ?_;exact hr
  ·have h:¬w.codes.length<100:=by have h:¬((w.codes.length:Nat):Int)<100:=ao h;omega
   have e:zdh n (tick w)=tick w:=ac h;refine ae0 (ag 1 I (J (ax (ag 2 I (J2 ?_)))));refine aH zqu (fun _=>.nilp) okL hmix (by kernel_rfl) ?_;refine aa I I I (aa I I I (aa I I I (ay I I (.inl I) (J1 okL I (.head _) I I I I (Ja (ah ⟨I,I⟩))) (aa I I I (aa I I I (aa I I I ?_))))));refine ay I I (.inl I) (cL I I hu I (Ja (ah ⟨I,I⟩))) ?_
   (repeat (refine aa I I I ?_))
   refine aF ?_;refine ax (ag 1 I (J2 ?_))
   (refine J4 I (fun hb=>?_) (fun hb=>?_))
   ·have hb:bitR X.row n=false:=ai Bool.not hb
    have k:=h0 hq hb (some r) (fun h=>nomatch h);simp only at k;rw[e] at k;refine ae0 (ag 6 I (J (ax (ag 2 I (J ?_)))));refine zaa (J5 I I) ?_;exact hW.perm _ _ _ (hP _) k
   ·have hb:bitR X.row n=true:=ai Bool.not hb
    have k:=fun H'=>h1 hq hb (some r) H' (fun h=>nomatch h);simp only at k;rw[e] at k;refine ae0 (ag 1 I (J (ax (ag 7 I (J3 ?_)))));refine J7 (Ji I I I (k _ (hP _).symm) fun v H' hr=>?_)
    refine ab (ag 4 I (J ?_));refine zaa (J5 I I) ?_;exact hr
structure RProg(V:Alk)(X:Rt)(B:Bk)(g:Int)(N:Nat):Prop where
 hB:BOk g N B
 tau:B.tau=tauR
 hN:N≤1000000
 sN:X.s.length=N
 takes:∀(a:RS) (x:Pat) (p:Int),V.ok a.ae→Vd g x→(x.op=1∨x.op=2∨x.op=3)→0≤p→p≤N→TrG [] Tryz.prog 172 [X.p,.agg x.C,i64 p] (Hr X a) fun v H'=>v=.bool (B.takes x p)∧∃ae',V.ok ae'∧H'=Hr X {a with ae:=ae'}
 holds:∀(a:RS) (x:Pat) (p:Int),Vd g x→(x.op=11∨x.op=12∨x.op=13)→0≤p→p≤N→TrG [] Tryz.prog 178 [X.p,.agg x.C,i64 p] (Hr X a) fun v H'=>v=.bool (B.holds x p)∧H'=Hr X a
 copied:∀(a:RS) (s:Sg) (n:Int),SOk N s→1≤n→n≤9→TrG [] Tryz.prog 177 [X.p,.agg (stC s),i64 n] (Hr X a) fun v H'=>v=i64 (B.copied (capN s n) s.at_)∧∃G,H'=G++Hr X a
 span:∀y,Vd g y→∃hi,B.least y≤1000000000000000000∧PTr Tryz.prog 209 [.agg y.C] (.tup [i64 (B.least y),i64 hi])
 body0:B.body 0=X.x
 body:∀n,1≤n→n≤g→∃t,PTr Tryz.prog 225 [.agg X.x.C,i64 n] (.tup [.agg (B.body n).C,.bool t])
 bit:∀n,0≤n→n≤9→B.bit n=bitR X.row n
 stop:∀(acc:List Int) (p:Int),B.stop (acc++[p])=zez X acc p
structure RTok(B:Bk)(g:Int)(N:Nat)(t:Task)(w:Wk):Prop where
 ok:TOk g N t w
 fr:zaJ B w
 d:w.d+t.wt≤1
 p:w.p≤2*w.r
structure Okk(B:Bk)(g:Int)(N:Nat)(at_:Int)(c:Nat)(T:Tm):Prop where
 ok:Tm.Ok g N B at_ c T
 acc:Tm.Acc 1 T
 good:∃w0:Wk,w0.p≤2*w0.r∧Tm.Good Wk.le w0 T
def AllR(V:Alk)(X:Rt)(B:Bk)(g:Int)(N n:Nat):Prop:=
 ∀t ids a o w',RTok B g N t a.w→RM V X a→a.td=false→ids.length=szK t.k→brun B n t a.w=some (o,w')→ConR V X t ids a o w'
section
variable{V:Alk}{X:Rt}{B:Bk}{g:Int}{N n:Nat}{k:List Fm}{ids:List Nat}{a:RS}{s:Sg}{o:BOut}{w':Wk}
theorem Okk.ask{at_:Int}{c:Nat}{t:Task}{w:Wk}{f:BOut×Wk→Tm}(h:Okk B g N at_ c (.ask t w f)):RTok B g N t w:=⟨(za2 h.ok).1,(za2 h.ok).2,by cases h.acc;assumption,by
 obtain⟨w0,h1,h2⟩:=h.good;cases h2 with
 |ask _ _ _ h3 _ _=>unfold Wk.le at h3;omega⟩
theorem Okk.next(hB:BOk g N B){at_:Int}{c:Nat}{t:Task}{w:Wk}{f:BOut×Wk→Tm}(h:Okk B g N at_ c (.ask t w f)){o:BOut}{w1:Wk}(hr:brun B n t w=some (o,w1)):Okk B g N at_ c (f (o,w1)):=
 ⟨zeB h.ok o w1 (zhT hB n t w o w1 h.ask.fr h.ask.ok hr),by
  cases h.acc with
  |ask _ _ _ ht _ hf=>exact hf o w1 (zmm B n t w o w1 ht hr),by
  have hg:=zbv B n t w o w1 hr;have hp:=h.ask.p;obtain⟨w0,h1,h2⟩:=h.good;cases h2 with
  |ask _ _ _ h3 _ hf=>exact⟨w1,by unfold Wk.le at hg;omega,hf o w1 hg⟩⟩
theorem za8(V:Alk)(X:Rt)(ids:List Nat)(k:List Fm)(o:BOut)(w':Wk):Wd (zaE V X ids k o w') where
 perm v H H' hp:=fun⟨a',G,h1,h2,h3,h4,h5,h6,h7⟩=>⟨a',G,h1,h2,h3,h4,h5,h6,hp.symm.trans h7⟩
 add v H G:=fun⟨a',G',h1,h2,h3,h4,h5,h6,h7⟩=>⟨a',G++G',h1,h2,h3,h4,h5,h6,by rw[aI];exact h7.append_left G⟩
theorem zje(hP:RProg V X B g N){w:Wk}(h:zaJ B w):w.r≤80000:=by
 unfold zaJ at h;rw[hP.tau] at h;have:=ao h;omega
theorem zsv{a1:RS}(ha:RM V X a1)(ho:(a1.td=true↔o=.tired))(hy:∀e,o=.yes e→a1.fd=e)(hc:∀j,o=.cut j→a1.bar=.ptr (bid ids k j) 34 0 0){H G:Heap}(hp:H.Perm (G++(Hr X a1++Hk ids k))):zaE V X ids k o a1.w (i64 (outR o)) H:=
 ⟨a1,G,I,ha,I,ho,hy,hc,hp⟩
theorem no_R{a1:RS}(ha:RM V X a1)(ht:a1.td=false){H G:Heap}(hp:H.Perm (G++(Hr X a1++Hk ids k))):zaE V X ids k .no a1.w (i64 0) H:=
 zsv ha ⟨fun h=>(by rw[ht] at h;cases h),fun h=>(by cases h)⟩ (fun e h=>(by cases h)) (fun j h=>(by cases h)) hp
def zrv:BOut→Sg
 |.yes e=>e
 |_=>zSg
def cutN:BOut→Nat
 |.cut j=>j
 |_=>0
def zg6:BOut→Bool
 |.tired=>true
 |_=>false
theorem zfD{o:BOut}:zg6 o=true↔o=.tired:=by cases o<;>simp[zg6]
theorem zcU{t:Task}{w:Wk}(h:brun B n t w=some (o,w'))(hc:w.codes.length≤100)(hV:V.ok a.ae):∃v H',zaE V X ids k o w' v H':=
 ⟨_,_,⟨w',zg6 o,some 0,.ptr (bid ids k (cutN o)) 34 0 0,zrv o,0,a.ae⟩,[],rfl,⟨(fun h=>nomatch h),zd4 B n t w o w' h hc,hV⟩,rfl,zfD,(fun e h=>by subst h;rfl),(fun j h=>by subst h;rfl),ar _⟩
end
section
variable{V:Alk}{X:Rt}{B:Bk}{g:Int}{N n:Nat}{k:List Fm}{ids:List Nat}{a:RS}{s:Sg}{o:BOut}{w':Wk}
structure CtR(V:Alk)(X:Rt)(B:Bk)(g:Int)(N n:Nat)(k:List Fm)(ids:List Nat):Prop where
 hP:RProg V X B g N
 low:∀m,m≤n→AllR V X B g N m
 hl:ids.length=szK k
theorem zgP{G H K:Heap}{b:Nat×Blk}:(G++(H++b::K)).Perm ((G++[b])++(H++K)):=by
 rw[aI];exact(cp (a:=b) (l₁:=H) (l₂:=K)).append_left G
theorem zaE.pop{b:Nat}{fr:Fm}(ht:thru fr=false)(hb:∀j,bid (b::ids) (fr::k) j=bid ids k j){v:A}{H:Heap}(h:zaE V X (b::ids) (fr::k) o w' v H):zaE V X ids k o w' v H:=by
 obtain⟨a',G,h1,h2,h3,h4,h5,h6,h7⟩:=h;rw[zcn (by simp[ht])] at h7;exact⟨a',G++[_],h1,h2,h3,h4,h5,fun j hj=>by rw[h6 j hj,hb],h7.trans zgP⟩
theorem CtR.go(c:CtR V X B g N n k ids){m:Nat}(hm:m≤n){a1:RS}(ha:RM V X a1)(ht:a1.td=false)(hk:RTok B g N (.go k s) a1.w)(hr:brun B m (.go k s) a1.w=some (o,w')){H G:Heap}(hp:H.Perm (G++(Hr X a1++Hk ids k))):
  TrG [] Tryz.prog 173 [X.p,kp ids,.agg (stC s)] H (zaE V X ids k o w'):=
 (TrG.wide hp (c.low m hm (.go k s) ids a1 o w' hk ha ht c.hl hr)).mono fun v H' ⟨H1,k1,k2⟩=>(za8 V X ids k o w').wide k1 k2
theorem CtR.try0(c:CtR V X B g N n k ids){m:Nat}(hm:m≤n){a1:RS}{y:Pat}(ha:RM V X a1)(ht:a1.td=false)(hk:RTok B g N (.try_ y s k) a1.w)(hr:brun B m (.try_ y s k) a1.w=some (o,w')){H G:Heap}(hp:H.Perm (G++(Hr X a1++Hk ids k))):
  TrG [] Tryz.prog 124 [X.p,.agg y.C,.agg (stC s),kp ids] H (zaE V X ids k o w'):=
 (TrG.wide hp (c.low m hm (.try_ y s k) ids a1 o w' hk ha ht c.hl hr)).mono fun v H' ⟨H1,k1,k2⟩=>(za8 V X ids k o w').wide k1 k2
theorem CtR.turn(c:CtR V X B g N n k ids){m:Nat}(hm:m≤n){a1:RS}{x:Pat}{many:Int}(ha:RM V X a1)(ht:a1.td=false)(hk:RTok B g N (.turn x many s k) a1.w)(hr:brun B m (.turn x many s k) a1.w=some (o,w')){H G:Heap}(hp:H.Perm (G++(Hr X a1++Hk ids k))):
  TrG [] Tryz.prog 175 [X.p,.agg x.C,i64 many,.agg (stC s),kp ids] H (zaE V X ids k o w'):=
 (TrG.wide hp (c.low m hm (.turn x many s k) ids a1 o w' hk ha ht c.hl hr)).mono fun v H' ⟨H1,k1,k2⟩=>(za8 V X ids k o w').wide k1 k2
theorem CtR.goW(c:CtR V X B g N n k ids){m:Nat}(hm:m≤n){a1:RS}(ha:RM V X a1)(ht:a1.td=false)(hk:RTok B g N (.go k s) a1.w)(hr:brun B m (.go k s) a1.w=some (o,w')){H G:Heap}(hp:H.Perm (G++(Hr X a1++Hk ids k))):
  TrG [] Tryz.prog 173 [X.p,kp ids,.agg (stC s)] H fun v H'=>∃H1,zaE V X ids k o w' v H1∧H'.Perm (G++H1):=
 TrG.wide hp (c.low m hm (.go k s) ids a1 o w' hk ha ht c.hl hr)
theorem CtR.turnW(c:CtR V X B g N n k ids){m:Nat}(hm:m≤n){a1:RS}{x:Pat}{many:Int}(ha:RM V X a1)(ht:a1.td=false)(hk:RTok B g N (.turn x many s k) a1.w)(hr:brun B m (.turn x many s k) a1.w=some (o,w')){H G:Heap}(hp:H.Perm (G++(Hr X a1++Hk ids k))):
  TrG [] Tryz.prog 175 [X.p,.agg x.C,i64 many,.agg (stC s),kp ids] H fun v H'=>∃H1,zaE V X ids k o w' v H1∧H'.Perm (G++H1):=
 TrG.wide hp (c.low m hm (.turn x many s k) ids a1 o w' hk ha ht c.hl hr)
theorem CtR.tryW(c:CtR V X B g N n k ids){m:Nat}(hm:m≤n){a1:RS}{y:Pat}{fr:Fm}(hfr:thru fr=false)(hb:∀(b j:Nat),bid (b::ids) (fr::k) j=bid ids k j)(ha:RM V X a1)(ht:a1.td=false)(hk:RTok B g N (.try_ y s (fr::k)) a1.w)(hr:brun B m (.try_ y s (fr::k)) a1.w=some (o,w'))
  {H G:Heap} (b:Nat) (hp:H.Perm (G++(Hr X a1++Hk ids k))):
  TrG [] Tryz.prog 124 [X.p,.agg y.C,.agg (stC s),.ptr b 34 0 0] (blkF b ids fr::H) fun v H'=>∃H1,zaE V X ids k o w' v H1∧H'.Perm (G++H1):=by
 have h:=c.low m hm (.try_ y s (fr::k)) (b::ids) a1 o w' hk ha ht (by show _=szK (fr::k);rw[szK,ac (by simp[hfr]),aX,c.hl]) hr
 have e:Hk (b::ids) (fr::k)=blkF b ids fr::Hk ids k:=zcn (by simp[hfr]) _ _;have h:TrG [] Tryz.prog 124 [X.p,.agg y.C,.agg (stC s),.ptr b 34 0 0] (Hr X a1++Hk (b::ids) (fr::k)) (zaE V X (b::ids) (fr::k) o w'):=h;rw[e] at h;have hp2:(blkF b ids fr::H).Perm (G++(Hr X a1++blkF b ids fr::Hk ids k)):=
  ((hp.cons _).trans (cp (l₁:=G)).symm).trans ((cp (l₁:=Hr X a1)).symm.append_left G)
 exact(TrG.wide hp2 h).mono fun v H' ⟨H1,k1,k2⟩=>⟨H1,zaE.pop hfr (hb b) k1,k2⟩
theorem CtR.tryF(c:CtR V X B g N n k ids){m:Nat}(hm:m≤n){a1:RS}{y:Pat}{fr:Fm}(hfr:thru fr=false)(hb:∀(b j:Nat),bid (b::ids) (fr::k) j=bid ids k j)(ha:RM V X a1)(ht:a1.td=false)(hk:RTok B g N (.try_ y s (fr::k)) a1.w)(hr:brun B m (.try_ y s (fr::k)) a1.w=some (o,w'))
  {H G:Heap} (b:Nat) (hp:H.Perm (G++(Hr X a1++Hk ids k))):
  TrG [] Tryz.prog 124 [X.p,.agg y.C,.agg (stC s),.ptr b 34 0 0] (blkF b ids fr::H) (zaE V X ids k o w'):=
 (c.tryW hm hfr hb ha ht hk hr b hp).mono fun v H' ⟨H1,k1,k2⟩=>(za8 V X ids k o w').wide k1 k2
theorem zaE.push{b:Nat}{fr:Fm}(ht:thru fr=false)(hb:∀j,o=.cut j→bid (b::ids) (fr::k) j=bid ids k j){v:A}{H1 H' G:Heap}(h:zaE V X ids k o w' v H1)(hp:H'.Perm (blkF b ids fr::G++H1)):zaE V X (b::ids) (fr::k) o w' v H':=by
 obtain⟨a',G',h1,h2,h3,h4,h5,h6,h7⟩:=h;refine⟨a',G++G',h1,h2,h3,h4,h5,fun j hj=>by rw[h6 j hj,hb j hj],?_⟩
 rw[zcn (by simp[ht])];refine hp.trans (((h7.append_left (blkF b ids fr::G))).trans ?_)
 rw[←aI,az,az];exact(cp (a:=blkF b ids fr) (l₁:=G++G') (l₂:=Hr X a'++Hk ids k)).symm.trans ((cp (a:=blkF b ids fr) (l₁:=Hr X a') (l₂:=Hk ids k)).symm.append_left (G++G'))
theorem CtR.catGo(c:CtR V X B g N n k ids){a1:RS}{x:Pat}{i:Nat}(hi:i<x.l.length){at_:Int}{cc:Nat}(ha:RM V X a1)(ht:a1.td=false)(hk:Okk B g N at_ cc (catS x i s k a1.w))(hr:(catS x i s k a1.w).eval (brun B n)=some (o,w'))
  {H G:Heap} (b:Nat) (hp:H.Perm (G++(Hr X a1++Hk ids k))):
  TrG [] Tryz.prog 173 [X.p,.ptr b 34 0 0,.agg (stC s)] (blkF b ids (.cat x i)::H) (zaE V X (b::ids) (.cat x i::k) o w'):=by
 obtain⟨y,hy⟩:∃y,x.l[i]?=some y:=⟨x.l[i],List.getElem?_eq_getElem hi⟩;unfold catS at hr hk;rw[hy] at hr hk;simp only at hr hk;have hk:=hk.ask;rw[zaw] at hr;have hti:thru (.cat x i)=false:=aG (by omega);have hbi:∀j,o=.cut j→bid (b::ids) (.cat x i::k) j=bid ids k j:=fun j _=>zew (by simp[hti]);refine goOn_cat X x y i hy s b (ids.headD 0) H _ (zcU hr ha.codes ha.ae) (fun hlast=>?_) (fun hmore b2=>?_)
 ·-- the last part:what stands behind it is what stood behind the row
  have hthru:thru (.cat x (i+1))=true:=aA (by omega);have hl:ids.length=szK (.cat x (i+1)::k):=by rw[szK,af hthru];exact c.hl
  have e:Hk ids (.cat x (i+1)::k)=Hk ids k:=zms hthru _ _;have h:=c.low n (au n) (.try_ y s (.cat x (i+1)::k)) ids a1 o w' hk ha ht hl hr;have h:TrG [] Tryz.prog 124 [X.p,.agg y.C,.agg (stC s),kp ids] (Hr X a1++Hk ids (.cat x (i+1)::k)) (zaE V X ids (.cat x (i+1)::k) o w'):=h;rw[e] at h;have hp2:(blkF b ids (.cat x i)::H).Perm ((blkF b ids (.cat x i)::G)++(Hr X a1++Hk ids k)):=hp.cons _;refine(TrG.wide hp2 h).mono fun v H' ⟨H1,⟨a',G',q1,q2,q3,q4,q5,q6,q7⟩,k2⟩=>zaE.push hti hbi ⟨a',G',q1,q2,q3,q4,q5,fun j hj=>by rw[q6 j hj,zfE hthru],by rw[e] at q7;exact q7⟩ k2
 ·have hthru:thru (.cat x (i+1))=false:=aG (by omega)
  have h:=c.tryW (au n) hthru (fun b j=>zew (by simp[hthru])) ha ht hk hr (G:=blkF b ids (.cat x i)::G) (H:=blkF b ids (.cat x i)::H) b2 (hp.cons _);exact h.mono fun v H' ⟨H1,k1,k2⟩=>zaE.push hti hbi k1 k2
end
section
variable{V:Alk}{X:Rt}{B:Bk}{g:Int}{N n:Nat}{k:List Fm}{ids:List Nat}{a:RS}{s:Sg}{o:BOut}{w':Wk}
def Back(V:Alk)(X:Rt)(ids:List Nat)(k:List Fm)(o1:BOut)(w1:Wk)(m:Int)(a1:RS)(H1:Heap):Prop:=
 m=outR o1∧a1.w=w1∧RM V X a1∧(a1.td=true↔o1=.tired)∧(∀e,o1=.yes e→a1.fd=e)∧(∀j,o1=.cut j→a1.bar=.ptr (bid ids k j) 34 0 0)∧∃G,H1.Perm (G++Hk ids k)
theorem zb3{A B C:Heap}:(A++(B++C)).Perm (B++(A++C)):=by
 rw[←aI,←aI];exact List.perm_append_comm.append_right C
theorem zbG{v:A}{H':Heap}(h:zaE V X ids k o w' v H'):MidA X (Back V X ids k o w') v H':=by
 obtain⟨a',G,h1,h2,h3,h4,h5,h6,h7⟩:=h;exact⟨outR o,a',G++Hk ids k,h3,⟨I,h1,h2,h4,h5,h6,G,.refl _⟩,h7.trans zb3⟩
theorem zdX{m:Int}{a1:RS}{H1 H':Heap}(h:Back V X ids k o w' m a1 H1)(hp:H'.Perm (Hr X a1++H1)):zaE V X ids k o w' (i64 m) H':=by
 obtain⟨h1,h2,h3,h4,h5,h6,G,h7⟩:=h;exact⟨a1,G,h2,h3,by rw[h1],h4,h5,h6,hp.trans ((h7.append_left _).trans zb3)⟩
theorem ziI{m:Int}{a1:RS}{H1:Heap}{o1:BOut}{w1:Wk}(h:Back V X ids k o1 w1 m a1 H1)(hm:m=0)(ht:a1.td=false):o1=.no:=by
 obtain⟨h1,_,_,h4,_⟩:=h;cases o1 with
 |no=>rfl
 |tired=>rw[h4.2 rfl] at ht;cases ht
 |yes e=>rw[hm] at h1;cases h1
 |cut j=>rw[hm] at h1;cases h1
theorem zkc{m:Int}{a1:RS}{H1:Heap}{w1:Wk}(h:Back V X ids k .no w1 m a1 H1):m=0∧a1.td=false:=by
 obtain⟨h1,_,_,h4,_⟩:=h;refine⟨h1,?_⟩;cases e:a1.td with
 |false=>rfl
 |true=>have:=h4.1 e;cases this
theorem zhc{rec:Task→Wk→BRes}{f:Wk→Tm}{o1:BOut}{w1:Wk}(hn:o1≠ .no)(h:(zdR f (o1,w1)).eval rec=some (o,w')):o1=o∧w1=w':=by
 have e:(Tm.ret (o1,w1)).eval rec=some (o,w'):=by
  cases o1<;>first|exact absurd I hn|exact h
 have:=zat e;cases this;exact⟨I,I⟩
def SecR(V:Alk)(X:Rt)(B:Bk)(g:Int)(N n:Nat)(ids:List Nat)(k:List Fm)(at_:Int)(second:Wk→Tm)(o:BOut)(w':Wk)(H:Heap):Prop:=
 ∃a1 G,RM V X a1∧a1.td=false∧Okk B g N at_ (lvl k) (second a1.w)∧(second a1.w).eval (brun B n)=some (o,w')∧H.Perm (G++(Hr X a1++Hk ids k))
theorem zpv(hB:BOk g N B){t:Task}{w:Wk}{second:Wk→Tm}{at_:Int}{o1:BOut}{w1:Wk}(hr:brun B n t w=some (o1,w1))(hk:Okk B g N at_ (lvl k) (.ask t w (zdR second)))(h:(zdR second (o1,w1)).eval (brun B n)=some (o,w')){a1:RS}{H1:Heap}(hb:Back V X ids k o1 w1 0 a1 H1)(ht:a1.td=false):
  SecR V X B g N n ids k at_ second o w' (Hr X a1++H1):=by
 have e:=ziI hb I ht;subst e;obtain⟨_,h2,h3,_,_,_,G,h7⟩:=hb;subst h2;exact⟨a1,G,h3,ht,hk.next hB hr,h,(h7.append_left _).trans zb3⟩
theorem zoE(c:CtR V X B g N n k ids)(ha:RM V X a)(htd:a.td=false){x:Pat}{many:Int}(hk:RTok B g N (.turn x many s k) a.w)(h:(zcm x many s k a.w).eval (brun B n)=some (o,w'))(hne:∃v H',zaE V X ids k o w' v H'):
  TrG [] Tryz.prog 175 [X.p,.agg x.C,i64 many,.agg (stC s),kp ids] (Hr X a++Hk ids k) (zaE V X ids k o w'):=by
 obtain⟨hx,h6,hm0,hmp,hmx⟩:=hk.ok.x;obtain⟨y,hy⟩:=hx.shape.2.1 (.inl h6);have hfst:fstL x.l=y:=by rw[hy];rfl
 have hok:Okk B g N s.at_ (lvl k) (zcm x many s k a.w):=⟨zgW hk.fr hk.ok,zh3 (zc4 hk.ok.b) x many s hk.d,_,hk.p,zgt zcp x many s k a.w⟩;have hB:=c.hP.hB;have hn0:∀o1:BOut,(o1≠ .no→∀w1 m a1 H1 H',o1=o∧w1=w'→Back V X ids k o1 w1 m a1 H1→H'.Perm (Hr X a1++H1)→zaE V X ids k o w' (i64 m) H'):=fun o1 _ w1 m a1 H1 H' ⟨e1,e2⟩ hb hp=>by subst e1 e2;exact zdX hb hp
 have notNo:∀{o1:BOut} {w1:Wk} {m:Int} {a1:RS} {H1:Heap},Back V X ids k o1 w1 m a1 H1→(m≠0∨a1.td=true)→o1≠ .no:=fun {o1 w1 m a1 H1} hb hor e=>by
  subst e;obtain⟨e1,e2⟩:=zkc hb;rcases hor with hh|hh
  ·exact hh e1
  ·rw[e2] at hh;cases hh
 obtain⟨v0,H0,hne0⟩:=hne;unfold zcm at h hok;by_cases h1:x.n=1
 ·rw[af h1] at h hok
  refine turn_lazy X x y hy h1 many s (ids.headD 0) _ _ (if many≥x.min then fun m a1 H1=>∃o1 w1,brun B n (.go k s) a.w=some (o1,w1)∧Back V X ids k o1 w1 m a1 H1 else fun _ _ _=>False) (Back V X ids k o w')
   (SecR V X B g N n ids k s.at_ (fun w=>if x.max<0∨many<x.max then .last (.try_ (fstL x.l) s (.turn x many s.at_::k)) w else .ret (.no,w)) o w') ⟨v0,H0,zbG hne0⟩ (fun hc=>?_) (fun m a1 H1 H' hr hp hor=>?_) (fun a1 H1 hr ht1=>?_) (fun hc=>?_) (fun H2 hS hm b=>?_) (fun m a1 H1 H' hr hp=>zdX hr hp) (fun H2 hS hm=>?_)
  ·rw[af hc] at h hok ⊢
   obtain⟨o1,w1,h2,h3⟩:=zbg h;exact(c.go (au n) ha htd hok.ask h2 (G:=[]) (ar _)).mono fun v H' hp=>by
    obtain⟨m,a1,H1,q1,q2,q3⟩:=zbG hp;exact⟨m,a1,H1,q1,⟨o1,w1,h2,q2⟩,q3⟩
  ·by_cases hc:many≥x.min
   ·rw[af hc] at h hok hr
    obtain⟨o1,w1,h2,hb⟩:=hr;obtain⟨o2,w2,h2',h3⟩:=zbg h;rw[h2] at h2';cases h2';exact hn0 o1 (notNo hb hor) w1 m a1 H1 H' (zhc (notNo hb hor) h3) hb hp
   ·rw[ac hc] at hr;exact hr.elim
  ·by_cases hc:many≥x.min
   ·rw[af hc] at h hok hr
    obtain⟨o1,w1,h2,hb⟩:=hr;obtain⟨o2,w2,h2',h3⟩:=zbg h;rw[h2] at h2';cases h2';exact zpv hB h2 hok h3 hb ht1
   ·rw[ac hc] at hr;exact hr.elim
  ·rw[ac hc] at h hok
   exact⟨a,[],ha,htd,hok,h,.refl _⟩
  ·obtain⟨a1,G,q1,q2,q3,q4,q5⟩:=hS
   simp only at q3 q4;rw[af hm] at q3 q4;rw[zaw] at q4;rw[hfst] at q3 q4;exact(c.tryF (au n) I (fun _ _=>rfl) q1 q2 q3.ask q4 b q5).mono fun v H' hp=>zbG hp
  ·obtain⟨a1,G,q1,q2,q3,q4,q5⟩:=hS
   simp only at q3 q4;rw[ac hm] at q4;have:=zat q4;cases this;exact no_R q1 q2 q5
 ·rw[ac h1] at h hok
  refine turn_greedy X x y hy h1 many s (ids.headD 0) _ _ (if x.max<0∨many<x.max then fun m a1 H1=>∃o1 w1,brun B n (.try_ y s (.turn x many s.at_::k)) a.w=some (o1,w1)∧Back V X ids k o1 w1 m a1 H1 else fun _ _ _=>False)
   (SecR V X B g N n ids k s.at_ (fun w=>if many≥x.min then .last (.go k s) w else .ret (.no,w)) o w') (fun hc=>?_) (fun hc b=>?_) (fun m a1 H1 H' hr hp hor=>?_) (fun a1 H1 hr ht1=>?_) (fun hc=>?_) (fun H2 hS hm=>?_) (fun H2 hS hm=>?_)
  ·rw[af hc] at h ⊢
   rw[hfst] at h;obtain⟨o1,w1,h2,h3⟩:=zbg h;obtain⟨v1,H1,hp1⟩:=zcU (V:=V) (X:=X) (k:=k) (ids:=ids) (a:=a) h2 ha.codes ha.ae;obtain⟨m,a1,H2,q1,q2,q3⟩:=zbG hp1;exact⟨v1,H1,m,a1,H2,q1,⟨o1,w1,h2,q2⟩,q3⟩
  ·rw[af hc] at h hok ⊢
   rw[hfst] at h hok;obtain⟨o1,w1,h2,h3⟩:=zbg h;exact(c.tryF (au n) I (fun _ _=>rfl) ha htd hok.ask h2 (G:=[]) b (ar _)).mono fun v H' hp=>by
    obtain⟨m,a1,H1,q1,q2,q3⟩:=zbG hp;exact⟨m,a1,H1,q1,⟨o1,w1,h2,q2⟩,q3⟩
  ·by_cases hc:x.max<0∨many<x.max
   ·rw[af hc] at h hok hr
    rw[hfst] at h hok;obtain⟨o1,w1,h2,hb⟩:=hr;obtain⟨o2,w2,h2',h3⟩:=zbg h;rw[h2] at h2';cases h2';exact hn0 o1 (notNo hb hor) w1 m a1 H1 H' (zhc (notNo hb hor) h3) hb hp
   ·rw[ac hc] at hr;exact hr.elim
  ·by_cases hc:x.max<0∨many<x.max
   ·rw[af hc] at h hok hr
    rw[hfst] at h hok;obtain⟨o1,w1,h2,hb⟩:=hr;obtain⟨o2,w2,h2',h3⟩:=zbg h;rw[h2] at h2';cases h2';exact zpv hB h2 hok h3 hb ht1
   ·rw[ac hc] at hr;exact hr.elim
  ·rw[ac hc] at h hok
   exact⟨a,[],ha,htd,hok,h,.refl _⟩
  ·obtain⟨a1,G,q1,q2,q3,q4,q5⟩:=hS
   simp only at q3 q4;rw[af hm] at q3 q4;rw[zaw] at q4;exact c.go (au n) q1 q2 q3.ask q4 q5
  ·obtain⟨a1,G,q1,q2,q3,q4,q5⟩:=hS
   simp only at q3 q4;rw[ac hm] at q4;have:=zat q4;cases this;exact no_R q1 q2 q5
end
theorem zgV{b b':Int}(h:b≤b'){t:Tm}(ha:Tm.Acc b t):Tm.Acc b' t:=by
 induction ha with
 |ret o w h1=>exact .ret o w (bm h1 h)
 |ask t w f ht hw hf ih=>exact .ask t w f ht (bm hw h) ih
section
variable{V:Alk}{X:Rt}{B:Bk}{g:Int}{N n:Nat}{k:List Fm}{ids:List Nat}{a:RS}{s:Sg}{o:BOut}{w':Wk}
theorem zmS{f:Fm}{k:List Fm}(h:KB (f::k))(hb:zd3 f=true):k=[]:=by
 cases k with
 |nil=>rfl
 |cons a k=>
  have:=h.1;rw[hb] at this;cases this
theorem zcM{b:Nat×Blk}{A C:Heap}:(A++b::C).Perm (b::(A++C)):=cp
theorem zq8(hP:RProg V X B g N)(low:∀m,m≤n→AllR V X B g N m)(hk:RTok B g N (.go k s) a.w)(ha:RM V X a)(htd:a.td=false)(hl:ids.length=szK k)(h:(goS B s a.w k).eval (brun B n)=some (o,w')):
  TrG [] Tryz.prog 173 [X.p,kp ids,.agg (stC s)] (Hr X a++Hk ids k) (zaE V X ids k o w'):=by
 have hB:=hP.hB;have hok:Okk B g N s.at_ (lvl k) (goS B s a.w k):=⟨zmu hB hk.fr hk.ok,zgV hk.d (zfe B (t:=.go k s) (zc4 hk.ok.b) a.w),_,hk.p,zjE zcp B s a.w k⟩;have hr0:brun B (n+1) (.go k s) a.w=some (o,w'):=h;have hne:∀{ids:List Nat},∃v H',zaE V X ids k o w' v H':=fun {ids}=>zcU (V:=V) (X:=X) (k:=k) (ids:=ids) (a:=a) hr0 ha.codes ha.ae;have hwd:=fun ids=>za8 V X ids k o w';cases k with
 |nil=>exact hk.ok.b.elim
 |cons f k=>
  have hfm:FOk g N (a.w.p+0) f:=hk.ok.k f aE;have hb:KB (f::k):=hk.ok.b;by_cases ht:thru f=true
  ·-- a row that is done
   obtain⟨x,i,rfl,hlen⟩:=zg7 ht;have e0:goS B s a.w (.cat x i::k)=.last (.go k s) a.w:=by
    show catS x i s k a.w=_
    unfold catS;rw[List.getElem?_eq_none hlen]
   rw[e0] at h hok;rw[zaw] at h;rw[szK,af ht] at hl;rw[zms ht];refine(CtR.go (k:=k) ⟨hP,low,hl⟩ (au n) ha htd hok.ask h (G:=[]) (ar _)).mono fun v H' ⟨a',G',q1,q2,q3,q4,q5,q6,q7⟩=>⟨a',G',q1,q2,q3,q4,q5,fun j hj=>by rw[q6 j hj,zfE ht],by rw[zms ht];exact q7⟩
  have ht:thru f=false:=by simpa using ht
  rw[szK,ac (by simp[ht])] at hl;cases ids with
  |nil=>cases hl
  |cons b ids=>
  have hl:ids.length=szK k:=by simpa using hl
  have c:CtR V X B g N n k ids:=⟨hP,low,hl⟩;rw[zcn (by simp[ht])];refine TrG.pre zcM ?_;cases f with
  |cat x i=>
   have hi:i<x.l.length:=Nat.lt_of_not_le (fun hh=>by rw[show thru (.cat x i)=true from aA hh] at ht;cases ht)
   exact c.catGo hi ha htd hok h b (G:=[]) (ar _)
  |turn x many fr=>
   obtain⟨h1,h2,h3,h4,h5,h6⟩:=hfm;have hh:(if many≥x.min∧s.at_=fr then Tm.ret (.no,a.w) else .last (.turn x (many+1) s k) a.w).eval (brun B n)=some (o,w'):=h
   have hc:Okk B g N s.at_ (lvl k) (if many≥x.min∧s.at_=fr then Tm.ret (.no,a.w) else .last (.turn x (many+1) s k) a.w):=hok
   have hp2:a.w.r≤80000:=zje hP hk.fr;refine goOn_turn X x many fr s b (ids.headD 0) _ _ hne (fun hcc=>?_) (fun hcc=>?_)
   ·rw[af hcc] at hh
    have:=zat hh;cases this;exact no_R ha htd (G:=[]) (by rw[zcn (by simp[ht])];exact zcM.symm)
   ·rw[ac hcc] at hh hc
    rw[zaw] at hh;have hm:=hc.ask.ok.x;have hw:IntKind.i64.wrap (many+1)=many+1:=zap ⟨by omega,by have:=hk.p;omega⟩
    rw[hw];exact(c.turnW (au n) ha htd hc.ask hh (G:=[blkF b ids (.turn x many fr)]) (ar _)).mono fun v H' ⟨H1,k1,k2⟩=>zaE.push (G:=[]) ht (fun _ _=>rfl) k1 k2
  |group x fr=>
   have hx:=hfm.1;have hn:=hx.shape.2.2.2.1 (.inl hfm.2.1);have g9:=hB.g9;have hh:(Tm.last (.go k {s with caps:=s.caps.set x.n.toNat (fr,s.at_)}) a.w).eval (brun B n)=some (o,w'):=h
   have hc:Okk B g N s.at_ (lvl k) (Tm.last (.go k {s with caps:=s.caps.set x.n.toNat (fr,s.at_)}) a.w):=hok
   rw[zaw] at hh;exact goOn_group X x.n fr ⟨hn.1,by omega⟩ s hk.ok.s.len b (ids.headD 0) _ _ (hwd _) hne ((c.goW (au n) ha htd hc.ask hh (G:=[blkF b ids (.group x fr)]) (ar _)).mono fun v H' ⟨H1,k1,k2⟩=>zaE.push (G:=[]) ht (fun _ _=>rfl) k1 k2)
  |call o0=>
   have hh:(Tm.last (.go k {o0 with at_:=s.at_}) a.w).eval (brun B n)=some (o,w'):=h
   have hc:Okk B g N s.at_ (lvl k+1) (Tm.last (.go k {o0 with at_:=s.at_}) a.w):=hok
   rw[zaw] at hh;have hro:=zhT hB n _ _ _ _ hc.ask.fr hc.ask.ok hh;exact goOn_call X o0 s b (ids.headD 0) _ _ (hwd _) hne ((c.goW (au n) ha htd hc.ask hh (G:=[blkF b ids (.call o0)]) (ar _)).mono fun v H' ⟨H1,k1,k2⟩=>zaE.push (G:=[]) ht (fun j hj=>by
    have:=hro.cut j hj;simp only[Task.k] at this
    show(if j=lvl k+1 then _ else bid ids k j)=_
    rw[ac (by omega)]) k1 k2)
  |stop want=>
   have hk0:=zmS hb I;subst hk0;have hh:(if want≥0∧want≠s.at_ then Tm.ret (.no,a.w) else Tm.ret (.yes s,a.w)).eval (brun B n)=some (o,w'):=h
   refine goOn_stop X a want s b (Hk ids []) _ (fun hc=>?_) (fun hc=>?_)
   ·rw[af hc] at hh
    have:=zat hh;cases this;exact no_R ha htd (G:=[]) (by rw[zcn (by simp[ht])];exact zcM.symm)
   ·rw[ac hc] at hh
    have:=zat hh;cases this;exact⟨{a with fd:=s},[],I,⟨ha.g,ha.codes,ha.ae⟩,I,⟨fun e=>(by rw[show({a with fd:=s}:RS).td=a.td from rfl,htd] at e;cases e),fun e=>(by cases e)⟩,fun e he=>(by cases he;rfl),fun j hj=>(by cases hj),by rw[zcn (by simp[ht])];exact zcM.symm⟩
  |fin=>
   have hk0:=zmS hb I;subst hk0;have hh:(if B.stop (a.w.acc++[s.at_])=true then Tm.ret (.yes s,accW s.at_ a.w) else Tm.ret (.no,accW s.at_ a.w)).eval (brun B n)=some (o,w'):=h
   have hN:=hP.hN;have hsN:=hP.sN;have hst:=hP.stop a.w.acc s.at_;have hr:=zje hP hk.fr;have hacc:a.w.acc.length≤1000000:=by
    have hd:=hk.d;rw[show(Task.go [Fm.fin] s).wt=1 from rfl] at hd
    unfold Wk.d at hd;omega
   have hs0:=hk.ok.s.at0;have hs1:=hk.ok.s.atN;have hyes:∀hst:B.stop (a.w.acc++[s.at_])=true,zaE V X (b::ids) [.fin] o w' (i64 1) (blkF b ids .fin::(Hr X {a with w:=accW s.at_ a.w,fd:=s}++Hk ids [])):=fun hst=>by
    rw[af hst] at hh;have:=zat hh;cases this;exact⟨{a with w:=accW s.at_ a.w,fd:=s},[],I,⟨ha.g,ha.codes,ha.ae⟩,I,⟨fun e=>(by rw[show({a with w:=accW s.at_ a.w,fd:=s}:RS).td=a.td from rfl,htd] at e;cases e),fun e=>(by cases e)⟩,fun e he=>(by cases he;rfl),fun j hj=>(by cases hj),by rw[zcn (by simp[ht])];exact zcM.symm⟩
   have hno:∀hst:¬B.stop (a.w.acc++[s.at_])=true,zaE V X (b::ids) [.fin] o w' (i64 0) (blkF b ids .fin::(Hr X {a with w:=accW s.at_ a.w}++Hk ids [])):=fun hst=>by
    rw[ac hst] at hh;have:=zat hh;cases this;exact⟨{a with w:=accW s.at_ a.w},[],I,⟨ha.g,ha.codes,ha.ae⟩,I,⟨fun e=>(by rw[show({a with w:=accW s.at_ a.w}:RS).td=a.td from rfl,htd] at e;cases e),fun e=>(by cases e)⟩,fun e he=>(by cases he),fun j hj=>(by cases hj),by rw[zcn (by simp[ht])];exact zcM.symm⟩
   obtain⟨m,al,en,x,fl,ss,row,most,whole⟩:=X;have hsN:ss.length=N:=hsN;cases en with
   |none=>
    exact goOn_fin0 m al x fl ss row most whole a s b _ _ (hyes (by rw[hst];rfl))
   |some e=>
    exact goOn_fin1 m al e x fl ss (hsN▸hN) row most whole a hacc s ⟨hs0,hsN.symm▸hs1⟩ b _ _ (fun q=>hyes (by rw[hst];exact q)) (fun q=>hno (by rw[hst,q];simp))
end
section
variable{V:Alk}{X:Rt}{B:Bk}{g:Int}{N n:Nat}{k:List Fm}{ids:List Nat}{a:RS}{s:Sg}{o:BOut}{w':Wk}{xn mn mx:Int}{nm:List UInt8}{st:List (Int×Int)}{l:List Pat}
abbrev TryR(V:Alk)(X:Rt)(ids:List Nat)(k:List Fm)(a:RS)(x:Pat)(s:Sg)(o:BOut)(w':Wk):Prop:=
 TrG [] Tryz.prog 124 [X.p,.agg x.C,.agg (stC s),kp ids] (Hr X a++Hk ids k) (zaE V X ids k o w')
structure NodR(V:Alk)(X:Rt)(B:Bk)(g:Int)(N n:Nat)(k:List Fm)(ids:List Nat)(a:RS)(x:Pat)(s:Sg)(o:BOut)(w':Wk):Prop where
 hp:a.w.r≤1000000
 ha:RM V X a
 htd:a.td=false
 hk:RTok B g N (.try_ x s k) a.w
 tired:a.w.r+1>80000→zaE V X ids k o w' (i64 0) (Hr X (zai a)++Hk ids k)
 node:¬a.w.r+1>80000→(zaF B x s k (tick a.w)).eval (brun B n)=some (o,w')
 ok:¬a.w.r+1>80000→Okk B g N s.at_ (lvl k) (zaF B x s k (tick a.w))
 ne:∃v H',zaE V X ids k o w' v H'
theorem NodR.td{x:Pat}(d:NodR V X B g N n k ids a x s o w')(hq:¬a.w.r+1>80000):(zai a).td=false:=aG hq
theorem NodR.rm{x:Pat}(d:NodR V X B g N n k ids a x s o w'):RM V X (zai a):=⟨d.ha.g,d.ha.codes,d.ha.ae⟩
theorem zsq(c:CtR V X B g N n k ids)(ha:RM V X a)(htd:a.td=false){x:Pat}(hk:RTok B g N (.try_ x s k) a.w)(h:brun B (n+1) (.try_ x s k) a.w=some (o,w')):NodR V X B g N n k ids a x s o w':=by
 have hτ:B.tau (a.w.p+1) (a.w.r+1)=decide (a.w.r+1>80000):=by rw[c.hP.tau];rfl
 have hb:(if B.tau (a.w.p+1) (a.w.r+1)=true then Tm.ret (.tired,tick a.w) else zaF B x s k (tick a.w)).eval (brun B n)=some (o,w'):=h
 have hr:=zje c.hP hk.fr;refine⟨by omega,ha,htd,hk,fun hq=>?_,fun hq=>?_,fun hq=>?_,zcU h ha.codes ha.ae⟩
 ·rw[hτ,af (aA hq)] at hb
  have:=zat hb;cases this;exact⟨zai a,[],I,⟨ha.g,ha.codes,ha.ae⟩,I,⟨fun _=>rfl,fun _=>aA hq⟩,fun e he=>(by cases he),fun j hj=>(by cases hj),.refl _⟩
 ·rw[hτ,ac (by rw[aL];exact hq)] at hb
  exact hb
 ·refine⟨zgS c.hP.hB (show B.tau (a.w.p+1) (a.w.r+1)=false by rw[hτ];exact aG hq) hk.ok.x hk.ok.s hk.ok.k hk.ok.b hk.ok.gb,?_,a.w,hk.p,zb9 zcp B x s k (zgR a.w) (zfa a.w)⟩
  have:=zgV hk.d (zfe B (t:=.try_ x s k) (zc4 hk.ok.b) a.w);simp only[runS] at this;rw[hτ,ac (by rw[aL];exact hq)] at this;exact this
theorem zkb(c:CtR V X B g N n k ids){s':Sg}{x:Pat}(d:NodR V X B g N n k ids a x s o w')(hn:zaF B x s k (tick a.w)=.last (.go k s') (tick a.w))(hq:¬a.w.r+1>80000):
  TrG [] Tryz.prog 173 [X.p,kp ids,.agg (stC s')] (Hr X (zai a)++Hk ids k) (zaE V X ids k o w'):=by
 have h:=d.node hq;have hk:=d.ok hq;rw[hn] at h hk;rw[zaw] at h;exact c.go (au n) d.rm (d.td hq) hk.ask h (G:=[]) (ar _)
theorem zqL(c:CtR V X B g N n k ids)(d:NodR V X B g N n k ids a (.mk 0 xn mn mx nm st l) s o w'):TryR V X ids k a (.mk 0 xn mn mx nm st l) s o w':=
 rtry_empty X a d.hp d.htd xn mn mx nm st s (ids.headD 0) _ _ l d.tired (zkb c d I)
theorem znF(c:CtR V X B g N n k ids)(d:NodR V X B g N n k ids a (.mk 18 xn mn mx nm st l) s o w'):TryR V X ids k a (.mk 18 xn mn mx nm st l) s o w':=
 rtry_keep X a d.hp d.htd xn mn mx nm st s (ids.headD 0) _ _ l (za8 ..) d.tired (zkb c d (s':={s with keep:=s.at_}) I)
theorem zhg{x:Pat}(d:NodR V X B g N n k ids a x s o w'){w1:Wk}(hn:zaF B x s k (tick a.w)=.ret (.no,w1))(hq:¬a.w.r+1>80000){a1:RS}(hw:a1.w=w1)(ha:RM V X a1)(ht:a1.td=false){H G:Heap}(hp:H.Perm (G++(Hr X a1++Hk ids k))):zaE V X ids k o w' (i64 0) H:=by
 have h:=d.node hq;rw[hn] at h;have:=zat h;cases this;subst hw;exact no_R ha ht hp
theorem zg2(c:CtR V X B g N n k ids){x:Pat}{s':Sg}{w1:Wk}(d:NodR V X B g N n k ids a x s o w')(hn:zaF B x s k (tick a.w)=.last (.go k s') w1)(hq:¬a.w.r+1>80000){a1:RS}(hw:a1.w=w1)(ha:RM V X a1)(ht:a1.td=false){H G:Heap}(hp:H.Perm (G++(Hr X a1++Hk ids k))):
  TrG [] Tryz.prog 173 [X.p,kp ids,.agg (stC s')] H (zaE V X ids k o w'):=by
 have h:=d.node hq;have hk:=d.ok hq;rw[hn] at h hk;rw[zaw] at h;subst hw;exact c.go (au n) ha ht hk.ask h hp
theorem zeM(c:CtR V X B g N n k ids){K:Int}(hK:K=1∨K=2∨K=3)(d:NodR V X B g N n k ids a (.mk K xn mn mx nm st l) s o w'):TryR V X ids k a (.mk K xn mn mx nm st l) s o w':=by
 have hs:=d.hk.ok.s;have hs0:0≤s.at_:=hs.at0;have hs1:s.at_≤N:=hs.atN;have hN:=c.hP.hN;have hn:zaF B (.mk K xn mn mx nm st l) s k (tick a.w)=if B.takes (.mk K xn mn mx nm st l) s.at_=true then .last (.go k {s with at_:=s.at_+1}) (tick a.w) else .ret (.no,tick a.w):=by
  unfold zaF;rw[af (show(Pat.mk K xn mn mx nm st l).op=1∨(Pat.mk K xn mn mx nm st l).op=2∨(Pat.mk K xn mn mx nm st l).op=3 from hK)]
 have hc:¬a.w.r+1>80000→TrG [] Tryz.prog 172 [X.p,.agg (Pat.mk K xn mn mx nm st l).C,i64 s.at_] (Hr X (zai a)) fun v H'=>∃t:Bool,v=.bool t∧(t=B.takes (.mk K xn mn mx nm st l) s.at_∧¬a.w.r+1>80000∧∃ae',V.ok ae'∧H'=Hr X {zai a with ae:=ae'}):=fun hq=>
  (c.hP.takes (zai a) _ s.at_ d.ha.ae d.hk.ok.x hK hs.at0 hs.atN).mono fun v H' ⟨h1,h2⟩=>⟨_,h1,I,hq,h2⟩
 have h0:∀H',(false=B.takes (.mk K xn mn mx nm st l) s.at_∧¬a.w.r+1>80000∧∃ae',V.ok ae'∧H'=Hr X {zai a with ae:=ae'})→zaE V X ids k o w' (i64 0) (H'++Hk ids k):=fun H' ⟨h1,hq,ae',h2,h3⟩=>by
  subst h3;exact zhg d (hn.trans (ac (by rw[←h1];simp))) hq (a1:={zai a with ae:=ae'}) I ⟨d.ha.g,d.ha.codes,h2⟩ (d.td hq) (G:=[]) (ar _)
 have h1:∀H',(true=B.takes (.mk K xn mn mx nm st l) s.at_∧¬a.w.r+1>80000∧∃ae',V.ok ae'∧H'=Hr X {zai a with ae:=ae'})→TrG [] Tryz.prog 173 [X.p,kp ids,.agg (stC {s with at_:=IntKind.i64.wrap (s.at_+1)})] (H'++Hk ids k) (zaE V X ids k o w'):=fun H' ⟨h1,hq,ae',h2,h3⟩=>by
  subst h3;rw[show IntKind.i64.wrap (s.at_+1)=s.at_+1 from zap ⟨by omega,by omega⟩]
  exact zg2 c d (hn.trans (af h1.symm)) hq (a1:={zai a with ae:=ae'}) I ⟨d.ha.g,d.ha.codes,h2⟩ (d.td hq) (G:=[]) (ar _)
 rcases hK with rfl|rfl|rfl
 ·exact rtry_c1 X a d.hp d.htd xn mn mx nm st s (ids.headD 0) _ _ l (za8 ..) d.tired _ hc h0 h1
 ·exact rtry_c2 X a d.hp d.htd xn mn mx nm st s (ids.headD 0) _ _ l (za8 ..) d.tired _ hc h0 h1
 ·exact rtry_c3 X a d.hp d.htd xn mn mx nm st s (ids.headD 0) _ _ l (za8 ..) d.tired _ hc h0 h1
theorem zeI(c:CtR V X B g N n k ids){K:Int}(hK:K=11∨K=12∨K=13)(d:NodR V X B g N n k ids a (.mk K xn mn mx nm st l) s o w'):TryR V X ids k a (.mk K xn mn mx nm st l) s o w':=by
 have hs:=d.hk.ok.s;have hn:zaF B (.mk K xn mn mx nm st l) s k (tick a.w)=if B.holds (.mk K xn mn mx nm st l) s.at_=true then .last (.go k s) (tick a.w) else .ret (.no,tick a.w):=by
  rcases hK with rfl|rfl|rfl<;>rfl
 have hc:¬a.w.r+1>80000→TrG [] Tryz.prog 178 [X.p,.agg (Pat.mk K xn mn mx nm st l).C,i64 s.at_] (Hr X (zai a)) fun v H'=>∃t:Bool,v=.bool t∧(t=B.holds (.mk K xn mn mx nm st l) s.at_∧¬a.w.r+1>80000∧H'=Hr X (zai a)):=fun hq=>
  (c.hP.holds (zai a) _ s.at_ d.hk.ok.x hK hs.at0 hs.atN).mono fun v H' ⟨h1,h2⟩=>⟨_,h1,I,hq,h2⟩
 have h0:∀H',(false=B.holds (.mk K xn mn mx nm st l) s.at_∧¬a.w.r+1>80000∧H'=Hr X (zai a))→zaE V X ids k o w' (i64 0) (H'++Hk ids k):=fun H' ⟨h1,hq,h3⟩=>by
  subst h3;exact zhg d (hn.trans (ac (by rw[←h1];simp))) hq (a1:=zai a) I d.rm (d.td hq) (G:=[]) (ar _)
 have h1:∀H',(true=B.holds (.mk K xn mn mx nm st l) s.at_∧¬a.w.r+1>80000∧H'=Hr X (zai a))→TrG [] Tryz.prog 173 [X.p,kp ids,.agg (stC s)] (H'++Hk ids k) (zaE V X ids k o w'):=fun H' ⟨h1,hq,h3⟩=>by
  subst h3;exact zg2 c d (hn.trans (af h1.symm)) hq (a1:=zai a) I d.rm (d.td hq) (G:=[]) (ar _)
 rcases hK with rfl|rfl|rfl
 ·exact rtry_h11 X a d.hp d.htd xn mn mx nm st s (ids.headD 0) _ _ l d.tired _ hc h0 h1
 ·exact rtry_h12 X a d.hp d.htd xn mn mx nm st s (ids.headD 0) _ _ l d.tired _ hc h0 h1
 ·exact rtry_h13 X a d.hp d.htd xn mn mx nm st s (ids.headD 0) _ _ l d.tired _ hc h0 h1
theorem zoF(c:CtR V X B g N n k ids)(d:NodR V X B g N n k ids a (.mk 10 xn mn mx nm st l) s o w'):TryR V X ids k a (.mk 10 xn mn mx nm st l) s o w':=by
 have hs:SOk N s:=d.hk.ok.s;have hs0:0≤s.at_:=hs.at0;have hs1:s.at_≤N:=hs.atN;have hN:=c.hP.hN;have hx:Vd g (.mk 10 xn mn mx nm st l):=d.hk.ok.x;have hnn:=hx.shape.2.2.2.1 (.inr (.inl I));have hn9:1≤xn∧xn≤9:=⟨hnn.1,bm hnn.2 c.hP.hB.g9⟩;have hcap:=hs.cap _ (zj4 hs xn (by omega) hn9.2);have hlt:=c.hP.hB.copied (capN s xn) s.at_ hs0 hs1 hcap;have hn:zaF B (.mk 10 xn mn mx nm st l) s k (tick a.w)=if B.copied (capN s xn) s.at_<0 then .ret (.no,tick a.w) else .last (.go k {s with at_:=s.at_+B.copied (capN s xn) s.at_}) (tick a.w):=rfl
 refine rtry_back X a d.hp d.htd xn mn mx nm st s (ids.headD 0) _ _ l (za8 ..) d.tired (fun m H'=>m=B.copied (capN s xn) s.at_∧¬a.w.r+1>80000∧∃G,H'=G++Hr X (zai a)) (fun hq=>?_) (fun m H' hm hr=>?_) (fun m H' hm hr=>?_)
 ·exact(c.hP.copied (zai a) s xn hs hn9.1 hn9.2).mono fun v H' ⟨h1,h2⟩=>⟨_,h1,I,hq,h2⟩
 ·obtain⟨rfl,hq,G,rfl⟩:=hr
  exact zhg d (hn.trans (af hm)) hq (a1:=zai a) I d.rm (d.td hq) (G:=G) (by rw[aI])
 ·obtain⟨rfl,hq,G,rfl⟩:=hr
  rw[show IntKind.i64.wrap (s.at_+B.copied (capN s xn) s.at_)=s.at_+B.copied (capN s xn) s.at_ from zap ⟨by omega,by omega⟩]
  exact zg2 c d (hn.trans (ac hm)) hq (a1:=zai a) I d.rm (d.td hq) (G:=G) (by rw[aI])
theorem zom{y z:Pat}(c:CtR V X B g N n k ids)(d:NodR V X B g N n k ids a (.mk 15 xn mn mx nm st [y,z]) s o w'):TryR V X ids k a (.mk 15 xn mn mx nm st [y,z]) s o w':=by
 have hx:Vd g (.mk 15 xn mn mx nm st [y,z]):=d.hk.ok.x;have hnn:=hx.shape.2.2.2.1 (.inr (.inr I));have hn9:1≤xn∧xn≤9:=⟨hnn.1,bm hnn.2 c.hP.hB.g9⟩;have hn:zaF B (.mk 15 xn mn mx nm st [y,z]) s k (tick a.w)=if (zaI s.caps xn.toNat).1≥0 then .last (.try_ y s k) (tick a.w) else .last (.try_ z s k) (tick a.w):=rfl
 refine rtry_cond X a d.hp d.htd xn mn mx nm st s (ids.headD 0) _ _ y z (za8 ..) hn9 d.ne d.tired (fun hq hc=>?_) (fun hq hc=>?_)
 ·have h:=d.node hq
  have hk:=d.ok hq;rw[hn,af hc] at h hk;rw[zaw] at h;exact c.try0 (au n) d.rm (d.td hq) hk.ask h (G:=[]) (ar _)
 ·have h:=d.node hq
  have hk:=d.ok hq;rw[hn,ac hc] at h hk;rw[zaw] at h;exact c.try0 (au n) d.rm (d.td hq) hk.ask h (G:=[]) (ar _)
theorem zpU{y:Pat}(c:CtR V X B g N n k ids)(d:NodR V X B g N n k ids a (.mk 7 xn mn mx nm st [y]) s o w'):TryR V X ids k a (.mk 7 xn mn mx nm st [y]) s o w':=by
 have hn:zaF B (.mk 7 xn mn mx nm st [y]) s k (tick a.w)=.last (.try_ y s (.group (.mk 7 xn mn mx nm st [y]) s.at_::k)) (tick a.w):=rfl;refine rtry_group X a d.hp d.htd xn mn mx nm st s (ids.headD 0) _ _ y d.tired d.ne fun hq b=>?_;have h:=d.node hq;have hk:=d.ok hq;rw[hn] at h hk;rw[zaw] at h;exact c.tryF (au n) I (fun _ _=>rfl) d.rm (d.td hq) hk.ask h (G:=[]) b (ar _)
theorem zq4(c:CtR V X B g N n k ids)(d:NodR V X B g N n k ids a (.mk 4 xn mn mx nm st l) s o w'):TryR V X ids k a (.mk 4 xn mn mx nm st l) s o w':=by
 have hx:Vd g (.mk 4 xn mn mx nm st l):=d.hk.ok.x;have hl2:2≤l.length:=(hx.shape.1 (.inl I)).1;have hi:0<(Pat.mk 4 xn mn mx nm st l).l.length:=by show 0<l.length;omega
 have hn:zaF B (.mk 4 xn mn mx nm st l) s k (tick a.w)=catS (.mk 4 xn mn mx nm st l) 0 s k (tick a.w):=rfl;refine rtry_cat X a d.hp d.htd xn mn mx nm st s (ids.headD 0) _ _ l d.tired fun hq b=>?_;have h:=d.node hq;have hk:=d.ok hq;rw[hn] at h hk;have ht:thru (.cat (.mk 4 xn mn mx nm st l) 0)=false:=aG (by omega);exact(c.catGo hi d.rm (d.td hq) hk h (G:=[]) b (ar _)).mono fun v H' hp=>zaE.pop ht (fun j=>zew (by simp[ht])) hp
theorem znT(c:CtR V X B g N n k ids)(d:NodR V X B g N n k ids a (.mk 17 xn mn mx nm st l) s o w'):TryR V X ids k a (.mk 17 xn mn mx nm st l) s o w':=by
 have hx:Vd g (.mk 17 xn mn mx nm st l):=d.hk.ok.x;have hn9:0≤xn∧xn≤9:=hx.shape.2.2.2.2.2.2.1 I;have hbit:=c.hP.bit xn hn9.1 hn9.2;have hw:zdh xn (tick a.w)=zbB (.mk 17 xn mn mx nm st l) (tick a.w):=rfl;have hn:zaF B (.mk 17 xn mn mx nm st l) s k (tick a.w)=if B.bit xn=true then .last (.go k s) (zdh xn (tick a.w)) else .ret (.no,zdh xn (tick a.w)):=rfl
 have hcl:(zdh xn (tick a.w)).codes.length≤100:=by
  have:=d.ha.codes;unfold zdh;split
  ·show(a.w.codes++[xn]).length≤100
   have h1:(tick a.w).codes.length<100:=by assumption
   have h1:a.w.codes.length<100:=h1;rw[aT,bc];omega
  ·exact this
 have hg':∀g':Option Nat,(g'=none→(zdh xn a.w).codes=[])→g'=none→(zdh xn (tick a.w)).codes=[]:=fun g' h e=>by
  have h:=h e;unfold zdh at h ⊢
  show(if a.w.codes.length<100 then ({tick a.w with codes:=a.w.codes++[xn]}:Wk) else tick a.w).codes=[]
  by_cases hl:a.w.codes.length<100
  ·rw[af hl] at h ⊢;exact h
  ·rw[ac hl] at h ⊢;exact h
 refine rtry_code X a d.hp d.htd xn mn mx nm st s (ids.headD 0) _ _ l (za8 ..) hn9 d.ha.g d.tired (fun hq hb g' hg=>?_) (fun hq hb g' H' hg hp=>?_)
 ·exact zhg d (by rw[hn,hbit,hb];rfl) hq (a1:={a with w:=zdh xn (tick a.w),cg:=g'}) I ⟨hg' g' hg,hcl,d.ha.ae⟩ d.htd (G:=[]) (ar _)
 ·exact zg2 c d (by rw[hn,hbit,hb];rfl) hq (a1:={a with w:=zdh xn (tick a.w),cg:=g'}) I ⟨hg' g' hg,hcl,d.ha.ae⟩ d.htd (G:=[]) hp
end
section
variable{V:Alk}{X:Rt}{B:Bk}{g:Int}{N n:Nat}{k:List Fm}{ids:List Nat}{a:RS}{s:Sg}{o:BOut}{w':Wk}{xn mn mx:Int}{nm:List UInt8}{st:List (Int×Int)}{l:List Pat}
def zdb(V:Alk)(X:Rt)(ids:List Nat)(k:List Fm)(o1:BOut)(w1:Wk)(m:Int)(a1:RS)(H1:Heap):Prop:=
 m=outR o1∧a1.w=w1∧RM V X a1∧(a1.td=true↔o1=.tired)∧(∀e,o1=.yes e→a1.fd=e)∧∃G,H1.Perm (G++Hk ids k)
theorem zh6{b:Nat}{want:Int}{o1:BOut}{w1:Wk}{G0:Heap}{v:A}{H' H1:Heap}(h:zaE V X [b] [.stop want] o1 w1 v H1)(hp:H'.Perm ((G0++Hk ids k)++H1)):MidA X (zdb V X ids k o1 w1) v H':=by
 obtain⟨a',G,h1,h2,h3,h4,h5,h6,h7⟩:=h;refine⟨outR o1,a',G0++(G++Hk [b] [.stop want])++Hk ids k,h3,⟨I,h1,h2,h4,h5,_,.refl _⟩,hp.trans ((h7.append_left _).trans ?_)⟩
 -- (G0++K)++(G++(R++S)) ~ R++(G0++(G++S)++K)
 generalize Hr X a'=R
 generalize Hk [b] [.stop want]=S
 generalize Hk ids k=K
 have e1:(G++(R++S)).Perm (R++(G++S)):=zb3;refine(e1.append_left _).trans ?_;refine(zb3 (A:=G0++K) (B:=R) (C:=G++S)).trans (List.Perm.append_left R ?_)
 rw[aI,aI];exact List.perm_append_comm.append_left G0
theorem zij(c:CtR V X B g N n k ids){t:Task}{want:Int}(htk:t.k=[.stop want]){a1:RS}{o1:BOut}{w1:Wk}(ha:RM V X a1)(ht:a1.td=false)(hk:RTok B g N t a1.w)(hr:brun B n t a1.w=some (o1,w1))(b:Nat):ConR V X t [b] a1 o1 w1:=
 c.low n (au n) t [b] a1 o1 w1 hk ha ht (by rw[htk];rfl) hr
theorem zjF(c:CtR V X B g N n k ids){want:Int}{y:Pat}{a1:RS}{o1:BOut}{w1:Wk}(ha:RM V X a1)(ht:a1.td=false)(hk:RTok B g N (.try_ y s [.stop want]) a1.w)(hr:brun B n (.try_ y s [.stop want]) a1.w=some (o1,w1))(b:Nat){H G:Heap}(hp:H.Perm (G++(Hr X a1++Hk ids k))):
  TrG [] Tryz.prog 124 [X.p,.agg y.C,.agg (stC s),.ptr b 34 0 0] ((b,.row 171 34 [fmC 5 zP 0 want zSt .nilp])::H) (MidA X (zdb V X ids k o1 w1)):=by
 have h:TrG [] Tryz.prog 124 [X.p,.agg y.C,.agg (stC s),.ptr b 34 0 0] (Hr X a1++[(b,.row 171 34 [fmC 5 zP 0 want zSt .nilp])]) (zaE V X [b] [.stop want] o1 w1):=zij c I ha ht hk hr b;have hp2:((b,.row 171 34 [fmC 5 zP 0 want zSt .nilp])::H).Perm ((G++Hk ids k)++(Hr X a1++[(b,.row 171 34 [fmC 5 zP 0 want zSt .nilp])])):=by
  refine(hp.cons _).trans ?_;refine cX ?_ (.of_eq (aI _ _ _));refine cX ?_ (aN (l₁:=[(b,Blk.row 171 34 [fmC 5 zP 0 want zSt .nilp])]));refine cY _ ?_;rw[aI];exact List.perm_append_comm.append_left G
 exact(TrG.wide hp2 h).mono fun v H' ⟨H1,k1,k2⟩=>zh6 k1 k2
theorem zht(c:CtR V X B g N n k ids){want:Int}{x:Pat}{a1:RS}{o1:BOut}{w1:Wk}(ha:RM V X a1)(ht:a1.td=false)(hk:RTok B g N (.turn x 0 s [.stop want]) a1.w)(hr:brun B n (.turn x 0 s [.stop want]) a1.w=some (o1,w1))(b:Nat){H G:Heap}(hp:H.Perm (G++(Hr X a1++Hk ids k))):
  TrG [] Tryz.prog 175 [X.p,.agg x.C,i64 0,.agg (stC s),.ptr b 34 0 0] ((b,.row 171 34 [fmC 5 zP 0 want zSt .nilp])::H) (MidA X (zdb V X ids k o1 w1)):=by
 have h:TrG [] Tryz.prog 175 [X.p,.agg x.C,i64 0,.agg (stC s),.ptr b 34 0 0] (Hr X a1++[(b,.row 171 34 [fmC 5 zP 0 want zSt .nilp])]) (zaE V X [b] [.stop want] o1 w1):=zij c I ha ht hk hr b;have hp2:((b,.row 171 34 [fmC 5 zP 0 want zSt .nilp])::H).Perm ((G++Hk ids k)++(Hr X a1++[(b,.row 171 34 [fmC 5 zP 0 want zSt .nilp])])):=by
  refine(hp.cons _).trans ?_;refine cX ?_ (.of_eq (aI _ _ _));refine cX ?_ (aN (l₁:=[(b,Blk.row 171 34 [fmC 5 zP 0 want zSt .nilp])]));refine cY _ ?_;rw[aI];exact List.perm_append_comm.append_left G
 exact(TrG.wide hp2 h).mono fun v H' ⟨H1,k1,k2⟩=>zh6 k1 k2
theorem zfq{o1:BOut}{w1:Wk}{m:Int}{a1:RS}{H1:Heap}(h:zdb V X ids k o1 w1 m a1 H1)(hm:m=1):∃e,o1=.yes e∧a1.fd=e∧a1.td=false:=by
 obtain⟨h1,h2,h3,h4,h5,_⟩:=h;cases o1 with
 |yes e=>
  refine⟨e,I,h5 e I,?_⟩;cases q:a1.td with
  |false=>rfl
  |true=>have:=h4.1 q;cases this
 |no=>rw[hm] at h1;cases h1
 |tired=>rw[hm] at h1;cases h1
 |cut j=>rw[hm] at h1;cases h1
theorem zjq(c:CtR V X B g N n k ids){x:Pat}{o1:BOut}{w1:Wk}
  (hth:(thenS k s (o1,w1)).eval (brun B n)=some (o,w')) (hok:Okk B g N s.at_ (lvl k) (thenS k s (o1,w1))) {H:Heap}
  (h:∀b,(x.op=6→TrG [] Tryz.prog 175 [X.p,.agg x.C,i64 0,.agg (stC s),.ptr b 34 0 0] ((b,.row 171 34 [fmC 5 zP 0 (-1) zSt .nilp])::H) (MidA X (zdb V X ids k o1 w1)))∧
   (x.op≠6→TrG [] Tryz.prog 124 [X.p,.agg x.C,.agg (stC s),.ptr b 34 0 0] ((b,.row 171 34 [fmC 5 zP 0 (-1) zSt .nilp])::H) (MidA X (zdb V X ids k o1 w1)))):
  TrG [] Tryz.prog 174 [X.p,.agg x.C,.agg (stC s),kp ids] H (zaE V X ids k o w'):=by
 refine zmk X x s (ids.headD 0) H _ (za8 ..) (zdb V X ids k o1 w1) h (fun m a1 H1 H' hb hm hp=>?_) (fun a1 H1 hb=>?_)
 ·obtain⟨h1,h2,h3,h4,h5,G,h7⟩:=hb
  have hpp:=hp.trans ((h7.append_left _).trans zb3);subst h2;cases o1 with
  |yes e=>exact absurd h1 hm
  |no=>
   have:=zat hth;cases this;exact⟨a1,G,I,h3,I,h4,fun e he=>(by cases he),fun j hj=>(by cases hj),hpp⟩
  |cut j=>
   have:=zat hth;cases this;have htd:a1.td=false:=by
    cases q:a1.td with
    |false=>rfl
    |true=>have:=h4.1 q;cases this
   exact no_R h3 htd hpp
  |tired=>
   have:=zat hth;cases this;exact⟨a1,G,I,h3,I,h4,fun e he=>(by cases he),fun j hj=>(by cases hj),hpp⟩
 ·obtain⟨e,rfl,hf,htd⟩:=zfq hb rfl
  obtain⟨h1,h2,h3,h4,h5,G,h7⟩:=hb;subst h2;have hth:(Tm.last (.go k {e with calls:=s.calls}) a1.w).eval (brun B n)=some (o,w'):=hth
  have hok:Okk B g N s.at_ (lvl k) (Tm.last (.go k {e with calls:=s.calls}) a1.w):=hok
  rw[zaw] at hth;rw[hf];exact c.go (au n) h3 htd hok.ask hth ((h7.append_left _).trans zb3)
theorem zqV(c:CtR V X B g N n k ids)(d:NodR V X B g N n k ids a (.mk 6 xn mn mx nm st l) s o w'):TryR V X ids k a (.mk 6 xn mn mx nm st l) s o w':=by
 by_cases h2:xn=2
 ·subst h2
  have hn:zaF B (.mk 6 2 mn mx nm st l) s k (tick a.w)=.ask (.turn (.mk 6 0 mn mx nm st l) 0 s [.stop (-1)]) (tick a.w) (thenS k s):=rfl;refine rtry_poss X a d.hp d.htd mn mx nm st s (ids.headD 0) _ _ l (za8 ..) d.tired fun hq=>?_;have h:=d.node hq;have hk:=d.ok hq;rw[hn] at h hk;obtain⟨o1,w1,h3,h4⟩:=zbg h;exact zjq c h4 (hk.next c.hP.hB h3) fun b=>⟨fun _=>zht c (a1:=zai a) d.rm (d.td hq) hk.ask h3 b (G:=[]) (ar _),fun hne=>absurd I hne⟩
 ·have hn:zaF B (.mk 6 xn mn mx nm st l) s k (tick a.w)=if xn=2 then .ask (.turn (zcE (.mk 6 xn mn mx nm st l)) 0 s [.stop (-1)]) (tick a.w) (thenS k s) else .last (.turn (.mk 6 xn mn mx nm st l) 0 s k) (tick a.w):=rfl
  refine rtry_rep X a d.hp d.htd xn mn mx nm st s (ids.headD 0) _ _ l d.tired h2 fun hq=>?_;have h:=d.node hq;have hk:=d.ok hq;rw[hn,ac h2] at h hk;rw[zaw] at h;exact c.turn (au n) (a1:=zai a) d.rm (d.td hq) hk.ask h (G:=[]) (ar _)
theorem zqz{y:Pat}(c:CtR V X B g N n k ids)(d:NodR V X B g N n k ids a (.mk 8 xn mn mx nm st [y]) s o w'):TryR V X ids k a (.mk 8 xn mn mx nm st [y]) s o w':=by
 have hn:zaF B (.mk 8 xn mn mx nm st [y]) s k (tick a.w)=if y.op=6 then
   (if B.tau ((tick a.w).p+1) (tick a.w).r=true then .ret (.tired,{tick a.w with p:=(tick a.w).p+1})
    else .ask (.turn y 0 s [.stop (-1)]) {tick a.w with p:=(tick a.w).p+1} (thenS k s))
   else .ask (.try_ y s [.stop (-1)]) (tick a.w) (thenS k s):=rfl
 refine rtry_atomic X a d.hp d.htd xn mn mx nm st s (ids.headD 0) _ _ y d.tired d.ne fun hq=>?_;have h:=d.node hq;have hk:=d.ok hq;rw[hn] at h hk;by_cases h6:y.op=6
 ·have hτ:¬B.tau ((tick a.w).p+1) (tick a.w).r=true:=by
   rw[c.hP.tau]
   show¬decide (a.w.r+1>80000)=true
   simpa using hq
  rw[af h6,ac hτ] at h hk;obtain⟨o1,w1,h3,h4⟩:=zbg h;refine zjq c h4 (hk.next c.hP.hB h3) fun b=>⟨fun _=>?_,fun hne=>absurd h6 hne⟩;exact zht c (a1:={zai a with w:={tick a.w with p:=(tick a.w).p+1}}) ⟨d.ha.g,d.ha.codes,d.ha.ae⟩ (d.td hq) hk.ask h3 b (G:=[]) (ar _)
 ·rw[ac h6] at h hk
  obtain⟨o1,w1,h3,h4⟩:=zbg h;exact zjq c h4 (hk.next c.hP.hB h3) fun b=>⟨fun e=>absurd e h6,fun _=>zjF c (a1:=zai a) d.rm (d.td hq) hk.ask h3 b (G:=[]) (ar _)⟩
end
section
variable{V:Alk}{X:Rt}{B:Bk}{g:Int}{N n:Nat}{k:List Fm}{ids:List Nat}{a:RS}{s:Sg}{o:BOut}{w':Wk}{xn mn mx:Int}{nm:List UInt8}{st:List (Int×Int)}{l:List Pat}
def AltR(V:Alk)(X:Rt)(B:Bk)(g:Int)(N n:Nat)(ids:List Nat)(k:List Fm)(s:Sg)(l:List Pat)(o:BOut)(w':Wk)(i:Nat)(H:Heap):Prop:=
 ∃a1 G m,m≤n∧RM V X a1∧a1.td=false∧RTok B g N (.alts (l.drop i) s k) a1.w∧brun B m (.alts (l.drop i) s k) a1.w=some (o,w')∧H.Perm (G++(Hr X a1++Hk ids k))
theorem notNo{o1:BOut}{w1:Wk}{m:Int}{a1:RS}{H1:Heap}(hb:Back V X ids k o1 w1 m a1 H1)(hor:m≠0∨a1.td=true):o1≠ .no:=fun e=>by
 subst e;obtain⟨e1,e2⟩:=zkc hb;rcases hor with hh|hh
 ·exact hh e1
 ·rw[e2] at hh;cases hh
theorem zqg(c:CtR V X B g N n k ids)(d:NodR V X B g N n k ids a (.mk 5 xn mn mx nm st l) s o w'):TryR V X ids k a (.mk 5 xn mn mx nm st l) s o w':=by
 have hx:Vd g (.mk 5 xn mn mx nm st l):=d.hk.ok.x;have hl2:l.length≤60:=(hx.shape.1 (.inr I)).2;have hn:zaF B (.mk 5 xn mn mx nm st l) s k (tick a.w)=.last (.alts l s k) (tick a.w):=rfl;have hB:=c.hP.hB;refine rtry_alts X a d.hp d.htd xn mn mx nm st s (ids.headD 0) _ _ l hl2 d.tired (AltR V X B g N n ids k s l o w') (fun hq=>?_) (fun i y H hy hA=>?_) (fun H hA=>?_)
 ·have h:=d.node hq
  have hk:=d.ok hq;rw[hn] at h hk;rw[zaw] at h;exact⟨zai a,[],n,au n,d.rm,d.td hq,hk.ask,h,.refl _⟩
 ·obtain⟨a1,G,m,hm,q1,q2,q3,q4,q5⟩:=hA
  rw[zaA hy] at q3 q4;cases m with
  |zero=>cases q4
  |succ m=>
   have hk:Okk B g N s.at_ (lvl k) (zl0 s k a1.w (y::l.drop (i+1))):=⟨zg3 q3.fr q3.ok,zgV q3.d (zfe B (t:=.alts (y::l.drop (i+1)) s k) (zc4 q3.ok.b) a1.w),_,q3.p,zgA zcp s k a1.w _⟩;have q4:(zl0 s k a1.w (y::l.drop (i+1))).eval (brun B m)=some (o,w'):=q4;obtain⟨o1,w1,h3,h4⟩:=zbg q4;have hT:=c.try0 (m:=m) (by omega) q1 q2 hk.ask h3 q5;obtain⟨v0,H0,hp0⟩:=zcU (V:=V) (X:=X) (k:=k) (ids:=ids) (a:=a1) h3 q1.codes q1.ae;refine⟨Back V X ids k o1 w1,⟨v0,H0,zbG hp0⟩,hT.mono fun v H' hp=>zbG hp,fun p a2 H1 hb=>⟨fun H' hp hor=>?_,fun hp0 ht2=>?_⟩⟩
   ·obtain⟨e1,e2⟩:=zhc (notNo hb hor) h4
    subst e1 e2;exact zdX hb hp
   ·have e:=ziI hb hp0 ht2
    subst e;obtain⟨_,h2,h3',_,_,_,G',h7⟩:=hb;subst h2;have hk2:Okk B g N s.at_ (lvl k) (Tm.last (.alts (l.drop (i+1)) s k) a2.w):=hk.next hB h3;have h4:(Tm.last (.alts (l.drop (i+1)) s k) a2.w).eval (brun B m)=some (o,w'):=h4;rw[zaw] at h4;exact⟨a2,G',m,by omega,h3',ht2,hk2.ask,h4,(h7.append_left _).trans zb3⟩
 ·obtain⟨a1,G,m,hm,q1,q2,q3,q4,q5⟩:=hA
  rw[aW (au _)] at q4;cases m with
  |zero=>cases q4
  |succ m=>
   have:=zat (show(Tm.ret (.no,a1.w)).eval (brun B m)=some (o,w') from q4)
   cases this;exact no_R q1 q2 q5
theorem zlW(c:CtR V X B g N n k ids){want:Int}{y:Pat}{s':Sg}{a1:RS}{o1:BOut}{w1:Wk}(ha:RM V X a1)(ht:a1.td=false)(hk:RTok B g N (.try_ y s' [.stop want]) a1.w)(hr:brun B n (.try_ y s' [.stop want]) a1.w=some (o1,w1)):
  TrG [] Tryz.prog 222 [X.p,.agg y.C,.agg (stC s'),i64 want] (Hr X a1++Hk ids k) (MidB X fun t a2 H1=>∃m,t=(m==1)∧zdb V X ids k o1 w1 m a2 H1):=
 zmG X y s' want _ _ (fun b=>MidA X (zdb V X ids k o1 w1)) (fun b v H' ⟨m,_,_,e,_⟩=>⟨m,e⟩) (fun b=>zjF c ha ht hk hr b (G:=[]) (ar _)) fun b m H' ⟨m',a2,H1,e,k1,k2⟩=>⟨m==1,a2,H1,I,⟨m,I,by cases e;exact k1⟩,k2⟩
theorem zcz{o1:BOut}{w1:Wk}{m:Int}{a1:RS}{H1:Heap}(h:zdb V X ids k o1 w1 m a1 H1):∃G,(Hr X a1++H1).Perm (G++(Hr X a1++Hk ids k)):=by
 obtain⟨_,_,_,_,_,G,h7⟩:=h;exact⟨G,(h7.append_left _).trans zb3⟩
structure LookE(V:Alk)(X:Rt)(ids:List Nat)(k:List Fm)(n2:Int)(s:Sg)(o:BOut)(w':Wk)(R1:Bool→RS→Heap→Prop):Prop where
 hT:∀t a1 H1,R1 t a1 H1→a1.td=true→zaE V X ids k o w' (i64 0) (Hr X a1++H1)
 h2e:n2%2=0→∀a1 H1,R1 false a1 H1→a1.td=false→zaE V X ids k o w' (i64 0) (Hr X a1++H1)
 h2o:n2%2≠0→∀a1 H1,R1 false a1 H1→a1.td=false→TrG [] Tryz.prog 173 [X.p,kp ids,.agg (stC s)] (Hr X a1++H1) (zaE V X ids k o w')
 h3e:n2%2=0→∀a1 H1,R1 true a1 H1→a1.td=false→TrG [] Tryz.prog 173 [X.p,kp ids,.agg (stC {s with caps:=a1.fd.caps})] (Hr X a1++H1) (zaE V X ids k o w')
 h3o:n2%2≠0→∀a1 H1,R1 true a1 H1→a1.td=false→zaE V X ids k o w' (i64 0) (Hr X a1++H1)
theorem zhO(c:CtR V X B g N n k ids){x:Pat}{o1:BOut}{w1:Wk}(h:(zbj x k s (o1,w1)).eval (brun B n)=some (o,w'))(hk:Okk B g N s.at_ (lvl k) (zbj x k s (o1,w1))):
  LookE V X ids k x.n s o w' fun t a2 H1=>∃m,t=(m==1)∧zdb V X ids k o1 w1 m a2 H1:=by
 have tdo:∀{m:Int} {a1:RS} {H1:Heap},zdb V X ids k o1 w1 m a1 H1→a1.td=false→o1≠ .tired:=fun hb ht e=>by
  obtain⟨_,_,_,h4,_⟩:=hb;rw[h4.2 e] at ht;cases ht
 have neq:∀{m:Int} {a1:RS} {H1:Heap},zdb V X ids k o1 w1 m a1 H1→false=(m==1)→∀e,o1≠ .yes e:=fun hb hm e he=>by
  subst he;rw[hb.1] at hm;cases hm
 have elseK:(∀e,o1≠ .yes e)→o1≠ .tired→zbj x k s (o1,w1)=if x.n%2=0 then .ret (.no,w1) else .last (.go k s) w1:=fun h1 h2=>by
  cases o1 with
  |yes e=>exact absurd rfl (h1 e)
  |tired=>exact absurd rfl h2
  |no=>rfl
  |cut j=>rfl
 refine⟨fun t a1 H1 hr ht=>?_,fun he a1 H1 hr ht=>?_,fun he a1 H1 hr ht=>?_,fun he a1 H1 hr ht=>?_,fun he a1 H1 hr ht=>?_⟩
 ·obtain⟨m,rfl,hb⟩:=hr
  obtain⟨G,hp⟩:=zcz hb;obtain⟨h1,h2,h3,h4,h5,_⟩:=hb;have e:=h4.1 ht;subst e;have:=zat h;cases this;exact⟨a1,G,h2,h3,I,h4,fun e he=>(by cases he),fun j hj=>(by cases hj),hp⟩
 ·obtain⟨m,hm,hb⟩:=hr
  obtain⟨G,hp⟩:=zcz hb;rw[elseK (neq hb hm) (tdo hb ht),af he] at h;have:=zat h;cases this;obtain⟨h1,h2,h3,_⟩:=hb;subst h2;exact no_R h3 ht hp
 ·obtain⟨m,hm,hb⟩:=hr
  obtain⟨G,hp⟩:=zcz hb;rw[elseK (neq hb hm) (tdo hb ht),ac he] at h hk;rw[zaw] at h;obtain⟨h1,h2,h3,_⟩:=hb;subst h2;exact c.go (au n) h3 ht hk.ask h hp
 ·obtain⟨m,hm,hb⟩:=hr
  obtain⟨e,rfl,hf,_⟩:=zfq hb (by simpa using hm.symm);obtain⟨G,hp⟩:=zcz hb;have h:(if x.n%2=0 then Tm.last (.go k {s with caps:=e.caps}) w1 else .ret (.no,w1)).eval (brun B n)=some (o,w'):=h
  have hk:Okk B g N s.at_ (lvl k) (if x.n%2=0 then Tm.last (.go k {s with caps:=e.caps}) w1 else .ret (.no,w1)):=hk
  rw[af he] at h hk;rw[zaw] at h;obtain⟨h1,h2,h3,_⟩:=hb;subst h2;rw[hf];exact c.go (au n) h3 ht hk.ask h hp
 ·obtain⟨m,hm,hb⟩:=hr
  obtain⟨e,rfl,hf,_⟩:=zfq hb (by simpa using hm.symm);obtain⟨G,hp⟩:=zcz hb;have h:(if x.n%2=0 then Tm.last (.go k {s with caps:=e.caps}) w1 else .ret (.no,w1)).eval (brun B n)=some (o,w'):=h
  rw[ac he] at h;have:=zat h;cases this;obtain⟨h1,h2,h3,_⟩:=hb;subst h2;exact no_R h3 ht hp
theorem zoh{t:Task}{w:Wk}{o1:BOut}{w1:Wk}(h:brun B n t w=some (o1,w1))(ha:RM V X a)(hc:w.codes.length≤100):∃t a1 H1,∃m:Int,t=(m==1)∧zdb V X ids k o1 w1 m a1 H1:=
 ⟨_,⟨w1,zg6 o1,some 0,.nilp,zrv o1,0,a.ae⟩,Hk ids k,outR o1,rfl,rfl,rfl,⟨(fun h=>nomatch h),zd4 B n t w o1 w1 h hc,ha.ae⟩,zfD,(fun e h=>by subst h;rfl),[],.refl _⟩
theorem zqR{y:Pat}(c:CtR V X B g N n k ids)(d:NodR V X B g N n k ids a (.mk 9 xn mn mx nm st [y]) s o w'):TryR V X ids k a (.mk 9 xn mn mx nm st [y]) s o w':=by
 have hx:Vd g (.mk 9 xn mn mx nm st [y]):=d.hk.ok.x;have hs:SOk N s:=d.hk.ok.s;have hs0:0≤s.at_:=hs.at0;have hs1:s.at_≤N:=hs.atN;have hN:=c.hP.hN;have hn3:0≤xn∧xn≤3:=hx.shape.2.2.2.2.2.2.2.1 I;have hy:Vd g y:=hx.sub aE;obtain⟨hi,hl1,hL⟩:=c.hP.span y hy;have hl0:=c.hP.hB.least y hy;have hn:zaF B (.mk 9 xn mn mx nm st [y]) s k (tick a.w)=if zbY B (.mk 9 xn mn mx nm st [y]) s<0 then zbj (.mk 9 xn mn mx nm st [y]) k s (.no,tick a.w) else .ask (.try_ y {s with at_:=zbY B (.mk 9 xn mn mx nm st [y]) s} [.stop (zeO (.mk 9 xn mn mx nm st [y]) s)]) (tick a.w) (zbj (.mk 9 xn mn mx nm st [y]) k s):=rfl
 refine rtry_look X a d.hp d.htd xn mn mx nm st s (ids.headD 0) _ _ [y] d.tired fun hq=>?_;have h:=d.node hq;have hk:=d.ok hq;rw[hn] at h hk;have hwd:=za8 V X ids k o w';by_cases hneg:zbY B (.mk 9 xn mn mx nm st [y]) s<0
 ·rw[af hneg] at h hk
  have L:=zhO (V:=V) (X:=X) (ids:=ids) c h hk;have hb:zdb V X ids k .no (tick a.w) 0 (zai a) (Hk ids k):=⟨I,I,d.rm,⟨fun e=>(by rw[d.td hq] at e;cases e),fun e=>(by cases e)⟩,fun e he=>(by cases he),[],.refl _⟩;have hF:∃m:Int,false=(m==1)∧zdb V X ids k .no (tick a.w) m (zai a) (Hk ids k):=⟨0,I,hb⟩;have hx4:xn=2∨xn=3:=by
   unfold zbY at hneg;by_cases h1:xn>1
   ·omega
   ·rw[ac (show¬(Pat.mk 9 xn mn mx nm st [y]).n>1 from h1)] at hneg
    omega
  have hneg2:s.at_ - B.least y<0:=by
   unfold zbY at hneg;rw[af (show(Pat.mk 9 xn mn mx nm st [y]).n>1 by show xn>1;omega)] at hneg
   exact hneg
  rcases hx4 with rfl|rfl
  ·exact look_2 X (zai a) (d.td hq) y 9 mn mx nm st s ⟨hs0,by omega⟩ (ids.headD 0) _ _ hwd _ ⟨_,_,_,hF⟩ (B.least y) hi ⟨hl0,hl1⟩ hL (fun e=>absurd e (by omega)) L.hT (fun _=>L.h2e I _ _ hF (d.td hq)) (L.h2e I) (L.h3e I)
  ·exact look_3 X (zai a) (d.td hq) y 9 mn mx nm st s ⟨hs0,by omega⟩ (ids.headD 0) _ _ hwd _ ⟨_,_,_,hF⟩ (B.least y) hi ⟨hl0,hl1⟩ hL (fun e=>absurd e (by omega)) L.hT (fun _=>L.h2o (show(3:Int)%2≠0 by decide) _ _ hF (d.td hq)) (L.h2o (show(3:Int)%2≠0 by decide)) (L.h3o (show(3:Int)%2≠0 by decide))
 ·rw[ac hneg] at h hk
  obtain⟨o1,w1,h3,h4⟩:=zbg h;have L:=zhO (V:=V) (X:=X) (ids:=ids) c h4 (hk.next c.hP.hB h3);have hpart:=zlW c (a1:=zai a) d.rm (d.td hq) hk.ask h3;have hinh:∃t a1 H1,∃m:Int,t=(m==1)∧zdb V X ids k o1 w1 m a1 H1:=zoh h3 d.ha d.ha.codes;have hx4:xn=0∨xn=1∨xn=2∨xn=3:=by omega
  rcases hx4 with rfl|rfl|rfl|rfl
  ·exact look_0 X (zai a) (d.td hq) y 9 mn mx nm st s ⟨hs0,by omega⟩ (ids.headD 0) _ _ hwd _ hinh (fun _=>hpart) L.hT (L.h2e I) (L.h3e I)
  ·exact look_1 X (zai a) (d.td hq) y 9 mn mx nm st s ⟨hs0,by omega⟩ (ids.headD 0) _ _ hwd _ hinh (fun _=>hpart) L.hT (L.h2o (show(1:Int)%2≠0 by decide)) (L.h3o (show(1:Int)%2≠0 by decide))
  ·have hge:¬s.at_ - B.least y<0:=hneg
   exact look_2 X (zai a) (d.td hq) y 9 mn mx nm st s ⟨hs0,by omega⟩ (ids.headD 0) _ _ hwd _ hinh (B.least y) hi ⟨hl0,hl1⟩ hL (fun _=>hpart) L.hT (fun e=>absurd e hge) (L.h2e I) (L.h3e I)
  ·have hge:¬s.at_ - B.least y<0:=hneg
   exact look_3 X (zai a) (d.td hq) y 9 mn mx nm st s ⟨hs0,by omega⟩ (ids.headD 0) _ _ hwd _ hinh (B.least y) hi ⟨hl0,hl1⟩ hL (fun _=>hpart) L.hT (fun e=>absurd e hge) (L.h2o (show(3:Int)%2≠0 by decide)) (L.h3o (show(3:Int)%2≠0 by decide))
end
theorem zjt:∀(k:List Fm) (ids:List Nat) (b:Nat),b∈keys (Hk ids k)→∃t s e,(b,Blk.row t s e)∈Hk ids k
 |[],ids,b,h=>by cases h
 |f::k,ids,b,h=>by
  unfold Hk at h ⊢;by_cases ht:thru f=true
  ·rw[af ht] at h ⊢
   exact zjt k ids b h
  ·rw[ac ht] at h ⊢
   rcases List.mem_cons.1 h with rfl|h
   ·exact⟨_,_,_,aE⟩
   ·obtain⟨t,s,e,h⟩:=zjt k ids.tail b h
    exact⟨t,s,e,aB _ h⟩
theorem zel:∀(k:List Fm) (ids:List Nat),KB k→bid ids k (lvl k)=(bIds ids k).headD 0
 |[],ids,h=>h.elim
 |.call o::k,ids,h=>by simp[bid,lvl,bIds]
 |.stop w::k,ids,h=>rfl
 |.fin::k,ids,h=>rfl
 |.cat x n::k,ids,h=>by
  by_cases ht:thru (.cat x n)=true
  ·rw[zfE ht,bIds,af ht];exact zel k ids (h.tail I)
  ·rw[zew ht,bIds,ac ht];exact zel k ids.tail (h.tail I)
 |.turn x m fr::k,ids,h=>zel k ids.tail (h.tail rfl)
 |.group x fr::k,ids,h=>zel k ids.tail (h.tail rfl)
section
variable{V:Alk}{X:Rt}{B:Bk}{g:Int}{N n:Nat}{k:List Fm}{ids:List Nat}{a:RS}{s:Sg}{o:BOut}{w':Wk}{xn mn mx:Int}{nm:List UInt8}{st:List (Int×Int)}{l:List Pat}
theorem zoT(c:CtR V X B g N n k ids)(d:NodR V X B g N n k ids a (.mk 14 xn mn mx nm st l) s o w'):TryR V X ids k a (.mk 14 xn mn mx nm st l) s o w':=by
 have hx:Vd g (.mk 14 xn mn mx nm st l):=d.hk.ok.x;have hs:SOk N s:=d.hk.ok.s;have hnn:=hx.shape.2.2.2.2.1 I;have hnn:0≤xn∧xn≤g:=hnn;have hkb:KB k:=d.hk.ok.b;have hkeys:=zhh k ids c.hl;have hn:zaF B (.mk 14 xn mn mx nm st l) s k (tick a.w)=if (xn,s.at_)∈s.calls∨s.calls.length≥20 then .ret (.no,tick a.w) else .ask (.try_ (B.body xn) {s with calls:=(xn,s.at_)::s.calls} (.call s::k)) (tick a.w) (zdP k):=rfl
 refine rtry_call X a d.hp d.htd xn mn mx nm st s (ids.headD 0) _ _ l d.tired fun hq=>?_;have h:=d.node hq;have hk:=d.ok hq;rw[hn] at h hk;refine call_ref X (zai a) (B.body xn) 14 xn mn mx nm st l s (by have:=hs.calls;omega) (ids.headD 0) _ _ (za8 ..)
  (fun b m a1 H1=>∃o1 w1,brun B n (.try_ (B.body xn) {s with calls:=(xn,s.at_)::s.calls} (.call s::k)) (tick a.w)=some (o1,w1)∧¬((xn,s.at_)∈s.calls∨s.calls.length≥20)∧Back V X (b::ids) (.call s::k) o1 w1 m a1 H1)
  (fun hpos=>c.hP.body xn (by omega) hnn.2) (fun hnp=>by rw[show xn=0 by omega];exact c.hP.body0) (fun hc=>?_) (fun hc b hb=>?_) (fun b a1 H1 hr=>?_) (fun b a1 H1 H' hb hr hbar hp=>?_) (fun b m a1 H1 H' hb hr hbar hp=>?_)
 ·rw[af hc] at h
  have:=zat h;cases this;exact no_R (a1:=zai a) d.rm (d.td hq) (G:=[]) (ar _)
 ·rw[ac hc] at h hk
  obtain⟨o1,w1,h3,h4⟩:=zbg h;have hT:=c.low n (au n) (.try_ (B.body xn) {s with calls:=(xn,s.at_)::s.calls} (.call s::k)) (b::ids) (zai a) o1 w1 hk.ask d.rm (d.td hq) (by show(b::ids).length=szK (.call s::k);rw[szK,ac (by simp[thru]),aX,c.hl]) h3
  have hT:TrG [] Tryz.prog 124 [X.p,.agg (B.body xn).C,.agg (stC {s with calls:=(xn,s.at_)::s.calls}),.ptr b 34 0 0] (Hr X (zai a)++Hk (b::ids) (.call s::k)) (zaE V X (b::ids) (.call s::k) o1 w1):=hT
  rw[zcn (by simp[thru])] at hT;refine(TrG.pre zcM.symm hT).mono fun v H' hp=>?_;obtain⟨m,a1,H1,q1,q2,q3⟩:=zbG hp;exact⟨m,a1,H1,q1,⟨o1,w1,h3,hc,q2⟩,q3⟩
 ·obtain⟨o1,w1,h3,hc,hB1⟩:=hr
  obtain⟨e1,_,_,_,_,hcut,G,h7⟩:=hB1;cases o1 with
  |no=>cases e1
  |yes e=>cases e1
  |tired=>cases e1
  |cut j=>
   have hk2:KB (.call s::k):=hkb.cons I;have hsz:(b::ids).length=szK (.call s::k):=by rw[szK,ac (by simp[thru]),aX,c.hl]
   have hmem:=zdN (.call s::k) (b::ids) j hk2 hsz;have hkk:=zhh (.call s::k) (b::ids) hsz;obtain⟨t1,s1,e1,hm1⟩:=zjt (.call s::k) (b::ids) _ (by rw[hkk];exact hmem);obtain⟨t2,s2,e2,hm2⟩:=zjt (.call s::k) (b::ids) b (by rw[hkk];exact aE);exact⟨_,t1,s1,e1,t2,s2,e2,hcut j I,h7.symm.subset (bI _ hm1),h7.symm.subset (bI _ hm2)⟩
 ·obtain⟨o1,w1,h3,hc,hB1⟩:=hr
  obtain⟨e1,e2,e3,e4,e5,hcut,G,h7⟩:=hB1;rw[hkeys] at hb;rw[ac hc] at h hk;obtain⟨o2,w2,h3',h4⟩:=zbg h;rw[h3] at h3';cases h3';rw[zcn (by simp[thru])] at h7;cases o1 with
  |no=>cases e1
  |yes e=>cases e1
  |tired=>cases e1
  |cut j=>
   have hj:=hcut j I;rw[hbar] at hj;have hj:b=bid (b::ids) (.call s::k) j:=(A.ptr.inj hj).1;have hjl:j=lvl k+1:=by
    apply cM
    intro hne;have e:bid (b::ids) (.call s::k) j=bid ids k j:=by simp[bid,hne]
    rw[e] at hj;exact hb (hj▸zdN k ids j hkb c.hl)
   have h4:(if j=lvl k+1 then Tm.ret (.no,w1) else .ret (.cut j,w1)).eval (brun B n)=some (o,w'):=h4
   rw[af hjl] at h4;have:=zat h4;cases this;subst e2;have htd:a1.td=false:=by
    cases q:a1.td with
    |false=>rfl
    |true=>have:=e4.1 q;cases this
   exact no_R e3 htd (G:=G++[_]) (hp.trans ((h7.append_left _).trans (zb3.trans zgP)))
 ·obtain⟨o1,w1,h3,hc,hB1⟩:=hr
  have hB2:=hB1;obtain⟨e1,e2,e3,e4,e5,hcut,G,h7⟩:=hB1;rw[hkeys] at hb;rw[ac hc] at h hk;obtain⟨o2,w2,h3',h4⟩:=zbg h;rw[h3] at h3';cases h3';rw[zcn (by simp[thru])] at h7;have hpp:=hp.trans ((h7.append_left (Hr X a1)).trans (zb3.trans zgP));have fin:∀j0:BOut,(∀j,j0=.cut j→bid (b::ids) (.call s::k) j=bid ids k j)→j0=o1→(Tm.ret (j0,w1)).eval (brun B n)=some (o,w')→zaE V X ids k o w' (i64 m) H':=fun j0 hj0 hj1 hh=>by
   subst hj1;have:=zat hh;cases this;exact⟨a1,G++[_],e2,e3,by rw[e1],e4,e5,fun j hj=>by rw[hcut j hj,hj0 j hj],hpp⟩
  cases o1 with
  |no=>exact fin .no (fun j hj=>by cases hj) rfl h4
  |yes e=>exact fin (.yes e) (fun j hj=>by cases hj) rfl h4
  |tired=>exact fin .tired (fun j hj=>by cases hj) rfl h4
  |cut j=>
   have hjl:¬j=lvl k+1:=fun hjl=>by
    refine hbar e1 ?_;rw[hcut j I];simp[bid,hjl]
   have h4:(if j=lvl k+1 then Tm.ret (.no,w1) else .ret (.cut j,w1)).eval (brun B n)=some (o,w'):=h4
   rw[ac hjl] at h4;exact fin (.cut j) (fun i hi=>by cases hi;simp[bid,hjl]) I h4
theorem zeR(c:CtR V X B g N n k ids)(hkb:KB k){H G:Heap}(hp:H.Perm (G++Hk ids k)):TrG [] Tryz.prog 226 [kp ids] H fun v H'=>v=kp (bIds ids k)∧H'.Perm H:=
 (TrG.wide hp (zkO ids k hkb c.hl)).mono fun v H' ⟨H1,⟨h1,h2⟩,h3⟩=>⟨h1,h3.trans ((h2.append_left G).trans hp.symm)⟩
theorem znC(c:CtR V X B g N n k ids)(d:NodR V X B g N n k ids a (.mk 16 xn mn mx nm st l) s o w'):TryR V X ids k a (.mk 16 xn mn mx nm st l) s o w':=by
 have hx:Vd g (.mk 16 xn mn mx nm st l):=d.hk.ok.x;have hkb:KB k:=d.hk.ok.b;have hnn:0≤xn∧xn≤2:=hx.shape.2.2.2.2.2.2.2.2.1 I;have hn:zaF B (.mk 16 xn mn mx nm st l) s k (tick a.w)=if xn=0 then .ret (.no,tick a.w) else if xn=1 then .last (.go (barr k) s) (tick a.w) else .ask (.go k s) (tick a.w) (zhd k):=rfl
 refine rtry_verb X a d.hp d.htd xn mn mx nm st s (ids.headD 0) _ _ l d.tired fun hq=>?_;have h:=d.node hq;have hk:=d.ok hq;rw[hn] at h hk;have hx3:xn=0∨xn=1∨xn=2:=by omega
 rcases hx3 with rfl|rfl|rfl
 ·rw[af I] at h
  have:=zat h;cases this;exact zsp X 16 mn mx nm st l s (ids.headD 0) _ _ (no_R (a1:=zai a) d.rm (d.td hq) (G:=[]) (ar _))
 ·rw[ac (by decide),af I] at h hk
  rw[zaw] at h;obtain⟨F,hF⟩:=zf6 k ids;have c2:CtR V X B g N n (barr k) (bIds ids k):=⟨c.hP,c.low,zf2 k ids c.hl⟩;refine zsn X 16 mn mx nm st l s (ids.headD 0) _ _ ((bIds ids k).headD 0) d.ne (zeR c hkb (G:=Hr X (zai a)) (ar _)) fun H' hp=>?_;have hp2:H'.Perm (F++(Hr X (zai a)++Hk (bIds ids k) (barr k))):=by
   refine hp.trans ?_;rw[hF];exact zb3
  refine(c2.goW (au n) (a1:=zai a) d.rm (d.td hq) hk.ask h hp2).mono fun v H2 ⟨H1,⟨a',G,q1,q2,q3,q4,q5,q6,q7⟩,k2⟩=>?_;refine⟨a',G,q1,q2,q3,q4,q5,fun j hj=>by rw[q6 j hj,zd1],k2.trans ((q7.append_left F).trans ?_)⟩
  rw[hF];exact zb3.trans (List.Perm.append_left G zb3)
 ·rw[ac (by decide),ac (by decide)] at h hk
  obtain⟨o1,w1,h3,h4⟩:=zbg h;have hT:=c.go (au n) (a1:=zai a) d.rm (d.td hq) hk.ask h3 (G:=[]) (ar _);refine zrm X 16 mn mx nm st l s (ids.headD 0) _ _ ((bIds ids k).headD 0) (Back V X ids k o1 w1) (hT.mono fun v H' hp=>zbG hp) (fun m a1 H1 H' hb hp hor=>?_) (fun a1 H1 hb ht=>?_) (fun a1 H1 H' hb ht hp=>?_)
  ·have hno:=notNo hb hor
   have e:(Tm.ret (o1,w1)).eval (brun B n)=some (o,w'):=by
    cases o1<;>first|exact absurd I hno|exact h4
   have:=zat e;cases this;exact zdX hb hp
  ·obtain⟨_,_,_,_,_,_,G,h7⟩:=hb
   exact zeR c hkb h7
  ·have e:=ziI hb I ht
   subst e;obtain⟨_,e2,e3,_,_,_,G,h7⟩:=hb;have:=zat (show(Tm.ret (.cut (lvl k),w1)).eval (brun B n)=some (o,w') from h4)
   cases this;subst e2;exact⟨{a1 with bar:=.ptr ((bIds ids k).headD 0) 34 0 0},G,I,⟨e3.g,e3.codes,e3.ae⟩,I,⟨fun e=>(by rw[show({a1 with bar:=.ptr ((bIds ids k).headD 0) 34 0 0}:RS).td=a1.td from rfl,ht] at e;cases e),fun e=>(by cases e)⟩,fun e he=>(by cases he),fun j hj=>(by cases hj;rw[zel k ids hkb]),hp.trans ((h7.append_left _).trans zb3)⟩
theorem zq0(c:CtR V X B g N n k ids){x:Pat}(d:NodR V X B g N n k ids a x s o w'):TryR V X ids k a x s o w':=by
 obtain⟨op,xn,mn,mx,nm,st,l⟩:=x;have hx:Vd g (.mk op xn mn mx nm st l):=d.hk.ok.x;have hop:0≤op∧op≤18:=hx.op;have sh:=hx.shape;have h19:op=0∨op=1∨op=2∨op=3∨op=4∨op=5∨op=6∨op=7∨op=8∨op=9∨op=10∨op=11∨op=12∨op=13∨op=14∨op=15∨op=16∨op=17∨op=18:=by omega
 rcases h19 with rfl|rfl|rfl|rfl|rfl|rfl|rfl|rfl|rfl|rfl|rfl|rfl|rfl|rfl|rfl|rfl|rfl|rfl|rfl
 ·exact zqL c d
 ·exact zeM c (.inl I) d
 ·exact zeM c (.inr (.inl I)) d
 ·exact zeM c (.inr (.inr I)) d
 ·exact zq4 c d
 ·exact zqg c d
 ·exact zqV c d
 ·obtain⟨y,rfl⟩:∃y,l=[y]:=sh.2.1 (.inr (.inl rfl))
  exact zpU c d
 ·obtain⟨y,rfl⟩:∃y,l=[y]:=sh.2.1 (.inr (.inr (.inl rfl)))
  exact zqz c d
 ·obtain⟨y,rfl⟩:∃y,l=[y]:=sh.2.1 (.inr (.inr (.inr rfl)))
  exact zqR c d
 ·exact zoF c d
 ·exact zeI c (.inl I) d
 ·exact zeI c (.inr (.inl I)) d
 ·exact zeI c (.inr (.inr I)) d
 ·exact zoT c d
 ·obtain⟨y,z,rfl⟩:∃y z,l=[y,z]:=sh.2.2.1 rfl
  exact zom c d
 ·exact znC c d
 ·exact znT c d
 ·exact znF c d
theorem zqP(hP:RProg V X B g N):∀n,AllR V X B g N n:=by
 intro n
 induction n using Nat.strongRecOn with
 |_ n ih=>
 intro t ids a o w' hk ha htd hl hr;cases n with
 |zero=>cases hr
 |succ n=>
  have low:∀m,m≤n→AllR V X B g N m:=fun m hm=>ih m (Nat.lt_succ_of_le hm);cases t with
  |alts l s k=>exact trivial
  |go k s=>exact zq8 hP low hk ha htd hl hr
  |try_ x s k=>exact zq0 ⟨hP,low,hl⟩ (zsq ⟨hP,low,hl⟩ ha htd hk hr)
  |turn x many s k=>exact zoE ⟨hP,low,hl⟩ ha htd hk hr (zcU hr ha.codes ha.ae)
end
theorem zbT(n lo hi:Int):PTr Tryz.prog 114 [i64 n,i64 lo,i64 hi] (.bool (wiM n lo hi)):=by
 refine aC (N:=15) Tryz.func114 I I I ?_;refine ae0 (ag 11 I (J3 ?_));refine J6 I I I (fun h=>?_) (fun h=>?_)
 ·refine ab (ag 8 I (J ?_))
  refine zaa (J5 I I) ?_;(simp_all[wiM]<;>first|omega|(rw[aK];simp<;>omega))
 ·refine ab (ag 8 I (J ?_))
  refine zaa (J5 I I) ?_;(simp_all[wiM]<;>(omega))
theorem zar{n lo hi:Int}{b:Bool}(h:wiM n lo hi=b):PTr Tryz.prog 114 [i64 n,i64 lo,i64 hi] (.bool b):=h▸zbT n lo hi
def zaP(c:Int):Int:=if wiM c 65 90=true then w64 (c+32) else if wiM c 192 222=true∧c≠215 then w64 (c+32) else if wiM c 913 937=true∧c≠930 then w64 (c+32) else if wiM c 1040 1071=true then w64 (c+32) else if c=7838 then 223 else if c=8490 then 107 else if c=8491 then 229 else c
theorem zsT{c lo hi:Int}(h:wiM c lo hi=true):lo≤c∧c≤hi:=by
 unfold wiM at h;rw[aO,aL,aL] at h;exact h
theorem zo3(c:Int):PTr Tryz.prog 115 [i64 c] (i64 (zaP c)):=by
 refine aC (N:=32) Tryz.func115 I I I ?_;cases h1:wiM c 65 90 with
 |true=>
  rw[show zaP c=w64 (c+32) from af h1]
  refine ae0 (ag 11 I (O (J9 I I I (zar h1) (ab (ag 17 I (J ?_))))));refine zaa (J5 I I) ?_;rfl
 |false=>
 have n1:¬wiM c 65 90=true:=by rw[h1];exact aJ
 cases h2:(wiM c 192 222) with
 |true=>
  refine ae0 (ag 11 I (O (J9 I I I (zar h1) (ab (ag 7 I (O (J9 I I I (zar h2) (ab (ag 7 I (J2 ?_))))))))))
  (refine J4 I (fun h=>?_) (fun h=>?_))
  ·have hc:c≠215:=by simpa using h
   rw[show zaP c=w64 (c+32) by rw[zaP,ac n1,af ⟨h2,hc⟩]]
   refine ae (ag 13 I (J ?_));refine zaa (J5 I I) ?_;rfl
  ·have hc:c=215:=by simpa using h
   subst hc;refine ae (ag 3 I (O (J9 I I I (zbT _ _ _) (ab (ag 10 I (O (J9 I I I (zbT _ _ _) (ab (ag 38 I (J ?_))))))))));refine zaa (J5 I I) ?_;rfl
 |false=>
 have n2:¬(wiM c 192 222=true∧c≠215):=by rw[h2];exact fun h=>aJ h.1
 cases h3:(wiM c 913 937) with
 |true=>
  refine ae0 (ag 11 I (O (J9 I I I (zar h1) (ab (ag 7 I (O (J9 I I I (zar h2) (ab (ag 11 I (O (J9 I I I (zar h3) (ab (ag 7 I (J2 ?_))))))))))))))
  (refine J4 I (fun h=>?_) (fun h=>?_))
  ·have hc:c≠930:=by simpa using h
   rw[show zaP c=w64 (c+32) by rw[zaP,ac n1,ac n2,af ⟨h3,hc⟩]]
   refine ae (ag 13 I (J ?_));refine zaa (J5 I I) ?_;rfl
  ·have hc:c=930:=by simpa using h
   subst hc;refine ae (ag 2 I (O (J9 I I I (zbT _ _ _) (ab (ag 38 I (J ?_))))));refine zaa (J5 I I) ?_;rfl
 |false=>
 have n3:¬(wiM c 913 937=true∧c≠930):=by rw[h3];exact fun h=>aJ h.1
 cases h4:(wiM c 1040 1071) with
 |true=>
  rw[show zaP c=w64 (c+32) by rw[zaP,ac n1,ac n2,ac n3,af h4]]
  refine ae0 (ag 11 I (O (J9 I I I (zar h1) (ab (ag 7 I (O (J9 I I I (zar h2) (ab (ag 11 I (O (J9 I I I (zar h3) (ab (ag 10 I (O (J9 I I I (zar h4) (ab (ag 14 I (J ?_))))))))))))))))));refine zaa (J5 I I) ?_;rfl
 |false=>
 have n4:¬(wiM c 1040 1071=true):=by rw[h4];exact aJ
 rw[show zaP c=if c=7838 then 223 else if c=8490 then 107 else if c=8491 then 229 else c by rw[zaP,ac n1,ac n2,ac n3,ac n4]]
 refine ae0 (ag 11 I (O (J9 I I I (zar h1) (ab (ag 7 I (O (J9 I I I (zar h2) (ab (ag 11 I (O (J9 I I I (zar h3) (ab (ag 10 I (O (J9 I I I (zar h4) (ab (ag 11 I (J2 ?_))))))))))))))))))
 (refine J4 I (fun h=>?_) (fun h=>?_))
 ·have h:c=7838:=by simpa using h
  subst h;refine ae (ag 8 I (J ?_));refine zaa (J5 I I) ?_;rfl
 have h:c≠7838:=by simpa using h
 rw[ac h];refine ae (ag 7 I (J2 ?_))
 (refine J4 I (fun g=>?_) (fun g=>?_))
 ·have g:c=8490:=by simpa using g
  subst g;refine ae (ag 8 I (J ?_));refine zaa (J5 I I) ?_;rfl
 have g:c≠8490:=by simpa using g
 rw[ac g];refine ae (ag 7 I (J2 ?_))
 (refine J4 I (fun q=>?_) (fun q=>?_))
 ·have q:c=8491:=by simpa using q
  subst q;refine ae (ag 8 I (J ?_));refine zaa (J5 I I) ?_;rfl
 have q:c≠8491:=by simpa using q
 rw[ac q];refine ae (ag 10 I (J ?_));refine zaa (J5 I I) ?_;rfl
def ligs:List (List UInt8):=[[102,102],[102,105],[102,108],[102,102,105],[102,102,108],[115,116],[115,116]]
def zbH(c:Int):List UInt8:=if c=181 then [206,188] else if c=223∨c=7838 then [115,115] else if c=329 then [202,188,110] else if c=383 then [115] else if c=962 then [207,131] else
 if wiM c 64256 64262=true then ligs.getD (c - 64256).toNat [] else encL (IntKind.i32.wrap (zaP c))
theorem zq9{c:Int}(h:64256≤c∧c≤64262){ei:TI}(he:lay L 9=some ei):zbw ei (ligs.map A.str) ((IntKind.i64.wrap (c - 64256)).toNat*ei.size)=some (.str (zbH c)):=by
 cases he;have:c=64256∨c=64257∨c=64258∨c=64259∨c=64260∨c=64261∨c=64262:=by omega
 rcases this with rfl|rfl|rfl|rfl|rfl|rfl|rfl<;>rfl
theorem zsj:PTr Tryz.prog 62 [i64 181] (.str (zbH 181)):=by
 refine aC (N:=33) Tryz.func62 I I I ?_;refine ae0 (ag 23 I (J ?_));refine zaa (J5 I I) ?_;rfl
theorem zrr:PTr Tryz.prog 62 [i64 223] (.str (zbH 223)):=by
 refine aC (N:=33) Tryz.func62 I I I ?_;refine ae0 (ag 35 I (J ?_));refine zaa (J5 I I) ?_;rfl
theorem zrw:PTr Tryz.prog 62 [i64 7838] (.str (zbH 7838)):=by
 refine aC (N:=33) Tryz.func62 I I I ?_;refine ae0 (ag 35 I (J ?_));refine zaa (J5 I I) ?_;rfl
theorem zrI:PTr Tryz.prog 62 [i64 329] (.str (zbH 329)):=by
 refine aC (N:=33) Tryz.func62 I I I ?_;refine ae0 (ag 43 I (J ?_));refine zaa (J5 I I) ?_;rfl
theorem zrq:PTr Tryz.prog 62 [i64 383] (.str (zbH 383)):=by
 refine aC (N:=33) Tryz.func62 I I I ?_;refine ae0 (ag 51 I (J ?_));refine zaa (J5 I I) ?_;rfl
theorem zrP:PTr Tryz.prog 62 [i64 962] (.str (zbH 962)):=by
 refine aC (N:=33) Tryz.func62 I I I ?_;refine ae0 (ag 59 I (J ?_));refine zaa (J5 I I) ?_;rfl
theorem zcI(c:Int):PTr Tryz.prog 62 [i64 c] (.str (zbH c)):=by
 by_cases ha:c=181∨c=223∨c=7838∨c=329∨c=383∨c=962
 ·rcases ha with rfl|rfl|rfl|rfl|rfl|rfl
  ·exact zsj
  ·exact zrr
  ·exact zrw
  ·exact zrI
  ·exact zrq
  ·exact zrP
 have a1:(c==181)=false:=by rw[b8];omega
 have a2:(c==223)=false:=by rw[b8];omega
 have a3:(c==7838)=false:=by rw[b8];omega
 have a4:(c==329)=false:=by rw[b8];omega
 have a5:(c==383)=false:=by rw[b8];omega
 have a6:(c==962)=false:=by rw[b8];omega
 refine aC (N:=33) Tryz.func62 I I I ?_;refine ae0 (ag 14 I (J2 ?_));rw[a1];refine ae (ag 6 I (J3 ?_));rw[a2];refine ab (ag 6 I (J2 ?_));rw[a3];refine ae (ag 8 I (J2 ?_));rw[a4];refine ae (ag 8 I (J2 ?_));rw[a5];refine ae (ag 8 I (J2 ?_));rw[a6];cases h1:wiM c 64256 64262 with
 |true=>
  have hc:=zsT h1;have i0:0≤IntKind.i64.wrap (c - 64256):=by rw[zap ⟨by omega,by omega⟩];omega
  have i7:IntKind.i64.wrap (c - 64256)<(7:Nat):=by rw[zap ⟨by omega,by omega⟩];omega
  refine ae (ag 4 I (O (J9 I I I (zar h1) (ab (ag 9 I (J3 ?_))))));refine J7 (AOp.indexA okL I I I I I i0 i7 (zq9 ⟨by omega,by omega⟩ I) I ?_)
  refine ab (ag 6 I (J ?_));refine zaa (J5 I I) ?_;rfl
 |false=>
  have n1:¬wiM c 64256 64262=true:=by rw[h1];exact aJ
  rw[show zbH c=encL (IntKind.i32.wrap (zaP c)) by rw[zbH,ac (by omega),ac (by omega),ac (by omega),ac (by omega),ac (by omega),ac n1]]
  refine ae (ag 4 I (O (J9 I I I (zar h1) (ab (ag 10 I (O (J9 I I I (zo3 _) (ab (ag 6 I (J ?_))))))))));refine zaa (J5 I I) ?_;rfl
def inP(c:Int)(x:Int×Int):Bool:=decide (c≥x.1)&&decide (c≤x.2)
def idxM(p:Int×Int→Bool)(l:List (Int×Int)):Int:=match l.findIdx? p with|some i=>(i:Int)|none=>-1
theorem zh0(l:List (Int×Int))(p:Int×Int→Bool)(f:FuncId)(cap:List A)(hl:l.length≤maxLen)(hp:∀x,x∈l→PTr Tryz.prog f ([.agg (zaf x)]++cap) (.bool (p x))):
  PTr Tryz.prog 169 [.ds (l.map zaf),.fn f [] cap] (i64 (idxM p l)):=by
 refine aC (N:=19) Tryz.func169 I I I ?_;refine ae0 (ag 14 I (J2 ?_));refine Jj (α:=Nat) (fun k=>l.length - k) (fun k=>[(0,.ds (l.map zaf)),(1,.fn f [] cap),(7,i64 (l.map zaf).length),(8,i64 k)]) (fun k=>[])
  (fun k=>k≤l.length∧∀i x,i<k→l[i]?=some x→p x=false) 0 ⟨aM _,fun i x h=>absurd h (bW _)⟩ ?_ (ar _) ?_
 ·simp only[zaz]
  refine⟨I,I,I,I,trivial⟩
 rintro k ⟨hk,hm⟩ ih;refine ae0 (ag 6 I (J2 ?_))
 (refine J4 I (fun h=>?_) (fun h=>?_))
 ·have h:=aj h
  simp only[ak] at h;obtain⟨x,hx⟩:∃x,l[k]?=some x:=⟨l[k],by simp[show k<l.length by omega]⟩
  have nx:=nxt (k:=k) (n:=l.length) (by omega) hl;have hc:(l.map zaf)[((k:Nat):Int).toNat]?=some (zaf x):=by simp[hx]
  refine ae (ag 15 I (Jo okL (zad I I I I I (by omega) (hc) I) I (ag 1 I (J3 ?_))));refine J7 (Jr I I I (hp x (List.mem_of_getElem? hx)).g ?_)
  refine ab (ag 2 I (J2 ?_));cases hpx:p x with
  |true=>
   have e:idxM p l=k:=by
    have:l.findIdx? p=some k:=List.findIdx?_eq_some_iff_getElem.2 ⟨by omega,by rw[List.getElem?_eq_getElem (by omega:k<l.length)] at hx;cases hx;exact hpx,fun j hj=>by
     have:=hm j l[j] hj (List.getElem?_eq_getElem (by omega));simp[this]⟩
    unfold idxM;rw[this]
   rw[e];refine ae (ag 10 I (J (ax (ag 2 I (J ?_)))));refine zaa (J5 I I) ?_;rfl
  |false=>
   refine ae (ag 8 I (J (zae ?_)))
   (refine aq 0 (ih (k+1) (⟨by omega,fun i z hi hz=>by rcases Nat.lt_succ_iff_lt_or_eq.1 hi with hi|rfl;exact hm i z hi hz;rw[hx] at hz;cases hz;exact hpx⟩) (by omega)) ?_ I;exact⟨I,I,I,ai some nx,trivial⟩)
 ·have h:=ao h
  simp only[ak] at h;have hkk:k=l.length:=by omega
  have e:idxM p l=-1:=by
   have:l.findIdx? p=none:=List.findIdx?_eq_none_iff.2 fun x hx=>by
    obtain⟨i,hi⟩:=List.getElem?_of_mem hx;have hil:i<l.length:=by
     by_cases hil:i<l.length
     ·exact hil
     ·rw[List.getElem?_eq_none (by omega)] at hi;cases hi
    rw[hm i x (by omega) hi]
   unfold idxM;rw[this]
  rw[e];refine ae (ag 2 I (J (ae (ag 6 I (J ?_)))));refine zaa (J5 I I) ?_;rfl
theorem zce(l:List (Int×Int))(p:Int×Int→Bool)(f:FuncId)(cap:List A)(hl:l.length≤maxLen)(hp:∀x,x∈l→PTr Tryz.prog f ([.agg (zaf x)]++cap) (.bool (p x))):
  PTr Tryz.prog 121 [.ds (l.map zaf),.fn f [] cap] (.bool (l.any p)):=by
 refine aC (N:=9) Tryz.func121 I I I ?_;refine ae0 (ag 9 I (O (J9 I I I (zh0 l p f cap hl hp) (ab (ag 5 I (J ?_))))));refine zaa (J5 I I) ?_;have:l.any p=decide (idxM p l≥0):=by
  unfold idxM;cases h:l.findIdx? p with
  |none=>
   have:=List.findIdx?_eq_none_iff.1 h;simp only[];rw[show l.any p=false from by rw[List.any_eq_false];intro x hx;rw[this x hx];exact aJ]
   rfl
  |some i=>
   obtain⟨h1,h2,_⟩:=List.findIdx?_eq_some_iff_getElem.1 h;simp only[];rw[show l.any p=true from List.any_eq_true.2 ⟨l[i],bz _,h2⟩,aA (by omega)]
 rw[this]
theorem znJ(c:Int)(x:Int×Int):PTr Tryz.prog 122 ([.agg (zaf x)]++[.dp [i64 c]]) (.bool (inP c x)):=by
 refine aC (N:=14) Tryz.func122 I I I ?_;unfold inP;refine ae0 (ag 2 I (O (Jc 2 I I (zab I) I (ab (ag 10 I (J3 ?_))))));by_cases h:c≥x.1
 ·rw[aA h]
  refine ab (ag 9 I (J ?_));refine zaa (J5 I I) ?_;rfl
 ·rw[aG h]
  refine ab (ag 9 I (J ?_));refine zaa (J5 I I) ?_;rfl
theorem zpJ(l:List (Int×Int))(hl:l.length≤maxLen)(c:Int):PTr Tryz.prog 64 [.ds (l.map zaf),i64 c] (.bool (l.any (inP c))):=by
 refine aC (N:=8) Tryz.func64 I I I ?_;refine ae0 (ag 2 I (O (Jc 3 I I (zab I) I (ab (ag 7 I (J3 ?_))))));refine J7 (Jr I I I (zce l (inP c) _ _ hl fun x _=>znJ c x).g ?_)
 refine ab (ag 4 I (J ?_));refine zaa (J5 I I) ?_;rfl
theorem ziE(l:List (Int×Int))(hst:l.length≤1000000):TrG [] Tryz.prog 118 [.ds (l.map zaf)] [] fun v H'=>∃g,(g=none→l=[])∧v=outV 2 g (l.map zaf).length∧H'=outH 166 2 g (l.map zaf):=by
 refine Jb (N:=8) Tryz.func118 I I I ?_;refine ae0 (ag 9 I (J3 ?_));refine J7 (du okL I I I I fun b hb=>?_)
 refine ab (ag 2 I (J2 ?_))
 (refine J4 I (fun h=>?_) (fun h=>?_))
 ·have h0:l=[]:=List.map_eq_nil_iff.1 (hb h)
  refine ae (ag 7 I (J ?_));refine zaa (J5 I I) ?_;exact⟨none,fun _=>h0,by rw[h0];rfl,by rw[h0];rfl⟩
 ·refine ae (ag 4 I (O (Jh okL I I I I I I I I I I I (fun _ _=>(ab (ag 1 I (J3 ?_)))))))
  rename_i rb _;refine J7 (cU (g:=some rb) (elems:=[]) (news:=l.map zaf) (pre:=[]) okL rfl (fun h=>by cases h) rfl rfl (.ds _) rfl rfl rfl rfl (fun c hc=>by obtain⟨y,_,rfl⟩:=List.mem_map.1 hc;rfl) (fun c hc=>by obtain⟨y,_,rfl⟩:=List.mem_map.1 hc;rfl) (by simp only[ak,br,maxLen];omega) (by simp only[ak,br];omega) I fun g' hg'=>?_)
  rw[b7] at hg' ⊢;refine ab (ag 4 I (J ?_));refine zaa (J5 I I) ?_;exact⟨g',fun e=>List.map_eq_nil_iff.1 (hg' e),I,I⟩
def zal(k:Nat):Int:=if k<8192 then k else if k=8192 then 8490 else if k=8193 then 8491 else 64256+((k:Int) - 8194)
theorem zf0(f:FuncId)(cap:List A)(RA:Nat→Heap→Prop)(H:Heap)(h0:RA 0 H)
  (hs:∀k H,k<8201→RA k H→TrG [] Tryz.prog f ([i64 (zal k)]++cap) H fun v H'=>RA (k+1) H'):TrG [] Tryz.prog 116 [.fn f [] cap] H fun v H'=>RA 8201 H':=by
 refine Jb (N:=22) Tryz.func116 I I I ?_;refine ae0 (ag 7 I (J2 ?_));refine Jj (α:=Nat×Heap) (fun k=>8192 - k.1) (fun k=>[(0,.fn f [] cap),(4,i64 k.1)]) (fun k=>k.2)
  (fun k=>k.1≤8192∧RA k.1 k.2) (0,H) ⟨aM _,h0⟩ ?_ (ar _) ?_
 ·simp only[zaz]
  refine⟨I,I,trivial⟩
 rintro⟨k,Hk⟩ ⟨hk,hm⟩ ih;simp only at hk hm;refine ae0 (ag 6 I (J2 ?_))
 (refine J4 I (fun h=>?_) (fun h=>?_))
 ·have h:(k:Int)<8192:=aj h
  have nx:=nxt (k:=k) (n:=8192) (by omega) (by decide);have hk1:zal k=(k:Int):=af (by omega);have st:=hs k Hk (by omega) hm;rw[hk1] at st;refine ae (ag 13 I (J3 ?_));refine J7 (Ji I I I st fun v H' hr=>?_)
  refine ab (ag 7 I (J (zae ?_)))
  (refine aq 0 (ih ((k+1,H')) (⟨by simp only;omega,hr⟩) (by omega)) ?_ I;exact⟨I,ai some nx,trivial⟩)
 have h:¬(k:Int)<8192:=ao h;have hk8:k=8192:=by omega
 subst hk8;refine ae (ag 2 I (J (ae (ag 3 I (J3 ?_)))));refine J7 (Ji I I I (hs 8192 Hk (by omega) hm) fun v H' hr=>?_)
 refine ab (ag 5 I (J3 ?_));refine J7 (Ji I I I (hs 8193 H' (by omega) hr) fun v2 H2 hr2=>?_)
 refine ab (ag 8 I (J2 ?_));refine Jj (α:=Nat×Heap) (fun k=>7 - k.1) (fun k=>[(0,.fn f [] cap),(3,i64 (64256+(k.1:Int)))]) (fun k=>k.2)
  (fun k=>k.1≤7∧RA (8194+k.1) k.2) (0,H2) ⟨aM _,hr2⟩ ?_ (ar _) ?_
 ·simp only[zaz]
  refine⟨I,I,trivial⟩
 rintro⟨j,Hj⟩ ⟨hj,hmj⟩ ih;simp only at hj hmj;refine ae0 (ag 7 I (J2 ?_))
 (refine J4 I (fun g=>?_) (fun g=>?_))
 ·have g:64256+(j:Int)≤64262:=aj g
  have hj1:zal (8194+j)=64256+(j:Int):=by
   unfold zal;rw[ac (by omega),ac (by omega),ac (by omega)];omega
  have st:=hs (8194+j) Hj (by omega) hmj;rw[hj1] at st;have hwj:A.int .i64 (IntKind.i64.wrap (64256+(j:Int)+1))=.int .i64 (64256+((j+1:Nat):Int)):=by rw[zap ⟨by omega,by omega⟩];congr 1
  refine ae (ag 7 I (J3 ?_));refine J7 (Ji I I I st fun v3 H3 hr3=>?_)
  refine ab (ag 8 I (J (zae ?_)));rw[hwj]
  (refine aq 0 (ih ((j+1,H3)) (⟨by simp only;omega,hr3⟩) (by omega)) ?_ I;exact⟨I,I,trivial⟩)
 ·have g:¬64256+(j:Int)≤64262:=ao g
  have hj7:j=7:=by omega
  subst hj7;refine ae (ag 2 I (J (ax (ag 1 I (J ?_)))));refine zaa (zac.none I) ?_;exact hmj
def mkE(k:List UInt8):A×A:=(.str k,.bool true)
def idxK(k:List UInt8):List (List UInt8)→Option Nat
 |[]=>none
 |x::l=>if (k==x)=true then some 0 else (idxK k l).map (·+1)
theorem zfW(k:List UInt8):∀ks,zbC (.str k) (ks.map mkE)=some ((idxK k ks).map fun i=>(i,.bool true))
 |[]=>rfl
 |x::l=>by
  have e:zbC (.str k) ((x::l).map mkE)=match some (k==x) with
   |some true=>some (some (0,.bool true))
   |some false=>match zbC (.str k) (l.map mkE) with
    |some (some (i,u))=>some (some (i+1,u))
    |some none=>some none
    |none=>none
   |none=>none:=rfl
  have e2:idxK k (x::l)=if (k==x)=true then some 0 else (idxK k l).map (·+1):=rfl
  rw[e,zfW k l,e2];cases h:(k==x) with
  |true=>rfl
  |false=>
   rw[ac aJ];cases idxK k l<;>rfl
theorem zfn(k:List UInt8):∀ks,(idxK k ks).isSome=true↔k∈ks
 |[]=>by simp[idxK]
 |x::l=>by
  unfold idxK;cases h:(k==x) with
  |true=>have:k=x:=(by simpa using h);simp[this]
  |false=>
   have:k≠x:=by simpa using h
   rw[ac aJ,Option.isSome_map,zfn k l,bx];exact⟨.inr,fun hh=>hh.resolve_left this⟩
theorem zjJ(k:List UInt8):∀(ks:List (List UInt8)) (i:Nat),idxK k ks=some i→ks.set i k=ks
 |[],i,h=>by cases h
 |x::l,i,h=>by
  unfold idxK at h;cases hk:(k==x) with
  |true=>
   rw[hk,af I] at h;have:k=x:=by simpa using hk
   cases h;rw[this];rfl
  |false=>
   rw[hk,ac aJ,cP] at h;obtain⟨j,hj,rfl⟩:=h;rw[List.set_cons_succ,zjJ k l j hj]
def addK(ks:List (List UInt8))(k:List UInt8):List (List UInt8):=if (idxK k ks).isSome=true then ks else ks++[k]
theorem zoj{ks:List (List UInt8)}{k x:List UInt8}:x∈addK ks k↔x∈ks∨x=k:=by
 unfold addK;by_cases h:(idxK k ks).isSome=true
 ·rw[af h]
  have:=(zfn k ks).1 h;exact⟨.inl,fun hh=>hh.elim id fun e=>e▸this⟩
 ·rw[ac h]
  simp
theorem zo7(ks:List (List UInt8))(k:List UInt8):putM (ks.map mkE) (.str k) (.bool true)=some ((addK ks k).map mkE):=by
 unfold putM addK;rw[zfW];cases h:idxK k ks with
 |none=>simp[mkE]
 |some i=>
  simp only[bh,Option.isSome_some,bA];rw[show((A.str k,A.bool true):A×A)=mkE k from rfl,←List.map_set,zjJ k ks i h]
def zo5(l:List (Int×Int))(ks:List (List UInt8))(c:Int):List (List UInt8):=if l.any (inP c)=true then addK ks (zbH c) else ks
abbrev zh1(rm:Nat):Blk:=.row 162 1 [[.map rm]]
def zrg(o:Oper):Nat:=match o.op with|.load 162 _=>1|.call .. =>1|.lookup .. =>1|.mapUpdate .. =>2|_=>0
theorem zjf(l:List (Int×Int))(hl:l.length≤maxLen)(rm r3:Nat)(ks:List (List UInt8))(c:Int):
  TrG [] Tryz.prog 117 ([i64 c]++[.dp [.ds (l.map zaf)],.ptr r3 1 0 0]) [(r3,zh1 rm),(rm,.map (ks.map mkE))] fun v H'=>H'=[(r3,zh1 rm),(rm,.map ((zo5 l ks c).map mkE))]:=by
 refine Jb (N:=10) Tryz.func117 I I I ?_;unfold zo5;refine ae0 (ag 4 I (O (J9 I I I (zpJ l hl _) (ab (ag 2 I (J2 ?_))))));cases h:l.any (inP c) with
 |false=>
  refine ae (ag 2 I (J ?_));refine zde (zac.none I) ?_;rfl
 |true=>
  refine ae (ag 1 I (J2 ?_));refine aH zrg (fun _=>default) okL hmix (by kernel_rfl) ?_;refine ay I I (.inl I) (J1 okL I (.head _) I I I I (Ja (ah ⟨I,I⟩))) (aa I I I ?_)
  refine ay I I (.inl I) (Jr I I I (zcI _).g (Ja (ah ⟨I,I⟩))) ?_;refine aR (R:=fun v H'=>v=.tup []∧H'=[(r3,zh1 rm),(rm,.map ((addK ks (zbH c)).map mkE))]) I I I ⟨_,_,I,I⟩ (cS okL I I I I I I I (zo7 _ _) (.there .here) I (Ja (ah ⟨I,I⟩))) ?_;rintro v H' ⟨rfl,rfl⟩;refine aF ?_;refine ax (J ?_)
  refine zde (zac.none I) ?_;rfl
def zjD(g:Option Nat)(n:Nat):List A:=[outV 2 g n]
def zik(ks:List (List UInt8))(out:List (Int×Int))(c:Int):List (Int×Int):=if (idxK (zbH c) ks).isSome=true then out++[(c,c)] else out
theorem zfF(rm r3:Nat)(ks:List (List UInt8))(r4:Nat)(g:Option Nat)(out:List (Int×Int))(hg:g=none→out=[])(ho:out.length≤1000000)(c:Int):
  TrG [] Tryz.prog 119 ([i64 c]++[.ptr r3 1 0 0,.ptr r4 1 0 0]) ((r4,.row 22 1 [zjD g out.length])::(r3,zh1 rm)::(rm,.map (ks.map mkE))::outH 166 2 g (out.map zaf))
   fun v H'=>∃g',(g'=none→zik ks out c=[])∧H'=(r4,.row 22 1 [zjD g' (zik ks out c).length])::(r3,zh1 rm)::(rm,.map (ks.map mkE))::outH 166 2 g' ((zik ks out c).map zaf):=by
 refine Jb (N:=14) Tryz.func119 I I I ?_;unfold zik;refine ae0 (ag 1 I (J2 ?_));refine aH zrg (fun _=>default) okL hmix (by kernel_rfl) ?_;refine ay I I (.inl I) (J1 okL I (.tail _ (.head _)) I I I I (Ja (ah ⟨I,I⟩))) (aa I I I ?_)
 refine ay I I (.inl I) (Jr I I I (zcI _).g (Ja (ah ⟨I,I⟩))) ?_;refine ay I I (.inl I) (cK okL I (.tail _ (.tail _ (.head _))) I I I I I I (zfW _ _) I (Ja (ah ⟨I,I⟩))) ?_;refine aF ?_;cases h:idxK (zbH c) ks with
 |none=>
  refine ae (ag 2 I (J ?_));refine zde (zac.none I) ?_;exact⟨g,hg,I⟩
 |some i=>
  refine ae (ag 2 I (O (J1 okL I (.head _) I I I I (ab (ag 3 I (O (Jh okL I I I I I I I I I I I (fun _ _=>(ab (J3 ?_))))))))));refine J7 (Jt zaf g out (c,c) [_,_,_] okL hg I I I I I I I I I (by omega) I I fun r'=>?_)
  refine ab (O (J8 okL I I I (zab I) I I I .here I I I (ab (ag 1 I (J ?_)))));refine zde (zac.none I) ?_;exact⟨some r',(fun h=>nomatch h),rfl⟩
end Go.Proofs.YtpopmiodjibljaaGreatDoor
namespace Go.Abs
open Go Go.Sort
def zbN(x:Int×Int):List Value:=[.int .i64 x.1,.int .i64 x.2]
theorem zhq{fr:Nat→Prop}{H:Heap}{w:World}{r e:Nat}{l:List (Int×Int)}(h:zdK w (own fr H) r (.row e 2 (l.map zaf))):
  ∃c:Array Value,w.heap[r]?=some (.cells c e (0,0))∧l.length*2≤c.size∧∀i (hi:i<l.length),c[i*2]?=some (.int .i64 l[i].1)∧c[i*2+1]?=some (.int .i64 l[i].2)∧inR .i64 l[i].1∧inR .i64 l[i].2:=by
 obtain⟨c,h1,h2,h3,h4⟩:=h;refine⟨c,h1,by simpa using h2,fun i hi=>?_⟩
 obtain⟨v,a1,a2,_⟩:=h4 i (by simpa using hi) 0 (by simp[zaf]);obtain⟨u,b1,b2,_⟩:=h4 i (by simpa using hi) 1 (by simp[zaf]);simp only[co,zaf,bQ,dy] at a2 b2;cases a2 with
 |int _ _ ha=>
 cases b2 with
 |int _ _ hb=>
 exact⟨a1,b1,ha,hb⟩
theorem zl4(d:Array (Int×Int))(i:Nat)(hi:i<d.size):(flatK zbN 2 d)[i*2]! =.int .i64 d[i].1∧(flatK zbN 2 d)[i*2+1]! =.int .i64 d[i].2:=by
 have e1:i*2 / 2=i:=by omega
 have e2:i*2%2=0:=by omega
 have e3:(i*2+1) / 2=i:=by omega
 have e4:(i*2+1)%2=1:=by omega
 constructor
 ·rw[get_flatK _ _ _ _ (by omega),e1,e2,getElem!_pos d i hi];rfl
 ·rw[get_flatK _ _ _ _ (by omega),e3,e4,getElem!_pos d i hi];rfl
theorem zdH{fr:Nat→Prop}{H:Heap}{w:World}{r e:Nat}{l:List (Int×Int)}(h:zdK w (own fr H) r (.row e 2 (l.map zaf))):HoldsK zbN 2 w r 0 l.toArray:=by
 obtain⟨c,h1,h2,h3⟩:=zhq h;intro j hj;rw[size_flatK] at hj;simp only[bR] at hj;have hc:w.cell? ⟨r,0+j,none⟩=c[j]?:=by
  rw[aS];simp only[World.cell?,h1];rfl
 have hf:w.frozen? ⟨r,0+j,none⟩=false:=by
  simp only[World.frozen?,h1];simp
 refine⟨?_,hf⟩;rw[hc];have hi:j / 2<l.length:=by omega
 have hk:=h3 (j / 2) hi;have hfl:=zl4 l.toArray (j / 2) (by simpa using hi);simp only[List.getElem_toArray] at hfl;rcases Nat.mod_two_eq_zero_or_one j with h0|h0
 ·have e:j / 2*2=j:=by omega
  rw[e] at hk hfl;rw[hfl.1];exact hk.1
 ·have e:j / 2*2+1=j:=by omega
  rw[e] at hk hfl;rw[hfl.2];exact hk.2.1
theorem ze2{fr:Nat→Prop}{w:World}{r e n:Nat}{l l':List (Int×Int)}{os:Array Obj}(s:Sim fr [(r,.row e 2 (l.map zaf))] w)(hp:l'.Perm l):
  Sim fr [(r,.row e 2 (l'.map zaf))] (grow (putRowK zbN 2 (Sort.ahead w n) r 0 l'.toArray) os)∧Ext [(r,.row e 2 (l.map zaf))] w [(r,.row e 2 (l'.map zaf))] (grow (putRowK zbN 2 (Sort.ahead w n) r 0 l'.toArray) os):=by
 have hlen:=hp.length_eq;obtain⟨c,h1,h2,h3⟩:=zhq (s.ok _ aE);have hlt:r<w.heap.size:=(Array.getElem?_eq_some_iff.1 h1).1;have hheap:∀k,k<w.heap.size→(grow (putRowK zbN 2 (Sort.ahead w n) r 0 l'.toArray) os).heap[k]?=if r=k then some (.cells (putCells id 0 (flatK zbN 2 l'.toArray) c) e (0,0)) else w.heap[k]?:=fun k hk=>by
  simp only[grow,putRowK,putRow,mapBlock,Sort.ahead];rw[Array.getElem?_append_left (by simpa using hk),Array.getElem?_modify];split
  ·rename_i hrk
   subst hrk;rw[h1];rfl
  ·rfl
 have hsize:w.heap.size≤(grow (putRowK zbN 2 (Sort.ahead w n) r 0 l'.toArray) os).heap.size:=by
  simp[grow,putRowK,putRow,mapBlock,Sort.ahead]
 have hcs:(putCells id 0 (flatK zbN 2 l'.toArray) c).size=c.size:=by simp[putCells]
 have hcell:∀t,t<l'.length*2→(putCells id 0 (flatK zbN 2 l'.toArray) c)[t]?=some ((flatK zbN 2 l'.toArray)[t]!):=fun t ht=>by
  simp only[putCells,Array.getElem?_mapIdx];rw[Array.getElem?_eq_getElem (show t<c.size by omega)]
  simp only[bh,aS,Nat.sub_zero,id];rw[af ⟨aM _,by rw[size_flatK];simpa using ht⟩]
 have hrange:∀x∈l',inR .i64 x.1∧inR .i64 x.2:=fun x hx=>by
  obtain⟨i,hi,rfl⟩:=List.mem_iff_getElem.1 (hp.mem_iff.1 hx);exact(h3 i hi).2.2
 refine⟨⟨s.nodup,s.apart,fun k hk=>cy (s.old k hk) hsize,fun p hp'=>?_⟩,⟨I,I,I,hsize,fun k hk hn=>?_,fun k hk=>.inl hk,fun k hk c' T' f h=>?_⟩⟩
 ·rw[List.mem_singleton.1 hp']
  refine⟨putCells id 0 (flatK zbN 2 l'.toArray) c,?_,by rw[hcs];simp;omega,fun i hi=>by simp[zaf],fun i hi j hj=>?_⟩
  ·rw[hheap r hlt,af I]
  ·have hi':i<l'.length:=by simpa using hi
   have hfl:=zl4 l'.toArray i (by simpa using hi');simp only[List.getElem_toArray] at hfl;have hr:=hrange l'[i] (bz _);simp only[co,zaf,aX,br] at hj ⊢
   match j,hj with
   |0,_=>exact⟨_,by rw[bG,hcell _ (by omega),hfl.1],.int _ _ hr.1,rfl⟩
   |1,_=>exact⟨_,by rw[hcell _ (by omega),hfl.2],.int _ _ hr.2,rfl⟩
 ·rw[hheap k hk,ac (fun e=>hn (by subst e;simp[keys]))]
 ·rw[hheap k hk] at h
  split at h
  ·rename_i hrk
   subst hrk;cases h;exact⟨c,_,h1,hcs.symm⟩
  ·exact⟨c',f,h,I⟩
end Go.Abs
namespace Go.Proofs.YtpopmiodjibljaaGreatDoor
open Go Go.Abs Go.Lib Go.Sort Go.Shelf Go.RowKit
shelf_lay LaysGg.n6 Ggs 6 at Tryz as Tryz.sortSl
noncomputable def svT:TypeInfo:=(Tryz.prog.info? 22).get (by kernel_rfl)
noncomputable def svE:TypeInfo:=(Tryz.prog.info? 166).get (by kernel_rfl)
theorem svK(n:Nat)(h2:2≤n):Lib.swapperK n svE 25=9:=by
 have a:svE.hasPointers=false:=by kernel_rfl
 have b:svE.bytes=16:=by kernel_rfl
 have c:(n==0)=false:=by simp;omega
 have d:(n==1)=false:=by simp;omega
 simp[Lib.swapperK,a,b,c,d]
def zg5(x y:Int×Int):Bool:=decide (x.1<y.1)
theorem zm7:SWO zg5 where
 irrefl x:=by simp[zg5]
 trans x y z h1 h2:=by simp[zg5] at*;omega
 ntrans x y z h1 h2:=by simp[zg5] at*;omega
set_option maxHeartbeats 2000000 in
theorem lessSp(blk off c Bs size:Nat)(W:World)(G:Nat→Int)(hs:W.cell? ⟨Bs,0,none⟩=some (.slice (some ⟨blk,off,none⟩) size c))
  (hc:∀t,t<size→W.cell? ⟨blk,off+t*2,none⟩=some (.int .i64 (G t))) (i j:Nat) (hi:i<size) (hj:j<size) (_hsz:size<4611686018427387904):
  Calls Tryz.prog 168 #[.int .i64 i,.int .i64 j,.pointer (some ⟨Bs,0,none⟩)] W fun e w'=>e=.returned (.bool (decide (G i<G j)))∧∃q,w'=W.drewN q:=by
 have ci:=hc i hi;have cj:=hc j hj
 go_enter Tryz.func168,Tryz.ntmps168
 go_wp2
 go_quiet (fail)
 go_wp2
 go_ret
 exact⟨I,nq,I⟩
theorem zl3:zcq Tryz.prog 167:=⟨Tryz.f167,by kernel_rfl,by kernel_rfl,by kernel_rfl⟩
theorem zpX(blk off c Bs c1:Nat)(d:Array (Int×Int))(h2:2≤d.size)(hsz:d.size<4611686018427387904)(w:World)(hH:HoldsK zbN 2 w blk off d)(hblk:blk<w.heap.size)
  (hBs:w.cell? ⟨Bs,0,none⟩=some (.slice (some ⟨blk,off,none⟩) d.size c1)) (hB1:Bs<w.heap.size) (hB2:Bs≠blk):
  Calls Tryz.prog 167 #[.iface 22 (.slice (some ⟨blk,off,none⟩) d.size c),.func (.func 168) #[] #[.pointer (some ⟨Bs,0,none⟩)]] w fun e w'=>
   e=.returned (.tuple #[])∧∃d' n os,PermIn 0 d.size d d'∧SortedIn zg5 0 d.size d'∧w'=grow (putRowK zbN 2 (Sort.ahead w n) blk off d') os:=by
 have hless:LessReadsK Tryz.prog 168 #[.pointer (some ⟨Bs,0,none⟩)] zbN 2 zg5 blk off d.size w:=by
  intro m os dk hs i j hi hj;have e:sortWorldK zbN 2 w blk off m dk os=putRowK zbN 2 (grow (Sort.ahead w m) os) blk off dk:=by
   unfold sortWorldK;rw[putRowK_grow _ _ (Sort.ahead w m) _ blk off _ hblk]
  have hHg:HoldsK zbN 2 (grow (Sort.ahead w m) os) blk off d:=holdsK_grow _ _ _ _ blk off d hblk (holdsK_ahead _ _ _ _ _ _ _ hH);refine lessSp blk off c1 Bs d.size _ (fun t=>dk[t]!.1) ?_ (fun t ht=>?_) i j hi hj (by omega)
  ·rw[e,cell?_putRowK_other _ _ _ blk off dk _ (by exact hB2),cell?_grow _ _ _ (by exact hB1)];exact hBs
  ·rw[e];exact((holdsK_putRowK _ _ _ blk off d dk hHg hs).cell (i:=t) (c:=0) (by omega) (by omega)).1
 exact Any.sort_Slice_cells_sorted Tryz.sortSl 22 166 svT svE (by kernel_rfl) (by kernel_rfl) (by kernel_rfl) (by kernel_rfl) 25 (fun _=>by kernel_rfl) zbN 2 (fun _=>rfl) (by kernel_rfl) (fun _=>by kernel_rfl)
  (fun x v hv=>by simp[zbN] at hv;rcases hv with rfl|rfl<;>rfl) zg5 zm7 168 _
  (enters_of Tryz.func168 (by kernel_rfl) I) blk off c d h2 hsz 269 (by rw[svK _ h2];kernel_rfl) false
  (fun args W=>run_callFunc_extern Tryz.func269 (by kernel_rfl) (by kernel_rfl) (by kernel_rfl) (e:=Extern.ReflectliteSwapper.swap false) (by kernel_rfl) args W) w hless hH hblk
theorem zka(p:Option Addr)(n c:Nat)(h1:n≤1)(w:World)(lb:Array Value):
  Calls Tryz.prog 167 #[.iface 22 (.slice p n c),.func (.func 168) #[] lb] w fun e w'=>e=.returned (.tuple #[])∧∃os,w'=grow w os:=by
 have hK:Lib.swapperK n svE 25=n+1:=by
  rcases cR n with h|h
  ·subst h;simp[Lib.swapperK]
  ·obtain rfl:n=1:=by omega
   simp[Lib.swapperK]
 exact Any.sort_Slice_tiny Tryz.sortSl 22 166 svT svE (by kernel_rfl) (by kernel_rfl) (by kernel_rfl) (by kernel_rfl) 25 (fun _=>by kernel_rfl) p n c h1 (261+n) (by
  rw[hK];rcases cR n with h|h
  ·subst h;kernel_rfl
  ·obtain rfl:n=1:=by omega
   kernel_rfl) _ _ _ w
theorem zso{l:List (Int×Int)}{d':Array (Int×Int)}(p1:l.length=d'.size)(hs:SortedIn zg5 0 l.length d'):asc d'.toList:=by
 refine List.pairwise_iff_getElem.2 fun i j hi hj hij=>?_;have hi':i<d'.size:=by simpa using hi
 have hj':j<d'.size:=by simpa using hj
 have:=hs i j (aM _) hij (by omega);rw[zg5,getElem!_pos d' i hi',getElem!_pos d' j hj'] at this;have:=ao this;simp only[Array.getElem_toList];omega
theorem zlC(r r1:Nat)(l:List (Int×Int))(hl:l.length≤1000000):
  Tr Tryz.prog 167 [.iface 22 (.os r 2 0 l.length),.fn 168 [] [.ptr r1 1 0 0]] ([(r,.row 166 2 (l.map zaf))]++[(r1,.row 22 1 [[.os r 2 0 l.length]])])
   fun v H'=>v=.tup []∧∃l':List (Int×Int),l'.Perm l∧asc l'∧H'=[(r,.row 166 2 (l'.map zaf))]++[(r1,.row 22 1 [[.os r 2 0 l.length]])]:=by
 refine⟨zl3,fun fr w vs s hr=>?_⟩;have s1:=s.split;have hrow:zdK w (own (fun k=>fr k∨k∈keys [(r1,Blk.row 22 1 [[A.os r 2 0 l.length]])]) [(r,.row 166 2 (l.map zaf))]) r (.row 166 2 (l.map zaf)):=s1.ok _ aE;have hblk:r<w.heap.size:=hrow.lt;have hcell:=s.ok (r1,.row 22 1 [[.os r 2 0 l.length]]) (by simp);obtain⟨cc,e1,e2,e3,e4⟩:=hcell;obtain⟨v1,f1,f2,_⟩:=e4 0 (by simp) 0 (by simp);simp only[bQ] at f2;have hne:r1≠r:=by
  have:=s.nodup;simp[keys] at this;exact fun e=>this e.symm
 have hB1:r1<w.heap.size:=(Array.getElem?_eq_some_iff.1 e1).1;cases hr with
 |cons h1 ht=>
 cases ht with
 |cons h2 ht=>
 cases ht;obtain⟨fs,cs,rfl,q1,q2⟩:=h2.fn_inv;have g1:fs=#[]:=by
  generalize hq:fs.toList=q at q1
  cases q1;have:=ai List.toArray hq;simpa using this
 have g2:cs=#[.pointer (some ⟨r1,0,none⟩)]:=by
  generalize hq:cs.toList=q at q2
  cases q2 with
  |cons k1 k2=>
  cases k2;cases k1;have:=ai List.toArray hq;simpa using this
 subst g1 g2;cases h1 with
 |iface _ _ _ h1=>
 cases h1 with
 |os _ _ _ _ cap hrr hcap hmax hroom=>
 cases f2 with
 |os _ _ _ _ cap1 hrr1 hcap1 hmax1 hroom1=>
 have hBs:w.cell? ⟨r1,0,none⟩=some (.slice (some ⟨r,0,none⟩) l.length cap1):=by
  have:w.cell? ⟨r1,0,none⟩=cc[0]?:=by
   simp only[World.cell?,e1];rfl
  rw[this];simpa using f1
 simp only[ce];have fin:∀(w':World),(∃l':List (Int×Int),l'.Perm l∧asc l'∧∃n os,w'=grow (putRowK zbN 2 (Sort.ahead w n) r 0 l'.toArray) os)→∃r' H' v,(Ending.returned (Value.tuple #[]))=.returned v∧(r'=.tup []∧∃l':List (Int×Int),l'.Perm l∧asc l'∧H'=[(r,Blk.row 166 2 (l'.map zaf))]++[(r1,.row 22 1 [[.os r 2 0 l.length]])])∧Sim fr H' w'∧Rep w' (own fr H') r' v∧Ext ([(r,Blk.row 166 2 (l.map zaf))]++[(r1,.row 22 1 [[.os r 2 0 l.length]])]) w H' w':=by
  rintro w' ⟨l',hp,ha,n,os,rfl⟩;obtain⟨s',x'⟩:=ze2 (n:=n) (os:=os) s1 hp;exact⟨.tup [],_,_,I,⟨I,l',hp,ha,I⟩,Sim.join s s' x',cD .nil,x'.frame⟩
 by_cases hn:2≤l.length
 ·have hc:=zpX r 0 cap r1 cap1 l.toArray (by simpa using hn) (by simp;omega) w (zdH hrow) hblk (by simpa using hBs) hB1 hne
  simp only[bR] at hc;refine hc.mono ?_;rintro e w' ⟨rfl,d',n,os,hp,hs,rfl⟩;obtain⟨p1,_,p3⟩:=hp;simp only[bR] at p1;have e1:(d'.extract 0 l.length).toList=d'.toList:=by simp[←p1]
  have e2:(l.toArray.extract 0 l.length).toList=l:=by simp
  rw[e1,e2] at p3;exact fin _ ⟨d'.toList,p3,zso p1.symm hs,n,os,by simp⟩
 ·have hc:=zka (some ⟨r,0,none⟩) l.length cap (by omega) w #[.pointer (some ⟨r1,0,none⟩)]
  refine hc.mono ?_;rintro e w' ⟨rfl,os,rfl⟩;refine fin _ ⟨l,ar _,?_,0,os,?_⟩
  ·match l,hn with
   |[],_=>exact List.Pairwise.nil
   |[x],_=>exact List.pairwise_singleton _ _
   |_::_::_,hn=>exact absurd (by simp) hn
  ·have:putRowK zbN 2 (Sort.ahead w 0) r 0 l.toArray=w:=by
    show putRow id w r 0 (flatK zbN 2 l.toArray)=w
    exact putRow_self _ _ r 0 _ (zdH hrow)
   rw[this]
theorem zsK{fr:Nat→Prop}{w:World}(s:Sim fr [] w)(os:Array Obj):Sim fr [] (grow w os)∧Ext [] w [] (grow w os):=by
 have hs:w.heap.size≤(grow w os).heap.size:=by simp[grow]
 have hh:∀k,k<w.heap.size→(grow w os).heap[k]?=w.heap[k]?:=fun k hk=>by
  simp only[grow];rw[Array.getElem?_append_left hk]
 refine⟨⟨dn,fun k hk=>(by cases hk),fun k hk=>cy (s.old k hk) hs,fun p hp=>(by cases hp)⟩,⟨I,I,I,hs,fun k hk _=>hh k hk,fun k hk=>(by cases hk),fun k hk c T f h=>?_⟩⟩;rw[hh k hk] at h;exact⟨c,f,h,I⟩
theorem zkP(r1:Nat)(b:Blk):Tr Tryz.prog 167 [.iface 22 .nils,.fn 168 [] [.ptr r1 1 0 0]] [(r1,b)] fun v H'=>v=.tup []∧H'=[(r1,b)]:=by
 refine⟨zl3,fun fr w vs s hr=>?_⟩;have s0:Sim fr ([]++[(r1,b)]) w:=s;have s1:=s0.split;cases hr with
 |cons h1 ht=>
 cases ht with
 |cons h2 ht=>
 cases ht;obtain⟨fs,cs,rfl,q1,q2⟩:=h2.fn_inv;have g1:fs=#[]:=by
  generalize hq:fs.toList=q at q1
  cases q1;have:=ai List.toArray hq;simpa using this
 subst g1;cases h1 with
 |iface _ _ _ h1=>
 cases h1;have hc:=zka none 0 0 (by omega) w cs;refine hc.mono ?_;rintro e w' ⟨rfl,os,rfl⟩;obtain⟨s',x'⟩:=zsK s1 os;exact⟨.tup [],_,_,I,⟨I,I⟩,Sim.join s0 s' x',cD .nil,x'.frame⟩
end Go.Proofs.YtpopmiodjibljaaGreatDoor
namespace Go.Abs
open Go
def zim(o rest:List (Int×Int)):List (Int×Int):=match o.getLast? with
 |none=>zeo rest
 |some y=>o.dropLast++zca y rest
theorem zcF(pre:List (Int×Int))(y:Int×Int)(rest:List (Int×Int)):zim (pre++[y]) rest=pre++zca y rest:=by
 simp[zim]
theorem zmi(o:List (Int×Int)):zim o []=o:=by
 rcases dA o with rfl|⟨pre,y,rfl⟩
 ·rfl
 ·rw[dB,zcF];rfl
theorem zkS{pre:List (Int×Int)}{y x:Int×Int}{rest:List (Int×Int)}(h:x.1≤y.2+1):zim (pre++[y]) (x::rest)=zim (pre++[(y.1,max y.2 x.2)]) rest:=by
 rw[zcF,zcF,zca,af h]
theorem zi2{pre:List (Int×Int)}{y x:Int×Int}{rest:List (Int×Int)}(h:¬x.1≤y.2+1):zim (pre++[y]) (x::rest)=zim (pre++[y]++[x]) rest:=by
 rw[zcF,zcF,zca,ac h,aI];rfl
end Go.Abs
namespace Go.Proofs.YtpopmiodjibljaaGreatDoor
open Go Go.Abs
def srtS(l:List (Int×Int)):List (Int×Int):=l.mergeSort fun x y=>decide (x.1≤y.1)
theorem zdl(l:List (Int×Int)):(srtS l).Perm l:=List.mergeSort_perm _ _
theorem zg8(l:List (Int×Int)):asc (srtS l):=by
 have:=List.pairwise_mergeSort (le:=fun x y:Int×Int=>decide (x.1≤y.1)) (by intro a b c h1 h2;simp at*;omega) (by intro a b;simp;omega) l;exact this.imp fun h=>by simpa using h
theorem zh4{l l':List (Int×Int)}(hp:l'.Perm l)(ha:asc l')(hok:∀x∈l,0≤x.1∧okS' x):zeo l'=zeo (srtS l):=by
 have hok1:∀x∈l',0≤x.1∧okS' x:=fun x hx=>hok x (hp.mem_iff.1 hx);have hok2:∀x∈srtS l,0≤x.1∧okS' x:=fun x hx=>hok x ((zdl l).mem_iff.1 hx);refine zr2 (zip hok1 ha) (zip hok2 (zg8 l)) fun n=>?_;rw[zg9 (fun x hx=>(hok1 x hx).2) ha,zg9 (fun x hx=>(hok2 x hx).2) (zg8 l),zgI hp,zgI (zdl l)]
def zrG(o:Oper):Nat:=match o.op with|.load .. =>1|.store .. =>2|_=>0
theorem zcC(l0:List (Int×Int))(hok:∀x∈l0,0≤x.1∧okS' x)(hl0:l0.length≤1000000):PTr Tryz.prog 120 [.ds (l0.map zaf)] (.ds ((zeo (srtS l0)).map zaf)):=by
 refine aC (N:=55) Tryz.func120 I I I ?_;refine ae0 (ag 2 I (O (Jk I I (zab I) I I (fun _ _=>(ab (ag 5 I (O (J1 okL I (.head _) I I I I (ab (J3 ?_))))))))));rename_i r1 _;refine J7 (Jd [_] I I I I (ziE l0 hl0) fun v H' hv=>?_)
 obtain⟨g,hg,rfl,rfl⟩:=hv;cases g with
 |none=>
  have h0:=hg I;subst h0;refine ab (O (J8 okL I I I (zab I) I I I .here I I I (ab (ag 4 I (O (J1 okL I (.head _) I I I I (ab (ag 2 I (J3 ?_)))))))));refine J7 (Ji I I I (Tr.g (zkP r1 _)) fun v H' hv=>?_)
  obtain⟨rfl,rfl⟩:=hv;refine ab (ag 10 I (O (J1 okL I (.head _) I I I I (ab (ag 5 I (J2 ?_))))));refine cA (f:=zaf) (g:=none) (l:=[]) (pre:=[(r1,_)]) (t:=3) (sz:=2) (e:=166) I I (fun _=>rfl) ?_;refine Jj (α:=Unit) (fun _=>0) (fun _=>[(14,i64 0),(15,i64 0),(3,.ds [])]) (fun _=>[(r1,_)]) (fun _=>True) () trivial ?_ (ar _) ?_
  ·simp only[zaz]
   refine⟨I,I,I,trivial⟩
  rintro _ _ ih;refine ae0 (ag 9 I (J (ae (ag 7 I (J ?_)))));refine zaa (J5 I I) ?_;have:srtS []=[]:=by simp[srtS]
  rw[this];rfl
 |some r=>
  refine ab (O (J8 okL I I I (zab I) I I I .here I I I (ab (ag 4 I (O (J1 okL I (.head _) I I I I (ab (ag 2 I (J3 ?_)))))))));have st:=zlC r r1 l0 hl0;have e0:l0.length=(l0.map zaf).length:=(ak ..).symm;rw[e0] at st;refine J7 (Jp (F:=[]) I I I (by rw[aQ];exact bX _ _ _) (Tr.g st) fun v H' hv=>?_)
  obtain⟨rfl,l,hl,hla,rfl⟩:=hv;have hll:=hl.length_eq;have hok1:∀x∈l,0≤x.1∧okS' x:=fun x hx=>hok x (hl.mem_iff.1 hx);have hjoin:=zh4 hl hla hok;have hln:l.length≤1000000:=by rw[hll];exact hl0
  rw[←hjoin,aQ];have elen:(l0.map zaf).length=l.length:=by rw[ak,hll]
  rw[elen];refine ab (ag 10 I (O (J1 okL I (.tail _ (.head _)) I I I I (ab (ag 5 I (J2 ?_))))));refine AWp.perm (bX _ _ _) ?_;refine cA (t:=13) (f:=zaf) (g:=some r) (l:=l) (pre:=[(r1,_)]) (sz:=2) (e:=166) I I (fun h=>nomatch h) ?_;refine Jj (α:=Nat×Option Nat×List (Int×Int)) (fun s=>l.length - s.1) (fun s=>[(13,.ds (l.map zaf)),(14,i64 l.length),(15,i64 s.1),(3,outV 2 s.2.1 s.2.2.length)]) (fun s=>(r1,.row 22 1 [[.os r 2 0 l.length]])::outH 166 2 s.2.1 (s.2.2.map zaf))
   (fun s=>s.1≤l.length∧(s.2.1=none→s.2.2=[])∧zim s.2.2 (l.drop s.1)=zeo l∧s.2.2.length≤s.1∧∀z∈s.2.2,0≤z.1∧okS' z) (0,none,[]) ⟨aM _,fun _=>rfl,I,au _,fun z hz=>(by cases hz)⟩ ?_ (ar _) ?_
  ·simp only[zaz]
   refine⟨I,I,I,I,trivial⟩
  rintro⟨k,g3,o⟩ ⟨hk,hg3,hv,hol,hoo⟩ ih;simp only at hk hg3 hv hol hoo;refine ae0 (ag 6 I (J2 ?_))
  (refine J4 I (fun h=>?_) (fun h=>?_))
  ·have h:(k:Int)<l.length:=aj h
   obtain⟨x,hx⟩:∃x,l[k]?=some x:=⟨l[k],by simp[show k<l.length by omega]⟩
   have nx:=nxt (k:=k) (n:=l.length) (by omega) (by unfold maxLen;omega);have hxo:=hok1 x (List.mem_of_getElem? hx);rw[zaA hx] at hv;refine ae (ag 6 I (Jo okL (zad I I I I I (by omega) (getS hx) I) I (ag 1 I (O (Jf okL I I I (fun _ _=>(ab (O (J8 okL I I I (zab I) I I I .here I I I (ab (ag 6 I (J3 ?_))))))))))));rename_i r6 _;rcases dA o with rfl|⟨pre,y,rfl⟩
   ·cases g3 with
    |none=>
     refine ab (ag 5 I (Jq okL hmix (by kernel_rfl) (ag 21 I (O (J1 okL I (.head _) I I I I (ab (O (Jh okL I I I I I I I I I I I (fun _ _=>(ab (J3 ?_)))))))))));refine J7 (cB zaf none [] [x] [(r6,.row 166 2 [zaf x]),(r1,_)] okL (fun _=>rfl) I I I (by simp) I I I I (fun a _=>rfl) (fun a _=>rfl) (by simp) I I fun r' _=>?_)
     refine ab (ag 8 I (J (zae ?_)))
     (refine aq 1 (ih ((k+1,some r',[]++[x])) (⟨by simp only;omega,fun h=>(by cases h),hv,by simp,fun z hz=>(by simp at hz;subst hz;exact hxo)⟩) (by omega)) ?_ I;exact⟨I,I,ai some nx,I,trivial⟩)
    |some r3=>
     refine ab (ag 5 I (Jq okL hmix (by kernel_rfl) (ag 21 I (O (J1 okL I (.head _) I I I I (ab (O (Jh okL I I I I I I I I I I I (fun _ _=>(ab (J3 ?_)))))))))));refine J7 (cB zaf (some r3) [] [x] [(r6,.row 166 2 [zaf x]),(r1,_)] okL (fun h=>by cases h) I I I (by simp) I I I I (fun a _=>rfl) (fun a _=>rfl) (by simp) I I fun r' _=>?_)
     refine ab (ag 8 I (J (zae ?_)))
     (refine aq 1 (ih ((k+1,some r',[]++[x])) (⟨by simp only;omega,fun h=>(by cases h),hv,by simp,fun z hz=>(by simp at hz;subst hz;exact hxo)⟩) (by omega)) ?_ I;exact⟨I,I,ai some nx,I,trivial⟩)
   ·rw[dB] at*
    cases g3 with
    |none=>exact absurd (hg3 rfl) (by simp)
    |some r3=>
     have hy:=hoo y (by simp);unfold okS' at hy hxo;have hpl:(pre++[y]).length=pre.length+1:=by simp
     have hwl:IntKind.i64.wrap (((pre++[y]).length:Int) - 1)=(pre.length:Int):=by rw[zap ⟨by omega,by omega⟩];omega
     have hw3:IntKind.i64.wrap (y.2+1)=y.2+1:=zap ⟨by omega,by omega⟩
     have hpos:decide (((pre++[y]).length:Int)>0)=true:=aA (by omega);refine ab (ag 5 I (J2 ?_));refine aH zrG (fun _=>default) okL hmix (by kernel_rfl) ?_
     (repeat (refine aa I I I ?_))
     have m1:((pre++[y]).map zaf)[0+((pre.length:Nat):Int).toNat]?=some (zaf y):=by simp
     rw[hpos];refine aa I I I (ay I I (.inl I) (J1 okL I (.head _) I I I I (Ja (ah ⟨I,I⟩))) (aa I I I (aa I I I (aa I I I ?_))));rw[hwl];refine aa I I (zaN I I I I I (by omega) (by simp only;omega) I) (aa I I I ?_)
     refine ay I I (.inl I) (J1 okL I (.tail _ (.tail _ (.head _))) m1 I I I (Ja (ah ⟨I,I⟩))) ?_
     (repeat (refine aa I I I ?_))
     rw[hw3];refine aF ?_;refine ae (J2 ?_)
     (refine J4 I (fun g4=>?_) (fun g4=>?_))
     ·have g4:x.1≤y.2+1:=aj g4
      rw[zkS g4] at hv;refine ae (ag 1 I (J2 ?_));refine aH zrG (fun _=>default) okL hmix (by kernel_rfl) ?_
      (repeat (refine aa I I I ?_))
      rw[hwl];refine aa I I (zaN I I I I I (by omega) (by simp only;omega) I) (aa I I I ?_)
      refine ay I I (.inl I) (J1 okL I (.tail _ (.tail _ (.head _))) m1 I I I (Ja (ah ⟨I,I⟩))) ?_;refine aa I I I (ay I I (.inl I) (J1 okL I (.head _) I I I I (Ja (ah ⟨I,I⟩))) (aa I I I (aa I I (zaN I I I I I (by omega) (by simp only;omega) I) (aa I I I ?_))));refine bn I I I (J8 okL I I I (zab I) I I I (.there (.there .here)) m1 I I (Ja (ah ⟨I,I⟩))) ?_;refine aF ?_;have hmx:(if x.2>y.2 then x.2 else y.2)=max y.2 x.2:=by omega
      refine ae (ag 8 I (J (zae ?_)));refine aq 1 (ih (k+1,some r3,pre++[(y.1,max y.2 x.2)]) ⟨by simp only;omega,fun h=>(by cases h),hv,by simp at hol ⊢;omega,fun z hz=>(by
       rcases List.mem_append.1 hz with h|h
       ·exact hoo z (List.mem_append.2 (.inl h))
       ·rw[List.mem_singleton.1 h];unfold okS';simp only;omega)⟩ (by simp only;omega)) ?_ ?_
      ·refine⟨I,I,ai some nx,?_,trivial⟩
       show some (A.os r3 2 0 (pre++[y]).length)=some (A.os r3 2 0 (pre++[(y.1,max y.2 x.2)]).length)
       simp
      ·show[(r1,Blk.row 22 1 [[.os r 2 0 l.length]]),(r3,Blk.row 166 2 (((pre++[y]).map zaf).set (0+((pre.length:Nat):Int).toNat) (zaf (y.1,if x.2>y.2 then x.2 else y.2))))]=[(r1,Blk.row 22 1 [[.os r 2 0 l.length]]),(r3,Blk.row 166 2 ((pre++[(y.1,max y.2 x.2)]).map zaf))]
       rw[hmx];simp[List.set_append]
     ·have g4:¬x.1≤y.2+1:=ao g4
      rw[zi2 g4] at hv;refine ae (ag 4 I (O (J1 okL I (.head _) I I I I (ab (O (Jh okL I I I I I I I I I I I (fun _ _=>(ab (J3 ?_)))))))));refine J7 (cB zaf (some r3) (pre++[y]) [x] [(r6,.row 166 2 [zaf x]),(r1,_)] okL (fun h=>by cases h) I I I (by simp) I I I I (fun a _=>rfl) (fun a _=>rfl) (by simp at hol ⊢;omega) I I fun r' _=>?_)
      refine ab (ag 8 I (J (zae ?_)))
      (refine aq 1 (ih ((k+1,some r',pre++[y]++[x])) (⟨by simp only;omega,fun h=>(by cases h),hv,by simp at hol ⊢;omega,fun z hz=>(by rcases List.mem_append.1 hz with h|h;exact hoo z h;rw[List.mem_singleton.1 h];exact hxo)⟩) (by omega)) ?_ I;exact⟨I,I,ai some nx,I,trivial⟩)
  ·have h:¬(k:Int)<l.length:=ao h
   rw[aW (by omega),zmi] at hv;refine cA (f:=zaf) (g:=g3) (l:=o) (pre:=[(r1,_)]) (t:=3) (sz:=2) (e:=166) I I hg3 ?_;refine ae (ag 2 I (J (ae (ag 7 I (J ?_)))));refine zaa (J5 I I) ?_;rw[hv]
def zcL(l:List (Int×Int)):Nat→List (List UInt8)
 |0=>[]
 |k+1=>zo5 l (zcL l k) (zal k)
def outK(l:List (Int×Int)):Nat→List (Int×Int)
 |0=>l
 |k+1=>zik (zcL l 8201) (outK l k) (zal k)
theorem zdA(l:List (Int×Int)):∀k,(outK l k).length≤l.length+k
 |0=>au _
 |k+1=>by
  have:=zdA l k;unfold outK zik;split<;>simp<;>omega
theorem zl2(k:Nat)(h:k<8201):0≤zal k∧zal k≤1114111:=by
 unfold zal;split
 ·omega
 ·split
  ·omega
  ·split<;>omega
theorem zeJ{l:List (Int×Int)}(h:∀x∈l,0≤x.1∧okS' x):∀k,k≤8201→∀x∈outK l k,0≤x.1∧okS' x
 |0,_=>h
 |k+1,hk=>fun x hx=>by
  have ih:=zeJ h k (by omega);have hf:=zl2 k (by omega);unfold outK zik at hx;split at hx
  ·rcases List.mem_append.1 hx with hx|hx
   ·exact ih x hx
   ·rw[List.mem_singleton.1 hx]
    exact⟨hf.1,am _,hf.2⟩
  ·exact ih x hx
def widL(l:List (Int×Int)):List (Int×Int):=zeo (srtS (outK l 8201))
theorem zlm(l:List (Int×Int))(hok:∀x∈l,0≤x.1∧okS' x)(hl:l.length≤100000):PTr Tryz.prog 63 [.ds (l.map zaf)] (.ds ((widL l).map zaf)):=by
 refine aC (N:=14) Tryz.func63 I I I ?_;refine ae0 (ag 2 I (O (Jc 1 I I (zab I) I (ab (ag 5 I (J3 ?_))))));refine J7 (cZ I fun rm _=>?_)
 refine ab (O (Jf okL I I I (fun _ _=>(ab (O (J8 okL I I I (zab I) I I I .here I I I (ab (ag 5 I (J3 ?_)))))))));rename_i r3 _;refine J7 (Ji I I I (zf0 _ _ (fun k H=>H=[(r3,zh1 rm),(rm,.map ((zcL l k).map mkE))]) _ I (fun k H _ hH=>by
  subst hH;exact zjf l (by unfold maxLen;omega) rm r3 (zcL l k) (zal k))) fun v H' hv=>?_)
 subst hv;refine ab (ag 5 I (J3 ?_));refine J7 (Jd [_,_] I I I (by rw[aQ]) (ziE l (by omega)) fun v H' hr=>?_)
 obtain⟨g,hg,rfl,rfl⟩:=hr;rw[ak];cases g with
 |none=>
  refine ab (O (Jf okL I I I (fun _ _=>(ab (O (J8 okL I I I (zab I) I I I .here I I I (ab (ag 5 I (J3 ?_)))))))));rename_i r4 _;refine J7 (Ji I I I (zf0 _ _ (fun k H=>∃g,(g=none→outK l k=[])∧H=(r4,.row 22 1 [zjD g (outK l k).length])::(r3,zh1 rm)::(rm,.map ((zcL l 8201).map mkE))::outH 166 2 g ((outK l k).map zaf)) _ ⟨none,hg,I⟩ (fun k H hk hH=>by
   obtain⟨g,hg,rfl⟩:=hH;exact zfF rm r3 (zcL l 8201) r4 g (outK l k) hg (by have:=zdA l k;omega) (zal k))) fun v H' hv=>?_)
  obtain⟨g',hg',rfl⟩:=hv;have hol:=zdA l 8201;cases g' with
  |none=>
   refine ab (ag 4 I (O (J1 okL I (.head _) I I I I (ab (J3 ?_)))));refine Jz (f:=zaf) (g:=none) (l:=outK l 8201) (pre:=[_,_,_]) (t:=12) (sz:=2) (e:=166) I I hg' ?_;refine ab (O (J9 I I I (zcC (outK l 8201) (zeJ hok 8201 (au _)) (by omega)) (ab (ag 4 I (J ?_)))));refine zaa (J5 I I) ?_;rfl
  |some r'=>
   refine ab (ag 4 I (O (J1 okL I (.head _) I I I I (ab (J3 ?_)))));refine Jz (f:=zaf) (g:=some r') (l:=outK l 8201) (pre:=[_,_,_]) (t:=12) (sz:=2) (e:=166) I I hg' ?_;refine ab (O (J9 I I I (zcC (outK l 8201) (zeJ hok 8201 (au _)) (by omega)) (ab (ag 4 I (J ?_)))));refine zaa (J5 I I) ?_;rfl
 |some r=>
  refine ab (O (Jf okL I I I (fun _ _=>(ab (O (J8 okL I I I (zab I) I I I .here I I I (ab (ag 5 I (J3 ?_)))))))));rename_i r4 _;refine J7 (Ji I I I (zf0 _ _ (fun k H=>∃g,(g=none→outK l k=[])∧H=(r4,.row 22 1 [zjD g (outK l k).length])::(r3,zh1 rm)::(rm,.map ((zcL l 8201).map mkE))::outH 166 2 g ((outK l k).map zaf)) _ ⟨some r,hg,I⟩ (fun k H hk hH=>by
   obtain⟨g,hg,rfl⟩:=hH;exact zfF rm r3 (zcL l 8201) r4 g (outK l k) hg (by have:=zdA l k;omega) (zal k))) fun v H' hv=>?_)
  obtain⟨g',hg',rfl⟩:=hv;have hol:=zdA l 8201;cases g' with
  |none=>
   refine ab (ag 4 I (O (J1 okL I (.head _) I I I I (ab (J3 ?_)))));refine Jz (f:=zaf) (g:=none) (l:=outK l 8201) (pre:=[_,_,_]) (t:=12) (sz:=2) (e:=166) I I hg' ?_;refine ab (O (J9 I I I (zcC (outK l 8201) (zeJ hok 8201 (au _)) (by omega)) (ab (ag 4 I (J ?_)))));refine zaa (J5 I I) ?_;rfl
  |some r'=>
   refine ab (ag 4 I (O (J1 okL I (.head _) I I I I (ab (J3 ?_)))));refine Jz (f:=zaf) (g:=some r') (l:=outK l 8201) (pre:=[_,_,_]) (t:=12) (sz:=2) (e:=166) I I hg' ?_;refine ab (O (J9 I I I (zcC (outK l 8201) (zeJ hok 8201 (au _)) (by omega)) (ab (ag 4 I (J ?_)))));refine zaa (J5 I I) ?_;rfl
open Go.Bk
section
variable{V:Wide}{X:Mt}{B:Bk}{g:Int}{N:Nat}
structure Ctx(V:Wide)(X:Mt)(B:Bk)(g:Int)(N n:Nat)(f0:Fm)(b0:Int)(Z:Bs)(k:List Fm)(bs:List Int)(a:MS)(f:FuncId)(cap:List A)(f2:FuncId)(cap2:List A):Prop where
 hP:Prog V X B g N
 low:∀m,m≤n→AllM V X B g N m
 hz:BaseOk V X B N f0 b0 Z
 e1:(encK X Z.v bs k).1=.fn f [] cap
 e2:(encK X Z.v bs k).2=.fn f2 [] cap2
 hl:zbs f0 k
 hb0:bs.getLast?=some b0
 hbr:BrOk bs k a
 ha:MOk V X a
variable{n:Nat}{f0:Fm}{b0:Int}{Z:Bs}{k:List Fm}{bs:List Int}{a:MS}{f f2:FuncId}{cap cap2:List A}
theorem Ctx.go(c:Ctx V X B g N n f0 b0 Z k bs a f cap f2 cap2){m:Nat}(hm:m≤n){a1:MS}{s':Sg}{o:BOut}{w':Wk}(hbrd:a.brd≤a1.brd)(ha1:MOk V X a1)(ht:TOk g N (.go k s') a1.w)(hf:zaJ B a1.w)(hr:brun B m (.go k s') a1.w=some (o,w'))
  {H Gb:Heap} (hp:H.Perm (Gb++(Hm X a1++Z.Hb a1.w.acc none))):TrG [] Tryz.prog f ([.agg (sgC s' (bs.headD 0) (.fn f2 [] cap2))]++cap) H (zaU V X Z bs a o w'):=
 zos (c.low m hm) c.hz c.e1 c.e2 c.hl c.hb0 c.hbr hbrd ha1 ht hf hr hp
theorem Ctx.try_(c:Ctx V X B g N n f0 b0 Z k bs a f cap f2 cap2){m:Nat}(hm:m≤n){a1:MS}{y:Pat}{s':Sg}{o:BOut}{w':Wk}(hbrd:a.brd≤a1.brd)(ha1:MOk V X a1){fr:Fm}(hfr:lvl (fr::k)=lvl k)(ht:TOk g N (.try_ y s' (fr::k)) a1.w)(hf:zaJ B a1.w)(hr:brun B m (.try_ y s' (fr::k)) a1.w=some (o,w'))
  {H Gb:Heap} (hp:H.Perm (Gb++(Hm X a1++Z.Hb a1.w.acc none))):TrG [] Tryz.prog 181 [X.p,.agg y.C,.agg (encS X Z.v s' bs (fr::k)),(encK X Z.v bs (fr::k)).1] H (zaU V X Z bs a o w'):=
 zdm (c.low m hm) c.hz c.hl.cons c.hb0 (c.hbr.mono hfr hbrd) hbrd ha1 ht hf hr hp
theorem Ctx.try0(c:Ctx V X B g N n f0 b0 Z k bs a f cap f2 cap2){m:Nat}(hm:m≤n){a1:MS}{y:Pat}{s':Sg}{o:BOut}{w':Wk}(hbrd:a.brd≤a1.brd)(ha1:MOk V X a1)(ht:TOk g N (.try_ y s' k) a1.w)(hf:zaJ B a1.w)(hr:brun B m (.try_ y s' k) a1.w=some (o,w'))
  {H Gb:Heap} (hp:H.Perm (Gb++(Hm X a1++Z.Hb a1.w.acc none))):TrG [] Tryz.prog 181 [X.p,.agg y.C,.agg (sgC s' (bs.headD 0) (.fn f2 [] cap2)),.fn f [] cap] H (zaU V X Z bs a o w'):=by
 have h:=zdm (c.low m hm) c.hz c.hl c.hb0 (c.hbr.mono I hbrd) hbrd ha1 ht hf hr hp;unfold encS at h;rw[c.e1,c.e2] at h;exact h
theorem Ctx.turn(c:Ctx V X B g N n f0 b0 Z k bs a f cap f2 cap2){m:Nat}(hm:m≤n){a1:MS}{x:Pat}{many:Int}{s':Sg}{o:BOut}{w':Wk}(hbrd:a.brd≤a1.brd)(ha1:MOk V X a1)(ht:TOk g N (.turn x many s' k) a1.w)(hf:zaJ B a1.w)(hr:brun B m (.turn x many s' k) a1.w=some (o,w'))
  {H Gb:Heap} (hp:H.Perm (Gb++(Hm X a1++Z.Hb a1.w.acc none))):TrG [] Tryz.prog 286 [X.p,.agg (zb1 x).C,i64 many,.agg (sgC s' (bs.headD 0) (.fn f2 [] cap2)),.fn f [] cap] H (zaU V X Z bs a o w'):=by
 have h:=zdw (c.low m hm) c.hz c.hl c.hb0 (c.hbr.mono I hbrd) hbrd ha1 ht hf hr hp;unfold encS at h;rw[c.e1,c.e2] at h;exact h
theorem Ctx.ne(c:Ctx V X B g N n f0 b0 Z k bs a f cap f2 cap2){m:Nat}{t:Task}{w1:Wk}{o:BOut}{w':Wk}(h:brun B m t w1=some (o,w'))(hc:w1.codes.length≤100)(hp:a.w.p≤w1.p):∃v H',zaU V X Z bs a o w' v H':=
 zej (a1:=⟨w1,0,0,none,[]⟩) c.ha h hc hp
theorem Ctx.wd(c:Ctx V X B g N n f0 b0 Z k bs a f cap f2 cap2)(o:BOut)(w':Wk):Wd (zaU V X Z bs a o w'):=zdy ..
theorem Ctx.now(c:Ctx V X B g N n f0 b0 Z k bs a f cap f2 cap2){o:BOut}{a1:MS}(hbrd:a.brd≤a1.brd)(ha1:MOk V X a1)(hs:outS o=none){H Gb:Heap}(hp:H.Perm (Gb++(Hm X a1++Z.Hb a1.w.acc none))):zaU V X Z bs a o a1.w (i64 (outI bs o)) H:=
 ⟨a1,Gb,I,ha1,hbrd,I,by rw[hs];exact hp⟩
theorem zjH(c:Ctx V X B g N n f0 b0 Z k bs a f cap f2 cap2){x:Pat}{i:Nat}{s:Sg}{o:BOut}{w':Wk}{a1:MS}{ca:Int}{cc:Nat}(hbrd:a.brd≤a1.brd)(ha1:MOk V X a1)(hk:Tm.Ok g N B ca cc (catS x i s k a1.w))(h:(catS x i s k a1.w).eval (brun B n)=some (o,w'))(hp:a.w.p≤a1.w.p)
  {H Gb:Heap} (hH:H.Perm (Gb++(Hm X a1++Z.Hb a1.w.acc none))):TrG [] Tryz.prog 231 [X.p,.ds ((x.l.drop i).map Pat.cells),.agg (sgC s (bs.headD 0) (.fn f2 [] cap2)),.fn f [] cap] H (zaU V X Z bs a o w'):=by
 unfold catS at h hk;cases hy:x.l[i]? with
 |some y=>
  rw[hy] at h hk;simp only at h hk;obtain⟨ht,hf⟩:=za2 hk;rw[zaw] at h;refine zpu X x i s (bs.headD 0) f2 cap2 f cap H _ (fun z hz=>?_) (c.ne h ha1.codes hp) (fun hn=>?_)
  ·rw[hy] at hz
   cases hz;have:=c.try_ (au n) hbrd ha1 I ht hf h hH;unfold encS at this;simp only[encK,Nat.add_sub_cancel] at this;rw[c.e1,c.e2] at this;exact this
  ·rw[List.getElem?_eq_none hn] at hy
   cases hy
 |none=>
  rw[hy] at h hk;simp only at h hk;obtain⟨ht,hf⟩:=za2 hk;rw[zaw] at h;refine zpu X x i s (bs.headD 0) f2 cap2 f cap H _ (fun z hz=>?_) (c.ne h ha1.codes hp) (fun hn=>c.go (au n) hbrd ha1 ht hf h hH);rw[hy] at hz;cases hz
theorem zhY{b:Int}{bs:List Int}{o:BOut}(h:∀j,o=.cut j→1≤j∧j≤bs.length):outI (b::bs) o=outI bs o:=by
 cases o with
 |cut j=>
  have:=h j I;simp only[outI,aX];rw[show bs.length+1 - j=(bs.length - j)+1 by omega]
  simp
 |_=>rfl
theorem zmb{x:Pat}:((zb1 x).n=1↔x.n=1)∧(zb1 x).min=x.min∧(zb1 x).max=x.max∧(zb1 x).l=x.l:=by
 unfold zb1 zcE;split
 ·rename_i h
  refine⟨⟨fun e=>?_,fun e=>?_⟩,I,I,I⟩
  ·simp[Pat.n] at e
  ·omega
 ·exact⟨Iff.rfl,I,I,I⟩
def zmH(V:Wide)(X:Mt)(B:Bk)(Z:Bs)(bs:List Int)(n:Nat)(a:MS)(second:Wk→Tm)(o:BOut)(w':Wk)(v:A)(H':Heap):Prop:=
 ∃m a1,v=i64 m∧(m≠0→zaU V X Z bs a o w' v H')∧(m=0→a.brd≤a1.brd∧MOk V X a1∧zaJ B a1.w∧Wk.le a.w a1.w∧(second a1.w).eval (brun B n)=some (o,w')∧∃G,H'.Perm (G++(Hm X a1++Z.Hb a1.w.acc none)))
theorem zgd(c:Ctx V X B g N n f0 b0 Z k bs a f cap f2 cap2){second:Wk→Tm}{o o1:BOut}{w1 w':Wk}{at_:Int}(hr:ROk N B at_ (lvl k) a.w o1 w1)(h:(zdR second (o1,w1)).eval (brun B n)=some (o,w')){v:A}{H':Heap}(hp:zaU V X Z bs a o1 w1 v H'):zmH V X B Z bs n a second o w' v H':=by
 obtain⟨a1,G,h1,h2,h3,h4,h5⟩:=hp;by_cases ho:o1=.no
 ·subst ho
  refine⟨0,a1,h4,fun hh=>absurd I hh,fun _=>⟨h3,h2,by rw[h1];exact hr.fr (by simp),by rw[h1];exact hr.le,by rw[h1];exact h,G,by rw[h1];exact h5⟩⟩
 ·have hm:outI bs o1≠0:=zmv (c:=0) c.hbr (fun j hj=>by rw[c.hbr.len];exact hr.cut j hj) ho
  refine⟨outI bs o1,a1,h4,fun _=>?_,fun h0=>absurd h0 hm⟩;have e:(Tm.ret (o1,w1)).eval (brun B n)=some (o,w'):=by
   cases o1<;>first|exact absurd I ho|exact h
  have:=zat e;cases this;exact⟨a1,G,h1,h2,h3,h4,h5⟩
end
section
variable{V:Wide}{X:Mt}{B:Bk}{g:Int}{N:Nat}{n:Nat}{f0:Fm}{b0:Int}{Z:Bs}{k:List Fm}{bs:List Int}{a:MS}{f f2:FuncId}{cap cap2:List A}
theorem zas{H:Heap}:H.Perm ([]++H):=ar _
theorem Ctx.turns(c:Ctx V X B g N n f0 b0 Z k bs a f cap f2 cap2){x:Pat}{many:Int}{s:Sg}{o:BOut}{w':Wk}(hf:zaJ B a.w)(ht:TOk g N (.turn x many s k) a.w)(h:(zcm x many s k a.w).eval (brun B n)=some (o,w'))(hne:∃v H',zaU V X Z bs a o w' v H'):
  TrG [] Tryz.prog 286 [X.p,.agg (zb1 x).C,i64 many,.agg (sgC s (bs.headD 0) (.fn f2 [] cap2)),.fn f [] cap] (Hm X a++Z.Hb a.w.acc none) (zaU V X Z bs a o w'):=by
 obtain⟨hx,h6,hm0,hmp,hmx⟩:=ht.x;obtain⟨y,hy⟩:=hx.shape.2.1 (.inl h6);have hmax:=hx.shape.2.2.2.2.2.1 h6;obtain⟨t1,t2,t3,t4⟩:=zmb (x:=x);have hyl:(zb1 x).l=[y]:=by rw[t4,hy]
 have hok:Tm.Ok g N B s.at_ (lvl k) (zcm x many s k a.w):=zgW hf ht;have hfst:fstL x.l=y:=by rw[hy];rfl
 -- the first or the second of both,from any later state
 have more:∀(a1:MS) (H Gb:Heap),a.brd≤a1.brd→MOk V X a1→zaJ B a1.w→Wk.le a.w a1.w→H.Perm (Gb++(Hm X a1++Z.Hb a1.w.acc none))→∀o w',Tm.Ok g N B s.at_ (lvl k) (if x.max<0∨many<x.max then Tm.last (.try_ (fstL x.l) s (.turn x many s.at_::k)) a1.w else .ret (.no,a1.w))→
   (if x.max<0∨many<x.max then Tm.last (.try_ (fstL x.l) s (.turn x many s.at_::k)) a1.w else .ret (.no,a1.w)).eval (brun B n)=some (o,w')→
   TrG [] Tryz.prog 317 [.dp [i64 many],.dp (zb1 x).C,.dp (sgC s (bs.headD 0) (.fn f2 [] cap2)),.dp [X.p],.dp [.fn f [] cap]] H (zaU V X Z bs a o w'):=by
  intro a1 H Gb hbrd ha1 hfr hle hp o w' hk h;have hpp:a.w.p≤a1.w.p:=by unfold Wk.le at hle;omega
  by_cases hc:x.max<0∨many<x.max
  ·rw[af hc] at h hk
   obtain⟨ht1,hf1⟩:=za2 hk;rw[zaw] at h;refine zm0 X (zb1 x) y hyl many s (bs.headD 0) f2 cap2 f cap H _ (c.ne h ha1.codes hpp) (fun e=>?_) (fun _=>?_)
   ·rw[t3] at e;omega
   ·have:=c.try_ (au n) hbrd ha1 I ht1 hf1 h hp
    unfold encS at this;simp only[encK] at this;rw[c.e1,c.e2,hfst] at this;exact this
  ·rw[ac hc] at h
   have:=zat h;cases this;refine zm0 X (zb1 x) y hyl many s (bs.headD 0) f2 cap2 f cap H _ ⟨_,_,c.now (o:=.no) hbrd ha1 I hp⟩ (fun _=>c.now (o:=.no) hbrd ha1 I hp) (fun e=>?_)
   rw[t3] at e;have:=hmx (by omega);omega
 have enough:∀(a1:MS) (H Gb:Heap),a.brd≤a1.brd→MOk V X a1→zaJ B a1.w→Wk.le a.w a1.w→H.Perm (Gb++(Hm X a1++Z.Hb a1.w.acc none))→∀o w',Tm.Ok g N B s.at_ (lvl k) (if many≥x.min then Tm.last (.go k s) a1.w else .ret (.no,a1.w))→
   (if many≥x.min then Tm.last (.go k s) a1.w else .ret (.no,a1.w)).eval (brun B n)=some (o,w')→
   TrG [] Tryz.prog 319 [.dp [i64 many],.dp (zb1 x).C,.dp [.fn f [] cap],.dp (sgC s (bs.headD 0) (.fn f2 [] cap2))] H (zaU V X Z bs a o w'):=by
  intro a1 H Gb hbrd ha1 hfr hle hp o w' hk h;by_cases hc:many≥x.min
  ·rw[af hc] at h hk
   obtain⟨ht1,hf1⟩:=za2 hk;rw[zaw] at h;exact zdU (zb1 x) many s (bs.headD 0) f2 cap2 f cap H _ (fun e=>absurd (by rw[t2];exact hc) e) (fun _=>c.go (au n) hbrd ha1 ht1 hf1 h hp)
  ·rw[ac hc] at h
   have:=zat h;cases this;exact zdU (zb1 x) many s (bs.headD 0) f2 cap2 f cap H _ (fun _=>c.now (o:=.no) hbrd ha1 I hp) (fun e=>absurd (by rw[t2] at e;exact e) hc)
 have moreOk:∀w1,Wk.le a.w w1→zaJ B w1→Tm.Ok g N B s.at_ (lvl k) (if x.max<0∨many<x.max then Tm.last (.try_ (fstL x.l) s (.turn x many s.at_::k)) w1 else .ret (.no,w1)):=fun w1 hle hf1=>by
  have hq:TOk g N (.turn x many s k) w1:=⟨ht.s,ht.k.mono (by show a.w.p+0≤w1.p+0;unfold Wk.le at hle;omega),ht.b,ht.gb,hx,h6,hm0,by unfold Wk.le at hle;omega,hmx⟩
  have hpp:a.w.p≤w1.p:=by unfold Wk.le at hle;omega
  refine .ite (fun hc=>?_) fun _=>.no hf1;exact .last (t:=.try_ _ s _) ⟨ht.s,(ht.k.mono (by show a.w.p+0≤w1.p+1;omega)).cons ⟨hx,h6,hm0,by show many+1≤((w1.p+1:Nat):Int);omega,fun h0=>by omega,ht.s.at0,ht.s.atN⟩,ht.b.cons I,ht.gb.cons fun x fr h=>by(cases h),hx.sub (zes ⟨y,hy⟩)⟩ hf1 (am _) (au _)
 have endOk:∀w1,Wk.le a.w w1→zaJ B w1→Tm.Ok g N B s.at_ (lvl k) (if many≥x.min then Tm.last (.go k s) w1 else .ret (.no,w1)):=fun w1 hle hf1=>
  .ite (fun _=>.last (t:=.go k s) ⟨ht.s,ht.k.mono (by show a.w.p+0≤w1.p+0;unfold Wk.le at hle;omega),ht.b,ht.gb,trivial⟩ hf1 (am _) (au _)) fun _=>.no hf1
 have L0:=zcp.refl a.w;have hI:∀(sec:Wk→Tm) v H',zmH V X B Z bs n a sec o w' v H'→∃m,v=i64 m:=fun sec v H' ⟨m,_,h,_⟩=>⟨m,h⟩;have hRR:∀(sec:Wk→Tm) m H',zmH V X B Z bs n a sec o w' (i64 m) H'→m≠0→zaU V X Z bs a o w' (i64 m) H':=fun sec m H' ⟨m',_,e,h1,_⟩ hm=>by cases e;exact h1 hm
 by_cases h1:x.n=1
 ·refine zkf X (zb1 x) many s (bs.headD 0) f2 cap2 f cap _ (zmH V X B Z bs n a (fun w=>if x.max<0∨many<x.max then Tm.last (.try_ (fstL x.l) s (.turn x many s.at_::k)) w else .ret (.no,w)) o w') _ (hI _) (hRR _) (fun _=>⟨?_,fun H' hr=>?_⟩) (fun e=>absurd (t1.2 h1) e)
  ·unfold zcm at h hok
   rw[af h1] at h hok;by_cases hc:many≥x.min
   ·rw[af hc] at h hok
    obtain⟨o1,w1,h2,h3⟩:=zbg h;obtain⟨ht1,hf1⟩:=za2 hok;have hr:=zbh c.hP hf1 ht1 h2;refine zdU (zb1 x) many s (bs.headD 0) f2 cap2 f cap _ _ (fun e=>absurd (by rw[t2];exact hc) e) (fun _=>?_)
    exact(c.go (au n) (am _) c.ha ht1 hf1 h2 zas).mono fun v H' hp=>zgd c hr h3 hp
   ·rw[ac hc] at h
    exact zdU (zb1 x) many s (bs.headD 0) f2 cap2 f cap _ _ (fun _=>⟨0,a,I,fun hh=>absurd I hh,fun _=>⟨am _,c.ha,hf,L0,h,[],zas⟩⟩) (fun e=>absurd (by rw[t2] at e;exact e) hc)
  ·obtain⟨m,a1,e,_,k2⟩:=hr
   have e:(0:Int)=m:=by cases e;rfl
   obtain⟨hb,ha1,hf1,hle,hev,G,hp⟩:=k2 e.symm;exact more a1 H' G hb ha1 hf1 hle hp o w' (moreOk a1.w hle hf1) hev
 ·refine zkf X (zb1 x) many s (bs.headD 0) f2 cap2 f cap _ (zmH V X B Z bs n a (fun w=>if many≥x.min then Tm.last (.go k s) w else .ret (.no,w)) o w') _ (hI _) (hRR _) (fun e=>absurd (t1.1 e) h1) (fun _=>⟨?_,fun H' hr=>?_⟩)
  ·unfold zcm at h hok
   rw[ac h1] at h hok;by_cases hc:x.max<0∨many<x.max
   ·rw[af hc] at h hok
    obtain⟨o1,w1,h2,h3⟩:=zbg h;obtain⟨ht1,hf1⟩:=za2 hok;have hr:=zbh c.hP hf1 ht1 h2;have hm:=more a _ [] (am _) c.ha hf L0 zas o1 w1 (moreOk a.w L0 hf) (by rw[af hc,zaw];exact h2);exact hm.mono fun v H' hp=>zgd c hr h3 hp
   ·rw[ac hc] at h
    refine(more a _ [] (am _) c.ha hf L0 zas .no a.w (moreOk a.w L0 hf) (by rw[ac hc];rfl)).mono fun v H' hp=>?_;obtain⟨a2,G,e1,e2,e3,e4,e5⟩:=hp;exact⟨0,a2,e4,fun hh=>absurd I hh,fun _=>⟨e3,e2,by rw[e1];exact hf,by rw[e1];exact L0,by rw[e1];exact h,G,by rw[e1];exact e5⟩⟩
  ·obtain⟨m,a1,e,_,k2⟩:=hr
   have e:(0:Int)=m:=by cases e;rfl
   obtain⟨hb,ha1,hf1,hle,hev,G,hp⟩:=k2 e.symm;exact enough a1 H' G hb ha1 hf1 hle hp o w' (endOk a1.w hle hf1) hev
end
section
variable{V:Wide}{X:Mt}{B:Bk}{g:Int}{N:Nat}{n:Nat}{f0:Fm}{b0:Int}{Z:Bs}
theorem zey(hz:BaseOk V X B N f0 b0 Z)(bs:List Int)(k:List Fm):∃f cap f2 cap2,(encK X Z.v bs k).1=.fn f [] cap∧(encK X Z.v bs k).2=.fn f2 [] cap2:=fn_of Z hz.fn bs k
theorem zkr(s:Sg)(w:Wk){fm:Fm}(k:List Fm)(h:zd3 fm=true){rec:Task→Wk→BRes}{o:BOut}{w':Wk}(e:(goS B s w (fm::k)).eval rec=some (o,w')):goS B s w [fm]=.ret (o,w'):=by
 cases fm with
 |stop want=>
  have e:(if want≥0∧want≠s.at_ then Tm.ret (.no,w) else Tm.ret (.yes s,w)).eval rec=some (o,w'):=e
  show(if want≥0∧want≠s.at_ then Tm.ret (.no,w) else Tm.ret (.yes s,w))=_
  split at e<;>rename_i hc
  ·rw[af hc];exact ai Tm.ret (zat e)
  ·rw[ac hc];exact ai Tm.ret (zat e)
 |fin=>
  have e:(if B.stop (w.acc++[s.at_])=true then Tm.ret (.yes s,{w with acc:=w.acc++[s.at_]}) else Tm.ret (.no,{w with acc:=w.acc++[s.at_]})).eval rec=some (o,w'):=e
  show(if B.stop (w.acc++[s.at_])=true then Tm.ret (.yes s,{w with acc:=w.acc++[s.at_]}) else Tm.ret (.no,{w with acc:=w.acc++[s.at_]}))=_
  split at e<;>rename_i hc
  ·rw[af hc];exact ai Tm.ret (zat e)
  ·rw[ac hc];exact ai Tm.ret (zat e)
 |cat _ _=>cases h
 |turn _ _ _=>cases h
 |group _ _=>cases h
 |call _=>cases h
theorem BrOk.tail{b:Int}{bs:List Int}{k k':List Fm}{a:MS}(h:BrOk (b::bs) k a)(hl:lvl k=lvl k'+1):BrOk bs k' a:=
 ⟨by have:=h.len;simp only[aX] at this;omega,fun x hx=>h.le x (aB _ hx),(List.nodup_cons.1 h.nd).2⟩
theorem zqU(hP:Prog V X B g N)(low:∀m,m≤n→AllM V X B g N m)(hz:BaseOk V X B N f0 b0 Z){k:List Fm}{s:Sg}{bs:List Int}{a:MS}{o:BOut}{w':Wk}(hf:zaJ B a.w)(ht:TOk g N (.go k s) a.w)(hl:zbs f0 k)(hb0:bs.getLast?=some b0)(ha:MOk V X a)(hbr:BrOk bs k a)
  (h:(goS B s a.w k).eval (brun B n)=some (o,w')):ConM V X Z (.go k s) bs a o w':=by
 have hok:Tm.Ok g N B s.at_ (lvl k) (goS B s a.w k):=zmu hP.hB hf ht;have hp2:a.w.p≤20000:=znn hP hf
 show zln [] Tryz.prog (encK X Z.v bs k).1 [.agg (encS X Z.v s bs k)] (Hm X a++Z.Hb a.w.acc none) (zaU V X Z bs a o w')
 cases k with
 |nil=>exact ht.b.elim
 |cons fm k=>
  have hk':∀f∈k,FOk g N (a.w.p+0) f:=fun f hf=>ht.k f (aB _ hf);have hfm:FOk g N (a.w.p+0) fm:=ht.k fm aE;cases fm with
  |cat x i=>
   obtain⟨f,cap,f2,cap2,e1,e2⟩:=zey hz bs k;have c:Ctx V X B g N n f0 b0 Z k bs a f cap f2 cap2:=⟨hP,low,hz,e1,e2,hl.tail (ht.b.tail I),hb0,hbr.mono I (am _),ha⟩;obtain⟨hx,hi1,hi2⟩:=hfm;unfold encS;simp only[encK];rw[e1,e2];refine zds I ?_;have hh:(catS x i s k a.w).eval (brun B n)=some (o,w'):=h;have hc:Tm.Ok g N B s.at_ (lvl k) (catS x i s k a.w):=hok;have hrow:=zjH c (am _) ha hc hh (au _) (zas (H:=Hm X a++Z.Hb a.w.acc none));obtain⟨j,rfl⟩:∃j,i=j+1:=⟨i - 1,by omega⟩
   refine zpF X x j (by omega) s (bs.headD 0) f2 cap2 f cap _ _ ?_ hrow;exact zej (n:=n+1) (t:=.go (.cat x (j+1)::k) s) (a1:=a) ha h ha.codes (au _)
  |turn x many fr=>
   obtain⟨f,cap,f2,cap2,e1,e2⟩:=zey hz bs k;have c:Ctx V X B g N n f0 b0 Z k bs a f cap f2 cap2:=⟨hP,low,hz,e1,e2,hl.tail (ht.b.tail I),hb0,hbr.mono I (am _),ha⟩;obtain⟨h1,h2,h3,h4,h5,h6⟩:=hfm;unfold encS;simp only[encK];rw[e1,e2];refine zds I ?_;obtain⟨_,t2,_,_⟩:=zmb (x:=x);have hh:(if many≥x.min∧s.at_=fr then Tm.ret (.no,a.w) else .last (.turn x (many+1) s k) a.w).eval (brun B n)=some (o,w'):=h
   have hc:Tm.Ok g N B s.at_ (lvl k) (if many≥x.min∧s.at_=fr then Tm.ret (.no,a.w) else .last (.turn x (many+1) s k) a.w):=hok
   have hw:IntKind.i64.wrap (many+1)=many+1:=zap ⟨by omega,by omega⟩
   refine zot X (zb1 x) many fr s (bs.headD 0) f2 cap2 f cap _ _ (fun hcc=>?_) (fun hcc=>?_)
   ·rw[t2] at hcc
    rw[af hcc] at hh;have:=zat hh;cases this;exact c.now (o:=.no) (am _) ha I zas
   ·rw[t2] at hcc
    rw[ac hcc] at hh hc;obtain⟨ht1,hf1⟩:=za2 hc;rw[zaw] at hh;rw[hw];exact c.turn (au n) (am _) ha ht1 hf1 hh zas
  |group x fr=>
   obtain⟨f,cap,f2,cap2,e1,e2⟩:=zey hz bs k;have c:Ctx V X B g N n f0 b0 Z k bs a f cap f2 cap2:=⟨hP,low,hz,e1,e2,hl.tail (ht.b.tail I),hb0,hbr.mono I (am _),ha⟩;obtain⟨h1,h2,h3,h4⟩:=hfm;unfold encS;simp only[encK];rw[e1,e2];refine zds I ?_;obtain⟨ht1,hf1⟩:=za2 hok;have hh:(Tm.last (.go k {s with caps:=s.caps.set x.n.toNat (fr,s.at_)}) a.w).eval (brun B n)=some (o,w'):=h
   rw[zaw] at hh;have hn:=h1.shape.2.2.2.1 (.inl h2);have g9:=hP.hB.g9;exact zoo x fr s (bs.headD 0) f2 cap2 f cap _ _ ⟨hn.1,by omega⟩ ht.s.len (fun v H' G hr=>(c.wd o w').add v H' G hr) (c.go (au n) (am _) ha ht1 hf1 hh zas)
  |call so=>
   cases bs with
   |nil=>have:=hbr.len;simp[lvl] at this
   |cons b bs=>
    obtain⟨f,cap,f2,cap2,e1,e2⟩:=zey hz bs k;have hkb:KB k:=ht.b.tail I;have hbs:bs≠[]:=fun e=>by
     have h1:=hbr.len;have h2:=zgm hkb;rw[e] at h1;simp only[lvl,aX,br] at h1;omega
    have hb0':bs.getLast?=some b0:=by
     cases bs with
     |nil=>exact absurd rfl hbs
     |cons q qs=>simpa using hb0
    have c:Ctx V X B g N n f0 b0 Z k bs a f cap f2 cap2:=⟨hP,low,hz,e1,e2,hl.tail hkb,hb0',hbr.tail I,ha⟩;unfold encS;simp only[encK,List.tail_cons];rw[e1,e2];refine zds I ?_;obtain⟨ht1,hf1⟩:=za2 hok;have hh:(Tm.last (.go k {so with at_:=s.at_}) a.w).eval (brun B n)=some (o,w'):=h
    rw[zaw] at hh;have hr:=zbh hP hf1 ht1 hh;have he:outI (b::bs) o=outI bs o:=zhY fun j hj=>by
     have:=hr.cut j hj;rw[c.hbr.len];exact this
    have k1:=c.go (au n) (am _) ha ht1 hf1 hh (zas (H:=Hm X a++Z.Hb a.w.acc none));have e3:bs.head?.getD 0=bs.headD 0:=by cases bs<;>rfl
    refine zoU so (bs.headD 0) f2 cap2 s b _ _ f cap _ _ (fun v H' G hr=>(zdy ..).add v H' G hr) (k1.mono fun v H' hq=>?_)
    obtain⟨a2,G,q1,q2,q3,q4,q5⟩:=hq;exact⟨a2,G,q1,q2,q3,by rw[q4,he],q5⟩
  |stop want=>
   have hkn:k=[]:=by
    cases k with
    |nil=>rfl
    |cons q k=>exact absurd ht.b.1 (by simp[zd3])
   subst hkn;obtain rfl:f0=.stop want:=by have:=hl;simp only[zbs,Task.k,List.getLast?_singleton,aY] at this;exact this.symm
   have hlen:=hbr.len;simp only[lvl] at hlen;obtain⟨b,rfl⟩:∃b,bs=[b]:=by
    match bs,hlen with
    |[b],_=>exact⟨b,rfl⟩
   obtain rfl:b=b0:=by simpa using hb0
   exact hz.go s a ht.s ha hp2 o w' (zkr s a.w [] I h)
  |fin=>
   have hkn:k=[]:=by
    cases k with
    |nil=>rfl
    |cons q k=>exact absurd ht.b.1 (by simp[zd3])
   subst hkn;obtain rfl:f0=.fin:=by have:=hl;simp only[zbs,Task.k,List.getLast?_singleton,aY] at this;exact this.symm
   have hlen:=hbr.len;simp only[lvl] at hlen;obtain⟨b,rfl⟩:∃b,bs=[b]:=by
    match bs,hlen with
    |[b],_=>exact⟨b,rfl⟩
   obtain rfl:b=b0:=by simpa using hb0
   exact hz.go s a ht.s ha hp2 o w' (zkr s a.w [] I h)
end
section
variable{V:Wide}{X:Mt}{B:Bk}{g:Int}{N:Nat}{n:Nat}{f0:Fm}{b0:Int}{Z:Bs}{k:List Fm}{bs:List Int}{a:MS}{f f2:FuncId}{cap cap2:List A}
theorem zcP(c:Ctx V X B g N n f0 b0 Z k bs a f cap f2 cap2){a1:MS}(hbrd:a.brd≤a1.brd){s:Sg}{o1 o:BOut}{w1 w':Wk}(hacc:w1.acc=a1.w.acc)(hcb:∀e,o1=.yes e→e.calls=s.calls)
  (hk:Tm.Ok g N B s.at_ (lvl k) (thenS k s (o1,w1))) (hth:(thenS k s (o1,w1)).eval (brun B n)=some (o,w')) (fi:FuncId) (capi:List A)
  (hal:TrG [] Tryz.prog 289 [X.p,.agg (sgC s (bs.headD 0) (.fn f2 [] cap2)),i64 (-1),.fn fi [] capi] (Hm X a1) fun v H'=>∃m e,v=.tup [.agg e,i64 m]∧e.length=25∧zan e=true∧ziG V X (-1) a1 o1 w1 m e H'):
  TrG [] Tryz.prog 284 [X.p,.agg (sgC s (bs.headD 0) (.fn f2 [] cap2)),.fn f [] cap,.fn fi [] capi] (Hm X a1++Z.Hb a1.w.acc none) (zaU V X Z bs a o w'):=by
 refine zmh X s (bs.headD 0) f2 cap2 f cap fi capi (Hm X a1) (Z.Hb a1.w.acc none) _ (c.wd o w') (ziG V X (-1) a1 o1 w1) hal ?_ ?_
 ·rintro m e H' hm ⟨b',re,a2,G,rfl,rfl,hw2,ha2,hb2,hp⟩
  have hpp:(H'++Z.Hb a1.w.acc none).Perm (G++(Hm X a2++Z.Hb a2.w.acc none)):=by
   rw[hw2,hacc,←aI];exact hp.append_right _
  have hbb:=bm hbrd hb2;cases o1 with
  |yes e=>exact absurd rfl hm
  |no=>
   have:=zat hth;cases this;have:=c.now (o:=.no) hbb ha2 I hpp;rw[hw2] at this;exact this
  |cut j=>
   have:=zat hth;cases this;have:=c.now (o:=.no) hbb ha2 I hpp;rw[hw2] at this;exact this
  |tired=>
   have:=zat hth;cases this;have:=c.now (o:=.tired) hbb ha2 I hpp;rw[hw2] at this;exact this
 ·rintro e H' ⟨b',re,a2,G,rfl,hm,hw2,ha2,hb2,hp⟩
  have hpp:(H'++Z.Hb a1.w.acc none).Perm (G++(Hm X a2++Z.Hb a2.w.acc none)):=by
   rw[hw2,hacc,←aI];exact hp.append_right _
  have hbb:=bm hbrd hb2;cases o1 with
  |no=>cases hm
  |cut j=>cases hm
  |tired=>cases hm
  |yes e0=>
   have he0:({e0 with calls:=s.calls}:Sg)=e0:=by rw[←hcb e0 I]
   have hth:(Tm.last (.go k {e0 with calls:=s.calls}) w1).eval (brun B n)=some (o,w'):=hth
   have hk:Tm.Ok g N B s.at_ (lvl k) (Tm.last (.go k {e0 with calls:=s.calls}) w1):=hk
   obtain⟨ht2,hf2⟩:=za2 hk;rw[zaw,he0] at hth;rw[he0] at ht2;refine⟨e0,b',_,_,I,?_⟩;exact c.go (au n) hbb ha2 (by rw[hw2];exact ht2) (by rw[hw2];exact hf2) (by rw[hw2];exact hth) hpp
theorem zeZ(c:Ctx V X B g N n f0 b0 Z k bs a f cap f2 cap2){a1:MS}(hbrd:a.brd≤a1.brd){t:Task}{s:Sg}{o1 o:BOut}{w1 w':Wk}(hr1:brun B n t a1.w=some (o1,w1))(htk:t.k=[.stop (-1)])(hts:t.s=s)(ht1:TOk g N t a1.w)(hf1:zaJ B a1.w)
  (hok:∀o w',ROk N B s.at_ (lvl t.k) a1.w o w'→Tm.Ok g N B s.at_ (lvl k) (thenS k s (o,w'))) (hth:(thenS k s (o1,w1)).eval (brun B n)=some (o,w')) (fi:FuncId) (capi:List A)
  (hal:TrG [] Tryz.prog 289 [X.p,.agg (sgC s (bs.headD 0) (.fn f2 [] cap2)),i64 (-1),.fn fi [] capi] (Hm X a1) fun v H'=>∃m e,v=.tup [.agg e,i64 m]∧e.length=25∧zan e=true∧ziG V X (-1) a1 o1 w1 m e H'):
  TrG [] Tryz.prog 284 [X.p,.agg (sgC s (bs.headD 0) (.fn f2 [] cap2)),.fn f [] cap,.fn fi [] capi] (Hm X a1++Z.Hb a1.w.acc none) (zaU V X Z bs a o w'):=by
 have hro:=zbh c.hP hf1 ht1 hr1;rw[hts] at hro;refine zcP c hbrd (zd2 B n t a1.w o1 w1 (by rw[htk];exact zbx _) hr1) (fun e he=>?_) (hok o1 w1 hro) hth fi capi hal;have:=zhS B n t a1.w o1 w1 hr1 e he;rw[this];unfold Task.cb;rw[htk,hts];rfl
theorem zaG(ha:MOk V X a):MOk V X (zau a):=⟨ha.g,ha.codes,⟨ha.brd.1,by have:=ha.brd.2;show a.brd≤((a.w.p+1:Nat):Int);omega⟩,ha.we⟩
structure Node(V:Wide)(X:Mt)(B:Bk)(g:Int)(N n:Nat)(Z:Bs)(bs:List Int)(k:List Fm)(a:MS)(x:Pat)(s:Sg)(o:BOut)(w':Wk):Prop where
 hp:a.w.p≤20000
 tired:a.w.p+1>20000→zaU V X Z bs a o w' (i64 2) (Hm X (zau a)++Z.Hb a.w.acc none)
 node:¬a.w.p+1>20000→(zaF B x s k (tick a.w)).eval (brun B n)=some (o,w')
 ok:¬a.w.p+1>20000→Tm.Ok g N B s.at_ (lvl k) (zaF B x s k (tick a.w))
 fresh:¬a.w.p+1>20000→zaJ B (tick a.w)
 ne:∃v H',zaU V X Z bs a o w' v H'
theorem zqw(c:Ctx V X B g N n f0 b0 Z k bs a f cap f2 cap2){x:Pat}{s:Sg}{o:BOut}{w':Wk}(hf:zaJ B a.w)(ht:TOk g N (.try_ x s k) a.w)(h:brun B (n+1) (.try_ x s k) a.w=some (o,w')):Node V X B g N n Z bs k a x s o w':=by
 have hτ:B.tau (a.w.p+1) (a.w.r+1)=decide (a.w.p+1>20000):=by rw[c.hP.tau];rfl
 have hb:(if B.tau (a.w.p+1) (a.w.r+1)=true then Tm.ret (.tired,tick a.w) else zaF B x s k (tick a.w)).eval (brun B n)=some (o,w'):=h
 refine⟨znn c.hP hf,fun hq=>?_,fun hq=>?_,fun hq=>?_,fun hq=>?_,c.ne h c.ha.codes (au _)⟩
 ·rw[hτ,af (aA hq)] at hb
  have:=zat hb;cases this;exact c.now (a1:=zau a) (o:=.tired) (am _) (zaG c.ha) I zas
 ·rw[hτ,ac (by rw[aL];exact hq)] at hb
  exact hb
 ·exact zgS c.hP.hB (show B.tau (a.w.p+1) (a.w.r+1)=false by rw[hτ];exact aG hq) ht.x ht.s ht.k ht.b ht.gb
 ·exact(show B.tau (a.w.p+1) (a.w.r+1)=false by rw[hτ];exact aG hq)
end
section
variable{V:Wide}{X:Mt}{B:Bk}{g:Int}{N:Nat}{n:Nat}{f0:Fm}{b0:Int}{Z:Bs}{k:List Fm}{bs:List Int}{a:MS}{f f2:FuncId}{cap cap2:List A}{s:Sg}{o:BOut}{w':Wk}{xn mn mx:Int}{nm:List UInt8}{st:List (Int×Int)}{l:List Pat}
abbrev TryC(X:Mt)(Z:Bs)(V:Wide)(bs:List Int)(a:MS)(x:Pat)(s:Sg)(f:FuncId)(cap:List A)(f2:FuncId)(cap2:List A)(o:BOut)(w':Wk):Prop:=
 TrG [] Tryz.prog 181 [X.p,.agg x.C,.agg (sgC s (bs.headD 0) (.fn f2 [] cap2)),.fn f [] cap] (Hm X a++Z.Hb a.w.acc none) (zaU V X Z bs a o w')
theorem zcY{x:Pat}(d:Node V X B g N n Z bs k a x s o w'):a.w.p≤1000000:=by have:=d.hp;omega
def Left(V:Wide)(X:Mt)(w:Wk)(brd:Int)(H':Heap):Prop:=∃a' G,a'.w=w∧a'.brd=brd∧MOk V X a'∧H'.Perm (G++Hm X a')
theorem Left.perm{w:Wk}{brd:Int}{H' Hb:Heap}(h:Left V X w brd H'):∃a' G,a'.w=w∧a'.brd=brd∧MOk V X a'∧(H'++Hb).Perm (G++(Hm X a'++Hb)):=by
 obtain⟨a',G,h1,h2,h3,h4⟩:=h;exact⟨a',G,h1,h2,h3,by rw[←aI];exact h4.append_right _⟩
theorem Ctx.left_no(c:Ctx V X B g N n f0 b0 Z k bs a f cap f2 cap2){w1:Wk}(ha:w1.acc=a.w.acc){H':Heap}(h:Left V X w1 a.brd H'):zaU V X Z bs a .no w1 (i64 0) (H'++Z.Hb a.w.acc none):=by
 obtain⟨a',G,h1,h2,h3,h4⟩:=h.perm (Hb:=Z.Hb a.w.acc none);subst h1;exact c.now (o:=.no) (cJ h2.symm) h3 I (by rw[ha];exact h4)
theorem Ctx.left_go(c:Ctx V X B g N n f0 b0 Z k bs a f cap f2 cap2){w1:Wk}(ha:w1.acc=a.w.acc){H':Heap}(h:Left V X w1 a.brd H'){s':Sg}{ca:Int}{cc:Nat}(hk:Tm.Ok g N B ca cc (Tm.last (.go k s') w1))(hr:(Tm.last (.go k s') w1).eval (brun B n)=some (o,w')):
  TrG [] Tryz.prog f ([.agg (sgC s' (bs.headD 0) (.fn f2 [] cap2))]++cap) (H'++Z.Hb a.w.acc none) (zaU V X Z bs a o w'):=by
 obtain⟨a',G,h1,h2,h3,h4⟩:=h.perm (Hb:=Z.Hb a.w.acc none);obtain⟨ht1,hf1⟩:=za2 hk;rw[zaw] at hr;subst h1;exact c.go (au n) (cJ h2.symm) h3 ht1 hf1 hr (by rw[ha];exact h4)
theorem zf3(c:Ctx V X B g N n f0 b0 Z k bs a f cap f2 cap2){s':Sg}{K:Int}{x:Pat}(d:Node V X B g N n Z bs k a x s o w')(hn:zaF B x s k (tick a.w)=.last (.go k s') (tick a.w)):
  ¬a.w.p+1>20000→TrG [] Tryz.prog f ([.agg (sgC s' (bs.headD 0) (.fn f2 [] cap2))]++cap) (Hm X (zau a)++Z.Hb a.w.acc none) (zaU V X Z bs a o w'):=fun hq=>by
 have h:=d.node hq;have hk:=d.ok hq;rw[hn] at h hk;exact c.left_go (w1:=tick a.w) I ⟨zau a,[],I,I,zaG c.ha,zas⟩ hk h
theorem zr8(c:Ctx V X B g N n f0 b0 Z k bs a f cap f2 cap2)(d:Node V X B g N n Z bs k a (.mk 0 xn mn mx nm st l) s o w'):TryC X Z V bs a (.mk 0 xn mn mx nm st l) s f cap f2 cap2 o w':=
 zmx X a (zcY d) xn mn mx nm st l s _ f2 cap2 f cap _ _ (c.wd o w') d.tired (zf3 (K:=0) c d I)
theorem zqK(c:Ctx V X B g N n f0 b0 Z k bs a f cap f2 cap2)(d:Node V X B g N n Z bs k a (.mk 18 xn mn mx nm st l) s o w'):TryC X Z V bs a (.mk 18 xn mn mx nm st l) s f cap f2 cap2 o w':=
 zoM X a (zcY d) xn mn mx nm st l s _ f2 cap2 f cap _ _ (c.wd o w') d.tired (zf3 (K:=0) c d (s':={s with keep:=s.at_}) I)
theorem zp4(hP:Prog V X B g N)(hs:SOk N s):IntKind.i64.wrap (s.at_+1)=s.at_+1:=by
 have h1:=hs.at0;have h2:=hs.atN;have h3:=hP.hN;exact zap ⟨by omega,by omega⟩
theorem zfS(c:Ctx V X B g N n f0 b0 Z k bs a f cap f2 cap2)(hs:SOk N s){K:Int}(hK:K=1∨K=2∨K=3)(hx:Vd g (.mk K xn mn mx nm st l))(d:Node V X B g N n Z bs k a (.mk K xn mn mx nm st l) s o w'):TryC X Z V bs a (.mk K xn mn mx nm st l) s f cap f2 cap2 o w':=by
 have hn:zaF B (.mk K xn mn mx nm st l) s k (tick a.w)=if B.takes (.mk K xn mn mx nm st l) s.at_=true then .last (.go k {s with at_:=s.at_+1}) (tick a.w) else .ret (.no,tick a.w):=by
  unfold zaF;rw[af (show(Pat.mk K xn mn mx nm st l).op=1∨(Pat.mk K xn mn mx nm st l).op=2∨(Pat.mk K xn mn mx nm st l).op=3 from hK)]
 have hc:¬a.w.p+1>20000→TrG [] Tryz.prog 227 [X.p,.agg (Pat.mk K xn mn mx nm st l).C,i64 s.at_] (Hm X (zau a)) fun v H'=>∃t:Bool,v=.bool t∧(t=B.takes (.mk K xn mn mx nm st l) s.at_∧Left V X (tick a.w) a.brd H'∧¬a.w.p+1>20000):=fun hq=>
  (c.hP.isChar (zau a) _ s.at_ (zaG c.ha) hx hK hs.at0 hs.atN).mono fun v H' ⟨h1,h2⟩=>⟨_,h1,I,h2,hq⟩
 have h0:∀H',(false=B.takes (.mk K xn mn mx nm st l) s.at_∧Left V X (tick a.w) a.brd H'∧¬a.w.p+1>20000)→zaU V X Z bs a o w' (i64 0) (H'++Z.Hb a.w.acc none):=fun H' ⟨h1,h2,hq⟩=>by
  have h:=d.node hq;rw[hn,ac (by rw[←h1];simp)] at h;have:=zat h;cases this;exact c.left_no (w1:=tick a.w) I h2
 have h1:∀H',(true=B.takes (.mk K xn mn mx nm st l) s.at_∧Left V X (tick a.w) a.brd H'∧¬a.w.p+1>20000)→TrG [] Tryz.prog f ([.agg (sgC {s with at_:=IntKind.i64.wrap (s.at_+1)} (bs.headD 0) (.fn f2 [] cap2))]++cap) (H'++Z.Hb a.w.acc none) (zaU V X Z bs a o w'):=fun H' ⟨h1,h2,hq⟩=>by
  have h:=d.node hq;have hk:=d.ok hq;rw[hn,af h1.symm] at h hk;rw[zp4 c.hP hs];exact c.left_go (w1:=tick a.w) I h2 hk h
 rcases hK with rfl|rfl|rfl
 ·exact zrS X a (zcY d) xn mn mx nm st l s _ f2 cap2 f cap _ _ (c.wd o w') d.tired _ hc h0 h1
 ·exact zrZ X a (zcY d) xn mn mx nm st l s _ f2 cap2 f cap _ _ (c.wd o w') d.tired _ hc h0 h1
 ·exact zq6 X a (zcY d) xn mn mx nm st l s _ f2 cap2 f cap _ _ (c.wd o w') d.tired _ hc h0 h1
theorem zfG(c:Ctx V X B g N n f0 b0 Z k bs a f cap f2 cap2)(hs:SOk N s){K:Int}(hK:K=11∨K=12∨K=13)(hx:Vd g (.mk K xn mn mx nm st l))(d:Node V X B g N n Z bs k a (.mk K xn mn mx nm st l) s o w'):TryC X Z V bs a (.mk K xn mn mx nm st l) s f cap f2 cap2 o w':=by
 have hn:zaF B (.mk K xn mn mx nm st l) s k (tick a.w)=if B.holds (.mk K xn mn mx nm st l) s.at_=true then .last (.go k s) (tick a.w) else .ret (.no,tick a.w):=by
  rcases hK with rfl|rfl|rfl<;>rfl
 have hc:¬a.w.p+1>20000→TrG [] Tryz.prog 228 [X.p,.agg (Pat.mk K xn mn mx nm st l).C,i64 s.at_] (Hm X (zau a)) fun v H'=>∃t:Bool,v=.bool t∧(t=B.holds (.mk K xn mn mx nm st l) s.at_∧Left V X (tick a.w) a.brd H'∧¬a.w.p+1>20000):=fun hq=>
  (c.hP.holds (zau a) _ s.at_ (zaG c.ha) hx hK hs.at0 hs.atN).mono fun v H' ⟨h1,h2⟩=>⟨_,h1,I,h2,hq⟩
 have h0:∀H',(false=B.holds (.mk K xn mn mx nm st l) s.at_∧Left V X (tick a.w) a.brd H'∧¬a.w.p+1>20000)→zaU V X Z bs a o w' (i64 0) (H'++Z.Hb a.w.acc none):=fun H' ⟨h1,h2,hq⟩=>by
  have h:=d.node hq;rw[hn,ac (by rw[←h1];simp)] at h;have:=zat h;cases this;exact c.left_no (w1:=tick a.w) I h2
 have h1:∀H',(true=B.holds (.mk K xn mn mx nm st l) s.at_∧Left V X (tick a.w) a.brd H'∧¬a.w.p+1>20000)→TrG [] Tryz.prog f ([.agg (sgC s (bs.headD 0) (.fn f2 [] cap2))]++cap) (H'++Z.Hb a.w.acc none) (zaU V X Z bs a o w'):=fun H' ⟨h1,h2,hq⟩=>by
  have h:=d.node hq;have hk:=d.ok hq;rw[hn,af h1.symm] at h hk;exact c.left_go (w1:=tick a.w) I h2 hk h
 rcases hK with rfl|rfl|rfl
 ·exact zqe X a (zcY d) xn mn mx nm st l s _ f2 cap2 f cap _ _ (c.wd o w') d.tired _ hc h0 h1
 ·exact zqd X a (zcY d) xn mn mx nm st l s _ f2 cap2 f cap _ _ (c.wd o w') d.tired _ hc h0 h1
 ·exact zqm X a (zcY d) xn mn mx nm st l s _ f2 cap2 f cap _ _ (c.wd o w') d.tired _ hc h0 h1
theorem zqB(c:Ctx V X B g N n f0 b0 Z k bs a f cap f2 cap2)(hx:Vd g (.mk 17 xn mn mx nm st l))(d:Node V X B g N n Z bs k a (.mk 17 xn mn mx nm st l) s o w'):TryC X Z V bs a (.mk 17 xn mn mx nm st l) s f cap f2 cap2 o w':=by
 have hn:zaF B (.mk 17 xn mn mx nm st l) s k (tick a.w)=if B.bit xn=true then .last (.go k s) (zbB (.mk 17 xn mn mx nm st l) (tick a.w)) else .ret (.no,zbB (.mk 17 xn mn mx nm st l) (tick a.w)):=rfl
 have hacc:(zbB (.mk 17 xn mn mx nm st l) (tick a.w)).acc=a.w.acc:=by unfold zbB;split<;>rfl
 refine zns X a (zcY d) xn mn mx nm st l s _ f2 cap2 f cap _ _ (c.wd o w') d.tired (fun t H'=>t=B.bit xn∧Left V X (zbB (.mk 17 xn mn mx nm st l) (tick a.w)) a.brd H'∧¬a.w.p+1>20000) (fun hq=>?_) (fun H' ⟨h1,h2,hq⟩=>?_) (fun H' ⟨h1,h2,hq⟩=>?_)
 ·have:=zpH V X (zau a) (zaG c.ha) (.mk 17 xn mn mx nm st l) (hx.shape.2.2.2.2.2.2.1 I) s (bs.headD 0) f2 cap2
  exact this.mono fun v H' ⟨h1,h2⟩=>⟨_,h1,(c.hP.bit xn).symm,h2,hq⟩
 ·have h:=d.node hq
  rw[hn,ac (by rw[←h1];simp)] at h;have:=zat h;cases this;exact c.left_no hacc h2
 ·have h:=d.node hq
  have hk:=d.ok hq;rw[hn,af h1.symm] at h hk;exact c.left_go hacc h2 hk h
theorem zpL(c:Ctx V X B g N n f0 b0 Z k bs a f cap f2 cap2)(hs:SOk N s)(hx:Vd g (.mk 10 xn mn mx nm st l))(d:Node V X B g N n Z bs k a (.mk 10 xn mn mx nm st l) s o w'):TryC X Z V bs a (.mk 10 xn mn mx nm st l) s f cap f2 cap2 o w':=by
 have hn0:=hx.shape.2.2.2.1 (.inr (.inl I));have g9:=c.hP.hB.g9;have hn9:1≤xn∧xn≤9:=⟨hn0.1,bm hn0.2 g9⟩;have hcp:capN s xn=zaI s.caps xn.toNat:=rfl;have hn:zaF B (.mk 10 xn mn mx nm st l) s k (tick a.w)=if B.copied (capN s xn) s.at_<0 then .ret (.no,tick a.w) else .last (.go k {s with at_:=s.at_+B.copied (capN s xn) s.at_}) (tick a.w):=rfl
 have hcc:=hs.cap _ (zj4 hs xn (by omega) hn9.2);refine zof X a (zcY d) xn mn mx nm st l s _ f2 cap2 f cap _ _ (c.wd o w') d.tired (fun t H'=>t=(if B.copied (capN s xn) s.at_<0 then -1 else s.at_+B.copied (capN s xn) s.at_)∧Left V X (tick a.w) a.brd H'∧¬a.w.p+1>20000) hn9 (fun hq=>⟨_,_,I,⟨zau a,[],I,I,zaG c.ha,zas⟩,hq⟩) (fun hq=>?_) (fun t H' ht ⟨h1,h2,hq⟩=>?_) (fun t H' ht ⟨h1,h2,hq⟩=>?_)
 ·exact(c.hP.again (zau a) (capN s xn) s.at_ (zaG c.ha) hcc hs.at0 hs.atN).mono fun v H' ⟨h1,h2⟩=>⟨_,h1,I,h2,hq⟩
 ·have h:=d.node hq
  have h0:=hs.at0;have hh:B.copied (capN s xn) s.at_<0:=by
   by_cases hh:B.copied (capN s xn) s.at_<0
   ·exact hh
   ·rw[ac hh] at h1;omega
  rw[hn,af hh] at h;have:=zat h;cases this;exact c.left_no (w1:=tick a.w) I h2
 ·have h:=d.node hq
  have hk:=d.ok hq;have hh:¬B.copied (capN s xn) s.at_<0:=fun hh=>by rw[af hh] at h1;omega
  rw[ac hh] at h1;rw[hn,ac hh] at h hk;rw[h1];exact c.left_go (w1:=tick a.w) I h2 hk h
end
section
variable{V:Wide}{X:Mt}{B:Bk}{g:Int}{N:Nat}{n:Nat}{f0:Fm}{b0:Int}{Z:Bs}{k:List Fm}{bs:List Int}{a:MS}{f f2:FuncId}{cap cap2:List A}{s:Sg}{o:BOut}{w':Wk}{xn mn mx:Int}{nm:List UInt8}{st:List (Int×Int)}{l:List Pat}
theorem zrC(c:Ctx V X B g N n f0 b0 Z k bs a f cap f2 cap2)(d:Node V X B g N n Z bs k a (.mk 4 xn mn mx nm st l) s o w'):TryC X Z V bs a (.mk 4 xn mn mx nm st l) s f cap f2 cap2 o w':=by
 have hn:zaF B (.mk 4 xn mn mx nm st l) s k (tick a.w)=catS (.mk 4 xn mn mx nm st l) 0 s k (tick a.w):=rfl;refine zqi X a (zcY d) xn mn mx nm st l s _ f2 cap2 f cap _ _ (c.wd o w') d.tired fun hq=>?_;have h:=d.node hq;have hk:=d.ok hq;rw[hn] at h hk;exact zjH (a1:=zau a) (x:=.mk 4 xn mn mx nm st l) (i:=0) c (am _) (zaG c.ha) hk h (cl _) zas
theorem zra{y:Pat}(c:Ctx V X B g N n f0 b0 Z k bs a f cap f2 cap2)(d:Node V X B g N n Z bs k a (.mk 7 xn mn mx nm st [y]) s o w'):TryC X Z V bs a (.mk 7 xn mn mx nm st [y]) s f cap f2 cap2 o w':=by
 have hn:zaF B (.mk 7 xn mn mx nm st [y]) s k (tick a.w)=.last (.try_ y s (.group (.mk 7 xn mn mx nm st [y]) s.at_::k)) (tick a.w):=rfl;refine zme X a (zcY d) xn mn mx nm st y s _ f2 cap2 f cap _ _ (c.wd o w') d.tired d.ne fun hq=>?_;have h:=d.node hq;have hk:=d.ok hq;rw[hn] at h hk;obtain⟨ht1,hf1⟩:=za2 hk;rw[zaw] at h;have:=c.try_ (a1:=zau a) (au n) (am _) (zaG c.ha) I ht1 hf1 h (zas (H:=Hm X (zau a)++Z.Hb a.w.acc none));unfold encS at this;simp only[encK] at this;rw[c.e1,c.e2] at this;exact this
theorem zqI{y z:Pat}(c:Ctx V X B g N n f0 b0 Z k bs a f cap f2 cap2)(hx:Vd g (.mk 15 xn mn mx nm st [y,z]))(d:Node V X B g N n Z bs k a (.mk 15 xn mn mx nm st [y,z]) s o w'):TryC X Z V bs a (.mk 15 xn mn mx nm st [y,z]) s f cap f2 cap2 o w':=by
 have hn0:=hx.shape.2.2.2.1 (.inr (.inr I));have g9:=c.hP.hB.g9;have hn9:1≤xn∧xn≤9:=⟨hn0.1,bm hn0.2 g9⟩;have hn:zaF B (.mk 15 xn mn mx nm st [y,z]) s k (tick a.w)=if (capN s xn).1≥0 then .last (.try_ y s k) (tick a.w) else .last (.try_ z s k) (tick a.w):=rfl
 refine zn4 X a (zcY d) xn mn mx nm st y z s _ f2 cap2 f cap _ _ (c.wd o w') d.tired d.ne hn9 (fun hq hc=>?_) (fun hq hc=>?_)
 ·have hc:(capN s xn).1≥0:=hc
  have h:=d.node hq;have hk:=d.ok hq;rw[hn,af hc] at h hk;obtain⟨ht1,hf1⟩:=za2 hk;rw[zaw] at h;exact c.try0 (a1:=zau a) (au n) (am _) (zaG c.ha) ht1 hf1 h zas
 ·have hc:¬(capN s xn).1≥0:=hc
  have h:=d.node hq;have hk:=d.ok hq;rw[hn,ac hc] at h hk;obtain⟨ht1,hf1⟩:=za2 hk;rw[zaw] at h;exact c.try0 (a1:=zau a) (au n) (am _) (zaG c.ha) ht1 hf1 h zas
theorem zqG(c:Ctx V X B g N n f0 b0 Z k bs a f cap f2 cap2)(hb:KB k)(d:Node V X B g N n Z bs k a (.mk 16 xn mn mx nm st l) s o w'):TryC X Z V bs a (.mk 16 xn mn mx nm st l) s f cap f2 cap2 o w':=by
 have hn:zaF B (.mk 16 xn mn mx nm st l) s k (tick a.w)=if xn=0 then .ret (.no,tick a.w) else if xn=1 then .last (.go (barr k) s) (tick a.w) else .ask (.go k s) (tick a.w) (zhd k):=rfl
 refine zoO X a (zcY d) xn mn mx nm st l s _ f2 cap2 f cap _ _ (c.wd o w') d.tired fun hq=>?_;have h:=d.node hq;have hk:=d.ok hq;rw[hn] at h hk;have h0:(zau a).brd=a.brd:=rfl;have hb0:0≤bs.headD 0∧bs.headD 0≤1000000:=by
  have h1:=d.hp;have h2:=c.ha.brd;cases bs with
  |nil=>exact⟨am _,by decide⟩
  |cons b bs=>
   have:=c.hbr.le b aE;exact⟨this.1,by show b≤1000000;omega⟩
 by_cases h2:xn=0
 ·rw[af h2] at h
  have:=zat h;cases this;exact ziS X xn s _ hb0 f2 cap2 f cap _ (fun _ _=>False) _ (fun v H' hh=>hh.elim) (fun m H' hh=>hh.elim) (fun _=>c.now (a1:=zau a) (o:=.no) (am _) (zaG c.ha) I zas) (fun e=>by omega) (fun e=>absurd h2 e)
 rw[ac h2] at h hk;by_cases h1:xn=1
 ·rw[af h1] at h hk
  obtain⟨ht1,hf1⟩:=za2 hk;rw[zaw] at h;obtain⟨q1,q2⟩:=zec X Z.v k bs;have cb:Ctx V X B g N n f0 b0 Z (barr k) bs a f2 cap2 f2 cap2:=⟨c.hP,c.low,c.hz,by rw[q1,c.e2],by rw[q2,c.e2],c.hl.barr hb,c.hb0,c.hbr.mono (zdY k) (am _),c.ha⟩
  exact ziS X xn s _ hb0 f2 cap2 f cap _ (fun _ _=>False) _ (fun v H' hh=>hh.elim) (fun m H' hh=>hh.elim) (fun e=>absurd e h2) (fun _=>cb.go (a1:=zau a) (au n) (am _) (zaG c.ha) ht1 hf1 h zas) (fun _ e=>absurd h1 e)
 ·rw[ac h1] at h hk
  obtain⟨o1,w1,h3,h4⟩:=zbg h;obtain⟨ht1,hf1⟩:=za2 hk;have hr:=zbh c.hP hf1 ht1 h3;refine ziS X xn s _ hb0 f2 cap2 f cap _ (zaU V X Z bs a o1 w1) _ (fun v H' ⟨_,_,_,_,_,e,_⟩=>⟨_,e⟩) (fun m H' hh hm=>?_) (fun e=>absurd e h2) (fun e=>absurd e h1) (fun _ _=>⟨c.go (a1:=zau a) (au n) (am _) (zaG c.ha) ht1 hf1 h3 zas,fun H' hh=>?_⟩)
  ·obtain⟨a2,G,q1,q2,q3,q4,q5⟩:=hh
   cases o1 with
   |no=>cases q4;exact absurd rfl hm
   |yes e=>have:=zat h4;cases this;exact⟨a2,G,q1,q2,q3,q4,q5⟩
   |cut j=>have:=zat h4;cases this;exact⟨a2,G,q1,q2,q3,q4,q5⟩
   |tired=>have:=zat h4;cases this;exact⟨a2,G,q1,q2,q3,q4,q5⟩
  ·have hno:o1=.no:=by
    by_cases hh0:o1=.no
    ·exact hh0
    ·obtain⟨a2,G,q1,q2,q3,q4,q5⟩:=hh
     have:=zmv (c:=0) c.hbr (fun j hj=>by rw[c.hbr.len];exact hr.cut j hj) hh0
     exact absurd (cC q4).2.symm this
   subst hno;have:=zat h4;cases this;obtain⟨a2,G,q1,q2,q3,q4,q5⟩:=hh;refine⟨a2,G,q1,q2,q3,?_,q5⟩;have hlen:=c.hbr.len;have hl1:=zgm hb;cases bs with
   |nil=>rw[←hlen] at hl1;simp at hl1
   |cons b bs=>simp only[outI,List.headD_cons];rw[←hlen];simp
theorem zrd(c:Ctx V X B g N n f0 b0 Z k bs a f cap f2 cap2)(hx:Vd g (.mk 5 xn mn mx nm st l))(d:Node V X B g N n Z bs k a (.mk 5 xn mn mx nm st l) s o w'):TryC X Z V bs a (.mk 5 xn mn mx nm st l) s f cap f2 cap2 o w':=by
 have hn:zaF B (.mk 5 xn mn mx nm st l) s k (tick a.w)=.last (.alts l s k) (tick a.w):=rfl;have hl60:=(hx.shape.1 (.inr I)).2;refine zn8 X a (zcY d) xn mn mx nm st l s _ f2 cap2 f cap _ _ (c.wd o w') d.tired
  (fun i H=>∃m a1 G,m≤n∧a.brd≤a1.brd∧MOk V X a1∧zaJ B a1.w∧TOk g N (.alts (l.drop i) s k) a1.w∧brun B m (.alts (l.drop i) s k) a1.w=some (o,w')∧H.Perm (G++(Hm X a1++Z.Hb a1.w.acc none)))
  (fun hq=>?_) (fun i y H hy hr=>?_) (fun H hr=>?_) hl60
 ·have h:=d.node hq
  have hk:=d.ok hq;rw[hn] at h hk;obtain⟨ht1,hf1⟩:=za2 hk;rw[zaw] at h;exact⟨n,zau a,[],au n,am _,zaG c.ha,hf1,ht1,h,zas⟩
 ·obtain⟨m,a1,G,hm,hb,ha1,hf1,ht1,hrun,hp⟩:=hr
  have hd:l.drop i=y::l.drop (i+1):=zaA hy;cases m with
  |zero=>cases hrun
  |succ m=>
   rw[hd] at hrun ht1;have hrun:(Tm.ask (.try_ y s k) a1.w (zdR (.last (.alts (l.drop (i+1)) s k)))).eval (brun B m)=some (o,w'):=hrun;have hok:Tm.Ok g N B s.at_ (lvl k) (Tm.ask (.try_ y s k) a1.w (zdR (.last (.alts (l.drop (i+1)) s k)))):=zg3 hf1 ht1;obtain⟨o1,w1,h3,h4⟩:=zbg hrun;obtain⟨ht2,hf2⟩:=za2 hok;have hro:=zbh c.hP hf2 ht2 h3;have hnx:=zeB hok o1 w1 hro;refine(c.try0 (Nat.le_of_succ_le hm) hb ha1 ht2 hf2 h3 hp).mono fun v H' hq=>?_;obtain⟨a2,G2,q1,q2,q3,q4,q5⟩:=hq;refine⟨outI bs o1,q4,fun hne=>?_,fun h0=>?_⟩
   ·cases o1 with
    |no=>exact absurd rfl hne
    |yes e=>have:=zat h4;cases this;exact⟨a2,G2,q1,q2,q3,I,q5⟩
    |cut j=>have:=zat h4;cases this;exact⟨a2,G2,q1,q2,q3,I,q5⟩
    |tired=>have:=zat h4;cases this;exact⟨a2,G2,q1,q2,q3,I,q5⟩
   ·have hno:o1=.no:=by
     by_cases hh0:o1=.no
     ·exact hh0
     ·exact absurd h0 (zmv (c:=0) c.hbr (fun j hj=>by rw[c.hbr.len];exact hro.cut j hj) hh0)
    subst hno;have h4:(Tm.last (.alts (l.drop (i+1)) s k) w1).eval (brun B m)=some (o,w'):=h4;have hnx:Tm.Ok g N B s.at_ (lvl k) (Tm.last (.alts (l.drop (i+1)) s k) w1):=hnx;obtain⟨ht3,hf3⟩:=za2 hnx;rw[zaw] at h4;exact⟨m,a2,G2,Nat.le_of_succ_le hm,q3,q2,by rw[q1];exact hf3,by rw[q1];exact ht3,by rw[q1];exact h4,by rw[q1];exact q5⟩
 ·obtain⟨m,a1,G,hm,hb,ha1,hf1,ht1,hrun,hp⟩:=hr
  rw[di] at hrun;cases m with
  |zero=>cases hrun
  |succ m=>
   have hrun:(Tm.ret (.no,a1.w)).eval (brun B m)=some (o,w'):=hrun;have:=zat hrun;cases this;exact c.now (o:=.no) hb ha1 I hp
theorem zrp(c:Ctx V X B g N n f0 b0 Z k bs a f cap f2 cap2)(hs:SOk N s)(hk0:KOk g N (tick a.w).p k)(hkb:KB k)(hgb:GB s.at_ k)(d:Node V X B g N n Z bs k a (.mk 6 xn mn mx nm st l) s o w'):TryC X Z V bs a (.mk 6 xn mn mx nm st l) s f cap f2 cap2 o w':=by
 have hn:zaF B (.mk 6 xn mn mx nm st l) s k (tick a.w)=if xn=2 then .ask (.turn (zcE (.mk 6 xn mn mx nm st l)) 0 s [.stop (-1)]) (tick a.w) (thenS k s) else .last (.turn (.mk 6 xn mn mx nm st l) 0 s k) (tick a.w):=rfl
 refine znd X a (zcY d) xn mn mx nm st l s _ f2 cap2 f cap _ _ (c.wd o w') d.tired fun hq=>?_;have h:=d.node hq;have hk:=d.ok hq;rw[hn] at h hk;refine zhx X (.mk 6 xn mn mx nm st l) s _ f2 cap2 f cap _ _ (c.wd o w') (fun h2=>?_) (fun h2=>?_)
 ·have h2:xn=2:=h2
  rw[af h2] at h hk;obtain⟨o1,w1,h3,h4⟩:=zbg h;obtain⟨ht1,hf1⟩:=za2 hk;have hro:=zbh c.hP hf1 ht1 h3;refine zeZ c (a1:=zau a) (am _) h3 I I ht1 hf1 (fun o w' r=>zeB hk o w' r) h4 _ _ ?_;refine zdk (-1) s (bs.headD 0) f2 cap2 (zaG c.ha) (by have:=d.hp;show a.w.p+1≤20001;omega) (by have:=c.ha.brd.2;show a.brd+1≤((a.w.p+1:Nat):Int);omega) (fun j hj=>by have:=hro.cut j hj;simp only[Task.k,lvl] at this;omega) _ _ fun b' re a' hb' ha' hm hbr'=>?_
  have hw':a'.w=tick a.w:=by rw[ha'];rfl
  have:=zdw (c.low n (au n)) (zcw b' (-1) re) (k:=[.stop (-1)]) (bs:=[b']) (a:=a') I I hbr' (am _) hm (by rw[hw'];exact ht1) (by rw[hw'];exact hf1) (by rw[hw'];exact h3) (zas (H:=Hm X a'++(ze5 b' (-1) re).Hb a'.w.acc none));exact zgn X (zcE (.mk 6 xn mn mx nm st l)) s b' _ _ _ _ _ _ this
 ·have h2:xn≠2:=h2
  rw[ac h2] at h hk;obtain⟨ht1,hf1⟩:=za2 hk;rw[zaw] at h;have:=c.turn (a1:=zau a) (au n) (am _) (zaG c.ha) ht1 hf1 h (zas (H:=Hm X (zau a)++Z.Hb a.w.acc none));unfold zb1 at this;rw[ac (show¬(Pat.mk 6 xn mn mx nm st l).n=2 from h2)] at this
  exact this
end
section
variable{V:Wide}{X:Mt}{B:Bk}{g:Int}{N:Nat}{n:Nat}{f0:Fm}{b0:Int}{Z:Bs}{k:List Fm}{bs:List Int}{a:MS}{f f2:FuncId}{cap cap2:List A}{s:Sg}{o:BOut}{w':Wk}{xn mn mx:Int}{nm:List UInt8}{st:List (Int×Int)}{l:List Pat}
theorem zqs(c:Ctx V X B g N n f0 b0 Z k bs a f cap f2 cap2)(hs:SOk N s)(hx:Vd g (.mk 14 xn mn mx nm st l))(hkb:KB k)(d:Node V X B g N n Z bs k a (.mk 14 xn mn mx nm st l) s o w'):TryC X Z V bs a (.mk 14 xn mn mx nm st l) s f cap f2 cap2 o w':=by
 have hn:zaF B (.mk 14 xn mn mx nm st l) s k (tick a.w)=if (xn,s.at_)∈s.calls∨s.calls.length≥20 then .ret (.no,tick a.w) else .ask (.try_ (B.body xn) {s with calls:=(xn,s.at_)::s.calls} (.call s::k)) (tick a.w) (zdP k):=rfl
 have hxn:=hx.shape.2.2.2.2.1 I;obtain⟨i,hg⟩:=c.hP.body xn hxn.1 hxn.2;have hsl:=hs.calls;have hbr:=c.ha.brd;have hdp:=d.hp;refine zod X a (zcY d) xn mn mx nm st l s _ f2 cap2 f cap _ _ (c.wd o w') d.tired fun hq=>?_;have h:=d.node hq;have hk:=d.ok hq;rw[hn] at h hk;by_cases hc:(xn,s.at_)∈s.calls∨s.calls.length≥20
 ·rw[af hc] at h
  have:=zat h;cases this;exact zmE X (zau a) ⟨hbr.1,by show a.brd≤1000000;omega⟩ xn s (by omega) _ f2 cap2 f cap _ _ (c.wd _ _) d.ne (zaU V X Z bs a .no (tick a.w)) d.ne (fun v H' ⟨_,_,_,_,_,e,_⟩=>⟨0,e⟩) (B.body xn) i hg
   (fun _=>c.now (a1:=zau a) (o:=.no) (am _) (zaG c.ha) I zas) (fun e=>absurd hc e) (fun m H' ⟨a2,G,q1,q2,q3,q4,q5⟩=>by
    have q4:m=0:=(cC q4).2;rw[q4];exact⟨a2,G,q1,q2,q3,ai i64 (ac (show¬(0:Int)=3+((zau a).brd+1) by show¬(0:Int)=3+(a.brd+1);omega)),q5⟩)
 ·rw[ac hc] at h hk
  obtain⟨o1,w1,h3,h4⟩:=zbg h;obtain⟨ht1,hf1⟩:=za2 hk;have hro:=zbh c.hP hf1 ht1 h3;have hm:MOk V X {zau a with brd:=a.brd+1}:=⟨c.ha.g,c.ha.codes,⟨by show 0≤a.brd+1;omega,by show a.brd+1≤((a.w.p+1:Nat):Int);omega⟩,c.ha.we⟩
  have hbr2:BrOk ((a.brd+1)::bs) (.call s::k) {zau a with brd:=a.brd+1}:=⟨by simp only[aX,lvl];rw[c.hbr.len],fun b hb=>by
   rcases List.mem_cons.1 hb with rfl|hb
   ·exact⟨by omega,am _⟩
   ·have:=c.hbr.le b hb;exact⟨this.1,by show b≤a.brd+1;omega⟩,List.nodup_cons.2 ⟨fun hb=>by have:=c.hbr.le _ hb;omega,c.hbr.nd⟩⟩
  have hb0':((a.brd+1)::bs).getLast?=some b0:=by rw[List.getLast?_cons,c.hb0];rfl
  have ht:=zdm (c.low n (au n)) c.hz (k:=.call s::k) (bs:=(a.brd+1)::bs) (a:=a) (a1:={zau a with brd:=a.brd+1}) c.hl.cons hb0' hbr2 (by show a.brd≤a.brd+1;omega) hm ht1 hf1 h3 (zas (H:=Hm X {zau a with brd:=a.brd+1}++Z.Hb a.w.acc none))
  unfold encS at ht;simp only[encK,List.tail_cons,List.headD_cons] at ht;rw[c.e1,c.e2] at ht;refine zmE X (zau a) ⟨hbr.1,by show a.brd≤1000000;omega⟩ xn s (by omega) _ f2 cap2 f cap _ _ (c.wd _ _) d.ne (zaU V X Z ((a.brd+1)::bs) a o1 w1) (zej (n:=n) (a1:=zau a) c.ha h3 c.ha.codes (cl _)) (fun v H' ⟨_,_,_,_,_,e,_⟩=>⟨_,e⟩) (B.body xn) i hg
   (fun e=>absurd e hc) (fun _=>ht) (fun m H' hh=>?_)
  obtain⟨a2,G,q1,q2,q3,q4,q5⟩:=hh;have q4:m=outI ((a.brd+1)::bs) o1:=(cC q4).2;have e0:(zau a).brd+1=a.brd+1:=rfl;rw[e0];cases o1 with
  |no=>
   have:=zat h4;cases this;rw[q4];exact⟨a2,G,q1,q2,q3,ai i64 (ac (show¬(0:Int)=3+(a.brd+1) by omega)),q5⟩
  |yes e=>
   have:=zat h4;cases this;rw[q4];exact⟨a2,G,q1,q2,q3,ai i64 (ac (show¬(1:Int)=3+(a.brd+1) by omega)),q5⟩
  |tired=>
   have:=zat h4;cases this;rw[q4];exact⟨a2,G,q1,q2,q3,ai i64 (ac (show¬(2:Int)=3+(a.brd+1) by omega)),q5⟩
  |cut j=>
   have hj:=hro.cut j I;have hj2:j≤lvl k+1:=hj.2;have h4:(if j=lvl k+1 then Tm.ret (.no,w1) else .ret (.cut j,w1)).eval (brun B n)=some (o,w'):=h4
   have hlen:=c.hbr.len;by_cases hjk:j=lvl k+1
   ·rw[af hjk] at h4
    have:=zat h4;cases this;have hm0:m=3+(a.brd+1):=by rw[q4];simp only[outI,aX];rw[hlen,hjk];simp
    rw[af hm0];exact⟨a2,G,q1,q2,q3,I,q5⟩
   ·rw[ac hjk] at h4
    have:=zat h4;cases this;have hm1:m=outI bs (.cut j):=by rw[q4];exact zhY fun j' e=>by cases e;exact⟨hj.1,by omega⟩
    have hmem:bs.getD (bs.length - j) 0∈bs:=by
     rw[List.getD_eq_getElem?_getD,List.getElem?_eq_getElem (by omega),bT];exact bz _
    have hle:=c.hbr.le _ hmem;have hm0:¬m=3+(a.brd+1):=by rw[hm1];simp only[outI];omega
    rw[ac hm0,hm1];exact⟨a2,G,q1,q2,q3,I,q5⟩
end
section
variable{V:Wide}{X:Mt}{B:Bk}{g:Int}{N:Nat}{n:Nat}{f0:Fm}{b0:Int}{Z:Bs}{k:List Fm}{bs:List Int}{a:MS}{f f2:FuncId}{cap cap2:List A}{s:Sg}{o:BOut}{w':Wk}{xn mn mx:Int}{nm:List UInt8}{st:List (Int×Int)}{l:List Pat}
theorem zrE{y:Pat}(c:Ctx V X B g N n f0 b0 Z k bs a f cap f2 cap2)(hs:SOk N s)(hx:Vd g (.mk 9 xn mn mx nm st [y]))(d:Node V X B g N n Z bs k a (.mk 9 xn mn mx nm st [y]) s o w'):TryC X Z V bs a (.mk 9 xn mn mx nm st [y]) s f cap f2 cap2 o w':=by
 have hn:zaF B (.mk 9 xn mn mx nm st [y]) s k (tick a.w)=if zbY B (.mk 9 xn mn mx nm st [y]) s<0 then zbj (.mk 9 xn mn mx nm st [y]) k s (.no,tick a.w) else .ask (.try_ y {s with at_:=zbY B (.mk 9 xn mn mx nm st [y]) s} [.stop (zeO (.mk 9 xn mn mx nm st [y]) s)]) (tick a.w) (zbj (.mk 9 xn mn mx nm st [y]) k s):=rfl
 have hn3:=hx.shape.2.2.2.2.2.2.2.1 I;have hn3:0≤xn∧xn≤3:=hn3;have hvy:Vd g y:=hx.sub aE;obtain⟨hi,hl1,hL⟩:=c.hP.lens y hvy;have hl0:=c.hP.hB.least y hvy;have hN:=c.hP.hN;have hs0:=hs.at0;have hs1:=hs.atN;have eAt:zbY B (.mk 9 xn mn mx nm st [y]) s=if xn>1 then s.at_ - B.least y else s.at_:=rfl
 have eW:zeO (.mk 9 xn mn mx nm st [y]) s=if xn>1 then s.at_ else -1:=rfl
 refine zoY X a (zcY d) xn mn mx nm st [y] s _ f2 cap2 f cap _ _ (c.wd o w') d.tired fun hq=>?_;have h:=d.node hq;have hk:=d.ok hq;rw[hn] at h hk;by_cases hlt:zbY B (.mk 9 xn mn mx nm st [y]) s<0
 ·rw[af hlt] at h hk
  have h:(if xn%2=0 then Tm.ret (.no,tick a.w) else .last (.go k s) (tick a.w)).eval (brun B n)=some (o,w'):=h
  have hk:Tm.Ok g N B s.at_ (lvl k) (if xn%2=0 then Tm.ret (.no,tick a.w) else .last (.go k s) (tick a.w)):=hk
  refine zmr X y 9 xn hn3 mn mx nm st s ⟨hs0,by omega⟩ _ f2 cap2 f cap (Hm X (zau a)) _ _ (c.wd o w') (fun _ _ _=>False) (B.least y) hi ⟨hl0,hl1⟩ hL
   (fun e=>by rw[←eAt] at e;omega) (fun _=>⟨fun e=>?_,fun e=>?_⟩) (fun _ _ e=>e.elim) (fun _ _ _ _ _ e=>e.elim) (fun _ _ e=>e.elim)
  ·rw[af e] at h
   have:=zat h;cases this;exact c.now (a1:=zau a) (o:=.no) (am _) (zaG c.ha) I zas
  ·rw[ac e] at h hk
   obtain⟨ht1,hf1⟩:=za2 hk;rw[zaw] at h;exact c.go (a1:=zau a) (au n) (am _) (zaG c.ha) ht1 hf1 h zas
 ·rw[ac hlt] at h hk
  obtain⟨o1,w1,h3,h4⟩:=zbg h;obtain⟨ht1,hf1⟩:=za2 hk;have hro:=zbh c.hP hf1 ht1 h3;have hk2:=zeB hk o1 w1 hro;have hacc:w1.acc=a.w.acc:=zd2 B n (.try_ y {s with at_:=zbY B (.mk 9 xn mn mx nm st [y]) s} [.stop (zeO (.mk 9 xn mn mx nm st [y]) s)]) (tick a.w) o1 w1 (zbx _) h3
  have hperm:∀{H' G:Heap} {a2:MS},a2.w=w1→H'.Perm (G++Hm X a2)→(H'++Z.Hb a.w.acc none).Perm (G++(Hm X a2++Z.Hb a2.w.acc none)):=fun {H' G a2} e hp=>by
   rw[e,hacc,←aI];exact hp.append_right _
  refine zmr X y 9 xn hn3 mn mx nm st s ⟨hs0,by omega⟩ _ f2 cap2 f cap (Hm X (zau a)) _ _ (c.wd o w') (ziG V X (zeO (.mk 9 xn mn mx nm st [y]) s) (zau a) o1 w1) (B.least y) hi ⟨hl0,hl1⟩ hL
   (fun _=>?_) (fun e=>by rw[←eAt] at e;exact absurd e hlt) ?_ ?_ ?_
  ·rw[←eAt,←eW]
   refine zdk (zeO (.mk 9 xn mn mx nm st [y]) s) {s with at_:=zbY B (.mk 9 xn mn mx nm st [y]) s} (bs.headD 0) f2 cap2 (zaG c.ha) (by have:=d.hp;show a.w.p+1≤20001;omega) (by have:=c.ha.brd.2;show a.brd+1≤((a.w.p+1:Nat):Int);omega) (fun j hj=>by have:=hro.cut j hj;simp only[Task.k,lvl] at this;omega) _ _ fun b' re a' hb' ha' hm hbr'=>?_
   have hw':a'.w=tick a.w:=by rw[ha'];rfl
   have:=zdm (c.low n (au n)) (zcw b' (zeO (.mk 9 xn mn mx nm st [y]) s) re) (k:=[.stop (zeO (.mk 9 xn mn mx nm st [y]) s)]) (bs:=[b']) (a:=a') I I hbr' (am _) hm (by rw[hw'];exact ht1) (by rw[hw'];exact hf1) (by rw[hw'];exact h3) (zas (H:=Hm X a'++(ze5 b' (zeO (.mk 9 xn mn mx nm st [y]) s) re).Hb a'.w.acc none));exact zoC X (.mk 9 xn mn mx nm st [y]) y I _ b' _ _ _ _ _ _ (zej (n:=n) (a1:=a') hm (by rw[hw'];exact h3) hm.codes (au _)) this
  ·rintro e H' ⟨b',re,a2,G,rfl,hm,hw2,ha2,hb2,hp⟩
   cases o1 with
   |no=>cases hm
   |yes e=>cases hm
   |cut j=>cases hm
   |tired=>
    have:=zat h4;cases this;have:=c.now (a1:=a2) (o:=.tired) hb2 ha2 I (hperm hw2 hp);rw[hw2] at this;exact this
  ·rintro m e H' hm2 hm1 ⟨b',re,a2,G,rfl,hm,hw2,ha2,hb2,hp⟩
   have hno:(o1=.tired→False)∧(∀e,o1=.yes e→False):=⟨fun e=>by rw[e] at hm;exact hm2 hm,fun e he=>by rw[he] at hm;exact hm1 hm⟩
   have h5:(if xn%2=0 then Tm.ret (.no,w1) else .last (.go k s) w1).eval (brun B n)=some (o,w'):=by
    cases o1 with
    |no=>exact h4
    |yes e=>exact(hno.2 e rfl).elim
    |cut j=>exact h4
    |tired=>exact(hno.1 rfl).elim
   have hk5:Tm.Ok g N B s.at_ (lvl k) (if xn%2=0 then Tm.ret (.no,w1) else .last (.go k s) w1):=by
    cases o1 with
    |no=>exact hk2
    |yes e=>exact(hno.2 e rfl).elim
    |cut j=>exact hk2
    |tired=>exact(hno.1 rfl).elim
   refine⟨fun e=>?_,fun e=>?_⟩
   ·rw[af e] at h5
    have:=zat h5;cases this;have:=c.now (a1:=a2) (o:=.no) hb2 ha2 I (hperm hw2 hp);rw[hw2] at this;exact this
   ·rw[ac e] at h5 hk5
    obtain⟨ht2,hf2⟩:=za2 hk5;rw[zaw] at h5;exact c.go (a1:=a2) (au n) hb2 ha2 (by rw[hw2];exact ht2) (by rw[hw2];exact hf2) (by rw[hw2];exact h5) (hperm hw2 hp)
  ·rintro e H' ⟨b',re,a2,G,rfl,hm,hw2,ha2,hb2,hp⟩
   cases o1 with
   |no=>cases hm
   |tired=>cases hm
   |cut j=>cases hm
   |yes e=>
    have h5:(if xn%2=0 then Tm.last (.go k {s with caps:=e.caps}) w1 else .ret (.no,w1)).eval (brun B n)=some (o,w'):=h4
    have hk5:Tm.Ok g N B s.at_ (lvl k) (if xn%2=0 then Tm.last (.go k {s with caps:=e.caps}) w1 else .ret (.no,w1)):=hk2
    refine⟨fun g=>?_,fun g=>?_⟩
    ·rw[ac g] at h5
     have:=zat h5;cases this;have:=c.now (a1:=a2) (o:=.no) hb2 ha2 I (hperm hw2 hp);rw[hw2] at this;exact this
    ·rw[af g] at h5 hk5
     obtain⟨ht2,hf2⟩:=za2 hk5;rw[zaw] at h5;exact⟨e,b',_,I,c.go (a1:=a2) (au n) hb2 ha2 (by rw[hw2];exact ht2) (by rw[hw2];exact hf2) (by rw[hw2];exact h5) (hperm hw2 hp)⟩
end
section
variable{V:Wide}{X:Mt}{B:Bk}{g:Int}{N:Nat}{n:Nat}{f0:Fm}{b0:Int}{Z:Bs}{k:List Fm}{bs:List Int}{a:MS}{f f2:FuncId}{cap cap2:List A}{s:Sg}{o:BOut}{w':Wk}{xn mn mx:Int}{nm:List UInt8}{st:List (Int×Int)}{l:List Pat}
def zn7:BOut→BOut
 |.cut _=>.no
 |o=>o
def ncI(n:Int)(o:BOut):BOut:=if n=2 then zn7 o else o
theorem zl6(n:Int):ncI n .tired=.tired:=by unfold ncI;split<;>rfl
theorem zhX(n:Int)(k:List Fm)(s:Sg)(o:BOut)(w:Wk):thenS k s (ncI n o,w)=thenS k s (o,w):=by
 unfold ncI;split
 ·cases o<;>rfl
 ·rfl
theorem zqc{n:Int}{o:BOut}{c:Nat}(h:∀j,o=.cut j→j=c):∀j,ncI n o=.cut j→j=c:=by
 unfold ncI;split
 ·cases o<;>simp[zn7]
 ·exact h
theorem zpE{n:Int}{o:BOut}{e:Sg}(h:ncI n o=.yes e):o=.yes e:=by
 unfold ncI at h;split at h
 ·cases o<;>simp[zn7] at h<;>rw[h]
 ·exact h
def zdE(a:MS):MS:={a with w:={a.w with p:=a.w.p+1}}
theorem zow(X:Mt)(a:MS):Hm X (zau a)=Hm X (zdE a):=rfl
theorem zrA(hP:Prog V X B g N)(low:∀m,m≤n→AllM V X B g N m){b':Int}{re:Nat}{a':MS}{o1:BOut}{w1:Wk}{yn ym yx:Int}{ynm:List UInt8}{yst:List (Int×Int)}{yl:List Pat}(hs:SOk N s)(hm:MOk V X a')(hbr:BrOk [b'] [.stop (-1)] a')(hp:a'.w.p≤20000)(hbd:a'.brd≤a'.w.p)
  (hT:a'.w.p+1>20000→o1=.tired∧w1=(zdE a').w)
  (hR:¬a'.w.p+1>20000→brun B n (.turn (.mk 6 yn ym yx ynm yst yl) 0 s [.stop (-1)]) (zdE a').w=some (o1,w1)∧TOk g N (.turn (.mk 6 yn ym yx ynm yst yl) 0 s [.stop (-1)]) (zdE a').w∧zaJ B (zdE a').w):
  TrG [] Tryz.prog 181 [X.p,.agg (Pat.mk 6 yn ym yx ynm yst yl).C,.agg (sgC s b' (accC (-1) re)),accC (-1) re] (Hm X a'++(ze5 b' (-1) re).Hb a'.w.acc none) (zaU V X (ze5 b' (-1) re) [b'] a' (ncI yn o1) w1):=by
 have hm2:MOk V X (zdE a'):=⟨hm.g,hm.codes,⟨hm.brd.1,by show a'.brd≤((a'.w.p+1:Nat):Int);omega⟩,hm.we⟩
 have hwd:=zdy V X (ze5 b' (-1) re) [b'] a' (ncI yn o1) w1;refine znd X a' (by omega) yn ym yx ynm yst yl s b' 320 [.dp [i64 (-1)],.ptr re 25 0 0] 320 [.dp [i64 (-1)],.ptr re 25 0 0] _ _ hwd (fun hq=>?_) fun hq=>?_
 ·obtain⟨rfl,rfl⟩:=hT hq
  rw[zl6];exact⟨zdE a',[],I,hm2,am _,I,ar _⟩
 obtain⟨hrun,ht1,hf1⟩:=hR hq;have hro:=zbh hP hf1 ht1 hrun;have hcut:∀j,o1=.cut j→j=1:=fun j hj=>by have:=hro.cut j hj;simp only[Task.k,lvl] at this;omega
 have hbr2:BrOk [b'] [.stop (-1)] (zdE a'):=⟨hbr.len,hbr.le,hbr.nd⟩;rw[zow];refine zhx X (.mk 6 yn ym yx ynm yst yl) s _ _ _ _ _ _ _ hwd (fun h2=>?_) (fun h2=>?_)
 ·have h2:yn=2:=h2
  rw[show ncI yn o1=zn7 o1 from af h2]
  have cc:Ctx V X B g N n (.stop (-1)) b' (ze5 b' (-1) re) [.stop (-1)] [b'] (zdE a') 320 [.dp [i64 (-1)],.ptr re 25 0 0] 320 [.dp [i64 (-1)],.ptr re 25 0 0]:=
   ⟨hP,low,zcw b' (-1) re,I,I,I,I,hbr2,hm2⟩
  refine zcP cc (a1:=zdE a') (am _) (s:=s) (o1:=o1) (w1:=w1) (zd2 B n _ _ _ _ (by exact zbx _) hrun) (fun e he=>?_) (zfm (w0:=(zdE a').w) (c:=1) (k:=[.stop (-1)]) hs (KOk.stop (by omega) (by omega)) zhP GB.stop ⟨hro.le,hro.fr,hro.yes,fun j hj=>hro.cut j hj⟩) ?_ _ _ ?_
  ·have:=zhS B n _ _ o1 w1 hrun e he
   rw[this];rfl
  ·have hcb:∀e,o1=.yes e→e.calls=s.calls:=fun e he=>by
    have:=zhS B n _ _ o1 w1 hrun e he;rw[this];rfl
   cases o1 with
   |no=>rfl
   |tired=>rfl
   |cut j=>rfl
   |yes e=>
    cases n with
    |zero=>cases hrun
    |succ n=>
     have he0:({e with calls:=s.calls}:Sg)=e:=by rw[←hcb e I]
     show(Tm.last (.go [.stop (-1)] {e with calls:=s.calls}) w1).eval (brun B (n+1))=_
     rw[zaw,he0];rfl
  ·refine zdk (-1) s b' _ _ hm2 (by show a'.w.p+1≤20001;omega) (by show a'.brd+1≤((a'.w.p+1:Nat):Int);omega) hcut _ _ fun b2 re2 a2 hb2 ha2 hm3 hbr3=>?_
   have hw':a2.w=(zdE a').w:=by rw[ha2]
   have:=zdw (low n (au n)) (zcw b2 (-1) re2) (k:=[.stop (-1)]) (bs:=[b2]) (a:=a2) I I hbr3 (am _) hm3 (by rw[hw'];exact ht1) (by rw[hw'];exact hf1) (by rw[hw'];exact hrun) (zas (H:=Hm X a2++(ze5 b2 (-1) re2).Hb a2.w.acc none));unfold zb1 at this;rw[af (show(Pat.mk 6 yn ym yx ynm yst yl).n=2 from h2)] at this
   exact zgn X (zcE (.mk 6 yn ym yx ynm yst yl)) s b2 _ _ _ _ _ _ this
 ·have:=zdw (low n (au n)) (zcw b' (-1) re) (k:=[.stop (-1)]) (bs:=[b']) (a:=a') (a1:=zdE a') I I hbr2 (am _) hm2 ht1 hf1 hrun (zas (H:=Hm X (zdE a')++(ze5 b' (-1) re).Hb (zdE a').w.acc none))
  unfold zb1 at this;rw[ac (show¬(Pat.mk 6 yn ym yx ynm yst yl).n=2 from h2)] at this
  rw[show ncI yn o1=o1 from ac (show¬yn=2 from h2)]
  exact this
theorem zr0{y:Pat}(c:Ctx V X B g N n f0 b0 Z k bs a f cap f2 cap2)(hs:SOk N s)(hx:Vd g (.mk 8 xn mn mx nm st [y]))(d:Node V X B g N n Z bs k a (.mk 8 xn mn mx nm st [y]) s o w'):TryC X Z V bs a (.mk 8 xn mn mx nm st [y]) s f cap f2 cap2 o w':=by
 have hn:zaF B (.mk 8 xn mn mx nm st [y]) s k (tick a.w)=if y.op=6 then
   (if B.tau ((tick a.w).p+1) (tick a.w).r=true then .ret (.tired,{tick a.w with p:=(tick a.w).p+1})
    else .ask (.turn y 0 s [.stop (-1)]) {tick a.w with p:=(tick a.w).p+1} (thenS k s))
   else .ask (.try_ y s [.stop (-1)]) (tick a.w) (thenS k s):=rfl
 refine zlr X a (zcY d) xn mn mx nm st y s _ f2 cap2 f cap _ _ (c.wd o w') d.tired d.ne fun hq=>?_;have h:=d.node hq;have hk:=d.ok hq;rw[hn] at h hk;have hpa:=d.hp;have hbr0:=c.ha.brd;refine zlR X y s _ f2 cap2 f cap _ _ ?_;by_cases h6:y.op=6
 ·rw[af h6] at h hk
  have hτ:B.tau ((tick a.w).p+1) (tick a.w).r=decide (a.w.p+1+1>20000):=by rw[c.hP.tau];rfl
  obtain⟨yo,yn,ym,yx,ynm,yst,yl⟩:=y;have h6:yo=6:=h6;subst h6;have key:∃o1 w1,(w1.acc=a.w.acc)∧(∀e,o1=.yes e→e.calls=s.calls)∧(∀j,o1=.cut j→j=1)∧Tm.Ok g N B s.at_ (lvl k) (thenS k s (o1,w1))∧(thenS k s (o1,w1)).eval (brun B n)=some (o,w')∧
    (a.w.p+1+1>20000→o1=.tired∧w1={tick a.w with p:=(tick a.w).p+1})∧
    (¬a.w.p+1+1>20000→brun B n (.turn (.mk 6 yn ym yx ynm yst yl) 0 s [.stop (-1)]) {tick a.w with p:=(tick a.w).p+1}=some (o1,w1)∧TOk g N (.turn (.mk 6 yn ym yx ynm yst yl) 0 s [.stop (-1)]) {tick a.w with p:=(tick a.w).p+1}∧zaJ B {tick a.w with p:=(tick a.w).p+1}):=by
   by_cases hq2:a.w.p+1+1>20000
   ·rw[af (by rw[hτ];exact aA hq2)] at h hk
    exact⟨.tired,{tick a.w with p:=(tick a.w).p+1},I,fun e he=>(by cases he),fun j hj=>(by cases hj),hk,h,fun _=>⟨I,I⟩,fun e=>absurd hq2 e⟩
   ·rw[ac (by rw[hτ];simpa using hq2)] at h hk
    obtain⟨o1,w1,h3,h4⟩:=zbg h;obtain⟨ht1,hf1⟩:=za2 hk;have hro:=zbh c.hP hf1 ht1 h3;refine⟨o1,w1,zd2 B n (.turn (.mk 6 yn ym yx ynm yst yl) 0 s [.stop (-1)]) {tick a.w with p:=(tick a.w).p+1} o1 w1 (zbx _) h3,fun e he=>?_,fun j hj=>by have:=hro.cut j hj;simp only[Task.k,lvl] at this;omega,zeB hk o1 w1 hro,h4,fun e=>absurd e hq2,fun _=>⟨h3,ht1,hf1⟩⟩
    have:=zhS B n _ _ o1 w1 h3 e he;rw[this];rfl
  obtain⟨o1,w1,k1,k2,k3,k4,k5,k6,k7⟩:=key;refine zcP c (a1:=zau a) (o1:=ncI yn o1) (w1:=w1) (am _) k1 (fun e he=>k2 e (zpE he)) (by rw[zhX];exact k4) (by rw[zhX];exact k5) _ _ ?_;refine zdk (-1) s (bs.headD 0) f2 cap2 (zaG c.ha) (by show a.w.p+1≤20001;omega) (by show a.brd+1≤((a.w.p+1:Nat):Int);omega) (zqc k3) _ _ fun b' re a' hb' ha' hm hbr'=>?_
  have hw':a'.w=tick a.w:=by rw[ha'];rfl
  have hwp:a'.w.p=a.w.p+1:=by rw[hw'];rfl
  have htp:(zdE a').w={tick a.w with p:=(tick a.w).p+1}:=by show {a'.w with p:=a'.w.p+1}=_;rw[hw']
  refine zgg X _ s b' _ _ _ _ _ _ (zrA (n:=n) c.hP c.low (o1:=o1) (w1:=w1) hs hm hbr' (by rw[hwp];omega) (by rw[hwp,ha'];show a.brd+1≤_;omega) (fun e=>?_) fun e=>?_)
  ·rw[htp]
   exact k6 (by rw[hwp] at e;exact e)
  ·rw[htp]
   exact k7 (by rw[hwp] at e;exact e)
 ·rw[ac h6] at h hk
  obtain⟨o1,w1,h3,h4⟩:=zbg h;obtain⟨ht1,hf1⟩:=za2 hk;have hro:=zbh c.hP hf1 ht1 h3;refine zeZ c (a1:=zau a) (am _) h3 I I ht1 hf1 (fun o w' r=>zeB hk o w' r) h4 _ _ ?_;refine zdk (-1) s (bs.headD 0) f2 cap2 (zaG c.ha) (by show a.w.p+1≤20001;omega) (by show a.brd+1≤((a.w.p+1:Nat):Int);omega) (fun j hj=>by have:=hro.cut j hj;simp only[Task.k,lvl] at this;omega) _ _ fun b' re a' hb' ha' hm hbr'=>?_
  have hw':a'.w=tick a.w:=by rw[ha'];rfl
  have:=zdm (c.low n (au n)) (zcw b' (-1) re) (k:=[.stop (-1)]) (bs:=[b']) (a:=a') I I hbr' (am _) hm (by rw[hw'];exact ht1) (by rw[hw'];exact hf1) (by rw[hw'];exact h3) (zas (H:=Hm X a'++(ze5 b' (-1) re).Hb a'.w.acc none));exact zgg X y s b' _ _ _ _ _ _ this
end
section
variable{V:Wide}{X:Mt}{B:Bk}{g:Int}{N:Nat}{n:Nat}{f0:Fm}{b0:Int}{Z:Bs}{k:List Fm}{bs:List Int}{a:MS}{f f2:FuncId}{cap cap2:List A}{s:Sg}{o:BOut}{w':Wk}
theorem znB(c:Ctx V X B g N n f0 b0 Z k bs a f cap f2 cap2){x:Pat}(hf:zaJ B a.w)(ht:TOk g N (.try_ x s k) a.w)(h:brun B (n+1) (.try_ x s k) a.w=some (o,w')):TryC X Z V bs a x s f cap f2 cap2 o w':=by
 have d:=zqw c hf ht h;obtain⟨op,xn,mn,mx,nm,st,l⟩:=x;have hx:Vd g (.mk op xn mn mx nm st l):=ht.x;have hs:SOk N s:=ht.s;have hk:KOk g N (a.w.p+1) k:=ht.k;have hkb:KB k:=ht.b;have hgb:GB s.at_ k:=ht.gb;have hop:0≤op∧op≤18:=hx.op;have sh:=hx.shape;have h19:op=0∨op=1∨op=2∨op=3∨op=4∨op=5∨op=6∨op=7∨op=8∨op=9∨op=10∨op=11∨op=12∨op=13∨op=14∨op=15∨op=16∨op=17∨op=18:=by omega
 rcases h19 with rfl|rfl|rfl|rfl|rfl|rfl|rfl|rfl|rfl|rfl|rfl|rfl|rfl|rfl|rfl|rfl|rfl|rfl|rfl
 ·exact zr8 c d
 ·exact zfS c hs (.inl I) hx d
 ·exact zfS c hs (.inr (.inl I)) hx d
 ·exact zfS c hs (.inr (.inr I)) hx d
 ·exact zrC c d
 ·exact zrd c hx d
 ·exact zrp c hs hk hkb hgb d
 ·obtain⟨y,rfl⟩:∃y,l=[y]:=sh.2.1 (.inr (.inl rfl))
  exact zra c d
 ·obtain⟨y,rfl⟩:∃y,l=[y]:=sh.2.1 (.inr (.inr (.inl rfl)))
  exact zr0 c hs hx d
 ·obtain⟨y,rfl⟩:∃y,l=[y]:=sh.2.1 (.inr (.inr (.inr rfl)))
  exact zrE c hs hx d
 ·exact zpL c hs hx d
 ·exact zfG c hs (.inl I) hx d
 ·exact zfG c hs (.inr (.inl I)) hx d
 ·exact zfG c hs (.inr (.inr I)) hx d
 ·exact zqs c hs hx hkb d
 ·obtain⟨y,z,rfl⟩:∃y z,l=[y,z]:=sh.2.2.1 rfl
  exact zqI c hx d
 ·exact zqG c hkb d
 ·exact zqB c hx d
 ·exact zqK c d
theorem znS(hP:Prog V X B g N):∀n,AllM V X B g N n:=by
 intro n
 induction n using Nat.strongRecOn with
 |_ n ih=>
 intro f0 b0 Z hz t bs a o w' hf ht hl hb0 ha hbr hr;cases n with
 |zero=>cases hr
 |succ n=>
  have low:∀m,m≤n→AllM V X B g N m:=fun m hm=>ih m (Nat.lt_succ_of_le hm);cases t with
  |alts l s k=>exact trivial
  |go k s=>exact zqU hP low hz hf ht hl hb0 ha hbr hr
  |try_ x s k=>
   obtain⟨f,cap,f2,cap2,e1,e2⟩:=zey hz bs k;have:=znB ⟨hP,low,hz,e1,e2,hl,hb0,hbr,ha⟩ hf ht hr;simp only[ConM,encS];rw[e1,e2];exact this
  |turn x many s k=>
   obtain⟨f,cap,f2,cap2,e1,e2⟩:=zey hz bs k;have cc:Ctx V X B g N n f0 b0 Z k bs a f cap f2 cap2:=⟨hP,low,hz,e1,e2,hl,hb0,hbr,ha⟩;have:=cc.turns hf ht hr (cc.ne hr ha.codes (au _));simp only[ConM,encS];rw[e1,e2];exact this
end
open Go.Lib
def fstM(s:List UInt8):Nat×Nat:=if s=[] then (0,0) else if badC s=true then (0,0) else dec s
def zaL(b:Nat):Nat×Nat×Nat:=if 192≤b∧b<224 then (2,b - 192,128) else if 224≤b∧b<240 then (3,b - 224,2048) else if 240≤b∧b<248 then (4,b - 240,65536) else (0,0,0)
def ze6(s:List UInt8)(i:Nat):Prop:=128≤bt s i∧bt s i<192
def cN(c0:Nat)(s:List UInt8):Nat→Nat
 |0=>c0
 |k+1=>cN c0 s k*64+(bt s (k+1) - 128)
theorem zsd{c0:Nat}(h:c0<32)(s:List UInt8):∀k,k≤3→cN c0 s k<32*256^k
 |0,_=>by simp[cN];exact h
 |k+1,hk=>by
  have:=zsd h s k (by omega);have:=zfI s (k+1);simp only[cN,Nat.pow_succ];omega
theorem zqY(b:Nat):(zaL b).2.1<32∧(zaL b).1≤4:=by
 unfold zaL
 repeat' split
 all_goals simp only;omega
theorem zsF{s:List UInt8}(h0:s≠[])(h:bt s 0<128):fstM s=(bt s 0,1):=by
 have e:dec s=(bt s 0,1):=by rw[zfX];unfold decodeN;rw[af h]
 unfold fstM badC;rw[ac h0,e,ac];simp only[b5,aL,not_and];omega
theorem zi4{s:List UInt8}(h:128≤bt s 0)(h2:(zaL (bt s 0)).1=0∨s.length<(zaL (bt s 0)).1∨(∃i,1≤i∧i<(zaL (bt s 0)).1∧¬ze6 s i)):fstM s=(0,0):=by
 unfold fstM;split
 ·rfl
 split
 ·rfl
 rename_i h0 hb;exfalso
 apply hb
 unfold badC;rw[aL,zfX];have hl:=List.length_pos_iff.2 h0;unfold decodeN;rw[ac (by omega)];unfold zaL at h2;have l1:=zfI s 1;have l2:=zfI s 2;have l3:=zfI s 3;have key:∀n,n=2∨n=3∨n=4→(s.length<n∨(∃i,1≤i∧i<n∧¬ze6 s i))→¬(1<s.length∧bt s 1 / 64=2)∨(3≤n∧¬(2<s.length∧bt s 2 / 64=2))∨(4≤n∧¬(3<s.length∧bt s 3 / 64=2)):=by
  intro n hn hh;rcases hh with hh|⟨i,hi1,hi2,hc⟩
  ·rcases hn with rfl|rfl|rfl<;>omega
  ·have:i=1∨i=2∨i=3:=by omega
   unfold ze6 at hc;rcases this with rfl|rfl|rfl<;>omega
 by_cases e1:192≤bt s 0∧bt s 0<224
 ·rw[af e1] at h2
  have:=key 2 (by omega) (by rcases h2 with h2|h2;(· simp at h2);(· exact h2))
  rw[ac (by omega),ac (by omega),ac (by omega)]
 rw[ac e1] at h2;by_cases e2:224≤bt s 0∧bt s 0<240
 ·rw[af e2] at h2
  have:=key 3 (by omega) (by rcases h2 with h2|h2;(· simp at h2);(· exact h2))
  rw[ac (by omega),ac (by omega),ac (by omega)]
 rw[ac e2] at h2;by_cases e3:240≤bt s 0∧bt s 0<248
 ·rw[af e3] at h2
  have:=key 4 (by omega) (by rcases h2 with h2|h2;(· simp at h2);(· exact h2))
  rw[ac (by omega),ac (by omega),ac (by omega)]
 rw[ac (by omega),ac (by omega),ac (by omega)]
theorem zqv{s:List UInt8}(h:128≤bt s 0){n c0 ls:Nat}(hl:zaL (bt s 0)=(n,c0,ls))(hn:n≠0)(hs:n≤s.length)(hc:∀i,1≤i→i<n→ze6 s i):
  fstM s=if (decide ((cN c0 s (n - 1):Int)<ls)||!chM (cN c0 s (n - 1)))=true then (0,0) else (cN c0 s (n - 1),n):=by
 have h0:s≠[]:=fun e=>by subst e;simp at hs;omega
 have l1:=zfI s 1;have l2:=zfI s 2;have l3:=zfI s 3;have l0:=zfI s 0;unfold zaL at hl;unfold fstM badC chM;rw[ac h0,zfX];by_cases e1:192≤bt s 0∧bt s 0<224
 ·rw[af e1] at hl
  obtain⟨rfl,rfl,rfl⟩:=cm hl|>.imp id cm
  have c1:=hc 1 (by omega) (by omega);unfold ze6 at c1;simp only[cN,aS];have hd:decodeN s.length (bt s 0) (bt s 1) (bt s 2) (bt s 3)=if bt s 0%32*64+bt s 1%64≥128 then (bt s 0%32*64+bt s 1%64,2) else (65533,1):=by
   unfold decodeN;rw[ac (by omega),af (by omega)]
  rw[hd];clear hd;have e:bt s 0%32*64+bt s 1%64=(bt s 0 - 192)*64+(bt s 1 - 128):=by omega
  rw[e]
  generalize (bt s 0 - 192)*64+(bt s 1 - 128)=c at*
  by_cases g:c≥128
  ·rw[af g,ac (by simp),ac (by simp;omega)]
  ·rw[ac g,af (by simp),af (by simp;omega)]
 rw[ac e1] at hl;by_cases e2:224≤bt s 0∧bt s 0<240
 ·rw[af e2] at hl
  obtain⟨rfl,rfl,rfl⟩:=cm hl|>.imp id cm
  have c1:=hc 1 (by omega) (by omega);have c2:=hc 2 (by omega) (by omega);unfold ze6 at c1 c2;simp only[cN,aS,Nat.reduceAdd];have hd:decodeN s.length (bt s 0) (bt s 1) (bt s 2) (bt s 3)=if bt s 0%16*4096+bt s 1%64*64+bt s 2%64≥2048∧(bt s 0%16*4096+bt s 1%64*64+bt s 2%64<55296∨(57344≤bt s 0%16*4096+bt s 1%64*64+bt s 2%64∧bt s 0%16*4096+bt s 1%64*64+bt s 2%64≤1114111)) then (bt s 0%16*4096+bt s 1%64*64+bt s 2%64,3) else (65533,1):=by
   unfold decodeN;rw[ac (by omega),ac (by omega),af (by omega)]
  rw[hd];clear hd;have e:bt s 0%16*4096+bt s 1%64*64+bt s 2%64=((bt s 0 - 224)*64+(bt s 1 - 128))*64+(bt s 2 - 128):=by omega
  rw[e]
  generalize ((bt s 0 - 224)*64+(bt s 1 - 128))*64+(bt s 2 - 128)=c at*
  by_cases g:c≥2048∧(c<55296∨57344≤c∧c≤1114111)
  ·rw[af g,ac (by simp),ac (by simp;omega)]
  ·rw[ac g,af (by simp),af (by simp;omega)]
 rw[ac e2] at hl;by_cases e3:240≤bt s 0∧bt s 0<248
 ·rw[af e3] at hl
  obtain⟨rfl,rfl,rfl⟩:=cm hl|>.imp id cm
  have c1:=hc 1 (by omega) (by omega);have c2:=hc 2 (by omega) (by omega);have c3:=hc 3 (by omega) (by omega);unfold ze6 at c1 c2 c3;simp only[cN,aS,Nat.reduceAdd];have hd:decodeN s.length (bt s 0) (bt s 1) (bt s 2) (bt s 3)=if bt s 0%8*262144+bt s 1%64*4096+bt s 2%64*64+bt s 3%64≥65536∧(bt s 0%8*262144+bt s 1%64*4096+bt s 2%64*64+bt s 3%64<55296∨(57344≤bt s 0%8*262144+bt s 1%64*4096+bt s 2%64*64+bt s 3%64∧bt s 0%8*262144+bt s 1%64*4096+bt s 2%64*64+bt s 3%64≤1114111)) then (bt s 0%8*262144+bt s 1%64*4096+bt s 2%64*64+bt s 3%64,4) else (65533,1):=by
   unfold decodeN;rw[ac (by omega),ac (by omega),ac (by omega),af (by omega)]
  rw[hd];clear hd;have e:bt s 0%8*262144+bt s 1%64*4096+bt s 2%64*64+bt s 3%64=(((bt s 0 - 240)*64+(bt s 1 - 128))*64+(bt s 2 - 128))*64+(bt s 3 - 128):=by omega
  rw[e]
  generalize (((bt s 0 - 240)*64+(bt s 1 - 128))*64+(bt s 2 - 128))*64+(bt s 3 - 128)=c at*
  by_cases g:c≥65536∧(c<55296∨57344≤c∧c≤1114111)
  ·rw[af g,ac (by simp),ac (by simp;omega)]
  ·rw[ac g,af (by simp),af (by simp;omega)]
 rw[ac e3] at hl;exact absurd (cm hl).1.symm hn
set_option maxHeartbeats 1000000 in
theorem first_tr(s:List UInt8):PTr Tryz.prog 170 [.str s] (.tup [i64 (fstM s).1,i64 (fstM s).2]):=by
 refine aC (N:=87) Tryz.func170 I I I ?_;refine Jv (t:=0) I (za1.str _) fun hlen=>?_;refine ae0 (ag 14 I (J2 ?_))
 (refine J4 I (fun h0=>?_) (fun h0=>?_))
 ·have h0:s=[]:=by
   have:=eq_of_beq h0;exact bE (by omega)
  subst h0;refine ae (ag 8 I (J ?_));refine zaa (Jm I I I) ?_;rfl
 ·have hne:s≠[]:=fun e=>by rw[e] at h0;cases h0
  have hpos:0<s.length:=List.length_pos_iff.2 hne;have hg0:s[((0:Int)).toNat]?=some (s.getD 0 0):=zpd (i:=0) hpos;have hbl:=zfI s 0;have hwb:IntKind.i64.wrap (((s.getD 0 0).toNat:Nat):Int)=(bt s 0:Int):=by rw[IntKind.wrap_i64];unfold bt at*;omega
  refine ae (ag 5 I (Jo okL (zb7 I I I I (by omega) (hg0)) I (ag 12 I (J2 ?_))));rw[hwb];refine Y1 (α:=Nat×Nat×Nat) (fun a=>[(0,.str s),(5,i64 a.1),(6,i64 a.2.1),(7,i64 a.2.2)]) (fun _=>[]) (fun a=>128≤bt s 0∧a=zaL (bt s 0)) ?_ fun R K hR=>?_
  ·rintro⟨n,c0,ls⟩ ⟨hb,ha⟩
   have hle:=zqY (bt s 0);rw[←ha] at hle;simp only at hle;refine AWp.seq ?_;refine Y1 (α:=Unit) (fun _=>[(0,.str s),(5,i64 n),(6,i64 c0),(7,i64 ls)]) (fun _=>[]) (fun _=>n≠0∧n≤s.length) ?_ fun R K hR=>?_
   ·rintro _ ⟨hn0,hns⟩
    refine AWp.seq ?_;refine Y1 (α:=Unit) (fun _=>[(0,.str s),(5,i64 n),(6,i64 (cN c0 s (n - 1))),(7,i64 ls)]) (fun _=>[]) (fun _=>∀i,1≤i→i<n→ze6 s i) ?_ fun R K hR=>?_
    ·rintro _ hc
     have hF:=zqv hb ha.symm hn0 hns hc;refine ae (ag 7 I (J3 ?_));refine J6 I I I (fun h=>?_) (fun h=>?_)
     ·refine ab (ag 15 I (J ?_))
      (refine zaa (Jm I I I) ?_;((have e:fstM s=(0,0):=(by rw[hF];apply af;clear hF;simp_all;done);rw[e];rfl)))
     ·refine ab (ag 1 I (Jg I I I (J9 I I I (zby _) (ab (ag 4 I (J2 ?_))))))
      refine J4 I (fun h=>?_) (fun h=>?_)
      ·refine ae (ag 8 I (J ?_))
       (refine zaa (Jm I I I) ?_;((have e:fstM s=(0,0):=(by rw[hF];apply af;clear hF;simp_all;done);rw[e];rfl)))
      ·refine ae (ag 11 I (J ?_))
       (refine zaa (Jm I I I) ?_;((have e:fstM s=(cN c0 s (n - 1),n):=(by rw[hF];apply ac;clear hF;simp_all;done);rw[e])))
    ·refine ae0 (ag 6 I (J2 ?_))
     refine Jj (α:=Nat) (fun a=>n - a) (fun a=>[(0,.str s),(5,i64 n),(6,i64 (cN c0 s (a - 1))),(7,i64 ls),(8,i64 a)]) (fun _=>[]) (fun a=>1≤a∧a≤n∧∀i,1≤i→i<a→ze6 s i) 1 ⟨by omega,by omega,fun i h1 h2=>by omega⟩ ?_ (ar _) ?_
     ·simp only[zaz]
      refine⟨I,I,I,I,I,trivial⟩
     rintro a ⟨ha1,ha2,hc⟩ ih;refine ae0 (ag 8 I (J2 ?_))
     (refine J4 I (fun h=>?_) (fun h=>?_))
     ·have h:=aj h
      have hg:=zpd (s:=s) (i:=a) (by omega);have nx:=nxt (k:=a) (n:=n) (by omega) (by unfold maxLen;omega);have hbt:(s.getD a 0).toNat=bt s a:=rfl;refine ae (ag 9 I (Jo okL (zb7 I I I I (by omega) (hg)) I (ag 2 I (J3 ?_))))
      (refine J6 I I I (fun h1=>?_) (fun h1=>?_))
      ·have h1:bt s a<128:=by simp only[hbt] at h1;have:=aj h1;omega
       have hfb:=zi4 hb (.inr (.inr ⟨a,ha1,by rw[←ha];simp only;omega,by unfold ze6;omega⟩))
       refine ab (ag 18 I (J (ax (ag 1 I (J ?_)))));refine hR _ _ _ (by intro h;cases h) ?_;refine zaa (Jm I I I) ?_;rw[hfb];rfl
      ·have h1:¬bt s a<128:=by simp only[hbt] at h1;have:=ao h1;omega
       refine ab (ag 2 I (bY okL I I (zb7 I I I I (by omega) (hg)) I (ag 4 I (J2 ?_))))
       (refine J4 I (fun h2=>?_) (fun h2=>?_))
       ·have h2:¬bt s a<192:=by simp only[hbt] at h2;have:=aj h2;omega
        have hfb:=zi4 hb (.inr (.inr ⟨a,ha1,by rw[←ha];simp only;omega,by unfold ze6;omega⟩))
        refine ae (ag 10 I (J (ax (ag 1 I (J ?_)))));refine hR _ _ _ (by intro h;cases h) ?_;refine zaa (Jm I I I) ?_;rw[hfb];rfl
       ·have h2:bt s a<192:=by simp only[hbt] at h2;have:=ao h2;omega
        have hcl:=zsd hle.1 s (a - 1) (by omega);have hpw:256^(a - 1)≤256^3:=da (by omega) (by omega);have e:IntKind.i64.wrap (IntKind.i64.wrap (IntKind.i64.wrap ((cN c0 s (a - 1):Int)*64)+IntKind.i64.wrap (((s.getD a 0).toNat:Nat):Int)) - 128)=((cN c0 s (a+1 - 1):Nat):Int):=by
         have:cN c0 s (a+1 - 1)=cN c0 s (a - 1)*64+(bt s a - 128):=by
          obtain⟨k,rfl⟩:∃k,a=k+1:=⟨a - 1,by omega⟩
          rfl
         have hbl:=zfI s a;have hc2:cN c0 s (a - 1)≤536870912:=by
          have:256^3=16777216:=rfl;omega
         rw[this,hbt,zap (n:=(cN c0 s (a - 1):Int)*64) ⟨by omega,by omega⟩,zap (n:=((bt s a:Nat):Int)) ⟨by omega,by omega⟩,zap (n:=(cN c0 s (a - 1):Int)*64+(bt s a:Nat)) ⟨by omega,by omega⟩,zap ⟨by omega,by omega⟩]
         omega
        refine ae (ag 7 I (Jo okL (zb7 I I I I (by omega) (hg)) I (ag 12 I (J (zae ?_)))))
        (refine aq 0 (ih (a+1) (⟨by omega,by omega,fun i h1 h2=>by rcases Nat.lt_or_eq_of_le (Nat.lt_succ_iff.1 h2) with h|h;exact hc i h1 h;subst h;unfold ze6;omega⟩) (by omega)) ?_ I;exact⟨I,I,ai (fun v=>some (A.int .i64 v)) (by exact e),I,ai some nx,trivial⟩)
     ·have h:=ao h
      have:a=n:=by omega
      subst this;refine ae (ag 2 I (J (ax (ag 1 I (J ?_)))));refine K () hc 0 _ _ ⟨I,I,I,I,trivial⟩ I
   ·have hfb:=fun h=>zi4 (s:=s) hb h
    rw[←ha] at hfb;simp only at hfb;refine ae0 (ag 5 I (J3 ?_));refine J6 I I I (fun h=>?_) (fun h=>?_)
    ·refine ab (ag 15 I (J ?_))
     (refine hR _ _ _ (by intro h;cases h) ?_;refine zaa (Jm I I I) ?_;rw[hfb (by(left;simp_all;done))];rfl)
    ·refine ab (ag 7 I (J2 ?_))
     refine J4 I (fun h=>?_) (fun h=>?_)
     ·refine ae (ag 7 I (J ?_))
      (refine hR _ _ _ (by intro h;cases h) ?_;refine zaa (Jm I I I) ?_;rw[hfb (by(right;left;simp_all;done))];rfl)
     ·refine ae (ag 1 I (J ?_))
      (refine K () ?_ 0 _ _ ⟨I,I,I,I,trivial⟩ I;clear K hR;simp_all;try omega)
  ·refine ae0 (ag 8 I (J2 ?_))
   (refine J4 I (fun h1=>?_) (fun h1=>?_))
   ·have h1:bt s 0<128:=by have:=aj h1;omega
    have hf:=zsF hne h1;refine ae (ag 9 I (J ?_));refine hR _ _ _ (by intro h;cases h) ?_;refine zaa (Jm I I I) ?_;rw[hf];rfl
   ·have h1:¬bt s 0<128:=by have:=ao h1;omega
    have hle:=zfI s 0;refine ae (ag 5 I (J3 ?_));refine J6 I I I (fun h=>?_) (fun h=>?_)
    ·refine ab (ag 6 I (J2 ?_))
     refine J4 I (fun h=>?_) (fun h=>?_)
     ·refine ae (ag 8 I (J ?_))
      (refine K (zaL (bt s 0)) ⟨by omega,I⟩ 0 _ _ ?_ I;clear K hR;(((have e:zaL (bt s 0)=(2,bt s 0 - 192,128):=(by simp only[aL,aV] at*;unfold zaL;rw[af (by omega)]));rw[e];refine⟨I,I,ai (fun v=>some (A.int .i64 v)) ?_,I,trivial⟩;simp only[aL,aV] at*;rw[zap ⟨by omega,by omega⟩];omega)))
     ·refine ae (ag 5 I (J3 ?_))
      refine J6 I I I (fun h=>?_) (fun h=>?_)
      ·refine ab (ag 6 I (J2 ?_))
       refine J4 I (fun h=>?_) (fun h=>?_)
       ·refine ae (ag 8 I (J ?_))
        (refine K (zaL (bt s 0)) ⟨by omega,I⟩ 0 _ _ ?_ I;clear K hR;(((have e:zaL (bt s 0)=(3,bt s 0 - 224,2048):=(by simp only[aL,aV] at*;unfold zaL;rw[ac (by omega),af (by omega)]));rw[e];refine⟨I,I,ai (fun v=>some (A.int .i64 v)) ?_,I,trivial⟩;simp only[aL,aV] at*;rw[zap ⟨by omega,by omega⟩];omega)))
       ·refine ae (ag 5 I (J3 ?_))
        refine J6 I I I (fun h=>?_) (fun h=>?_)
        ·refine ab (ag 6 I (J2 ?_))
         refine J4 I (fun h=>?_) (fun h=>?_)
         ·refine ae (ag 8 I (J ?_))
          (refine K (zaL (bt s 0)) ⟨by omega,I⟩ 0 _ _ ?_ I;clear K hR;(((have e:zaL (bt s 0)=(4,bt s 0 - 240,65536):=(by simp only[aL,aV] at*;unfold zaL;rw[ac (by omega),ac (by omega),af (by omega)]));rw[e];refine⟨I,I,ai (fun v=>some (A.int .i64 v)) ?_,I,trivial⟩;simp only[aL,aV] at*;rw[zap ⟨by omega,by omega⟩];omega)))
         ·refine ae (ag 2 I (J ?_))
          (refine K (zaL (bt s 0)) ⟨by omega,I⟩ 0 _ _ ?_ I;clear K hR;(((have e:zaL (bt s 0)=(0,0,0):=(by simp only[aL,aV] at*;unfold zaL;rw[ac (by omega),ac (by omega),ac (by omega)]));rw[e];exact⟨I,I,I,I,trivial⟩)))
        ·refine ab (ag 9 I (J ?_))
         (refine K (zaL (bt s 0)) ⟨by omega,I⟩ 0 _ _ ?_ I;clear K hR;(((have e:zaL (bt s 0)=(0,0,0):=(by simp only[aL,aV] at*;unfold zaL;rw[ac (by omega),ac (by omega),ac (by omega)]));rw[e];exact⟨I,I,I,I,trivial⟩)))
      ·refine ab (ag 12 I (J3 ?_))
       refine J6 I I I (fun h=>?_) (fun h=>?_)
       ·refine ab (ag 6 I (J2 ?_))
        refine J4 I (fun h=>?_) (fun h=>?_)
        ·refine ae (ag 8 I (J ?_))
         (refine K (zaL (bt s 0)) ⟨by omega,I⟩ 0 _ _ ?_ I;clear K hR;(((have e:zaL (bt s 0)=(4,bt s 0 - 240,65536):=(by simp only[aL,aV] at*;unfold zaL;rw[ac (by omega),ac (by omega),af (by omega)]));rw[e];refine⟨I,I,ai (fun v=>some (A.int .i64 v)) ?_,I,trivial⟩;simp only[aL,aV] at*;rw[zap ⟨by omega,by omega⟩];omega)))
        ·refine ae (ag 2 I (J ?_))
         (refine K (zaL (bt s 0)) ⟨by omega,I⟩ 0 _ _ ?_ I;clear K hR;(((have e:zaL (bt s 0)=(0,0,0):=(by simp only[aL,aV] at*;unfold zaL;rw[ac (by omega),ac (by omega),ac (by omega)]));rw[e];exact⟨I,I,I,I,trivial⟩)))
       ·refine ab (ag 9 I (J ?_))
        (refine K (zaL (bt s 0)) ⟨by omega,I⟩ 0 _ _ ?_ I;clear K hR;(((have e:zaL (bt s 0)=(0,0,0):=(by simp only[aL,aV] at*;unfold zaL;rw[ac (by omega),ac (by omega),ac (by omega)]));rw[e];exact⟨I,I,I,I,trivial⟩)))
    ·refine ab (ag 12 I (J3 ?_))
     refine J6 I I I (fun h=>?_) (fun h=>?_)
     ·refine ab (ag 6 I (J2 ?_))
      refine J4 I (fun h=>?_) (fun h=>?_)
      ·refine ae (ag 8 I (J ?_))
       (refine K (zaL (bt s 0)) ⟨by omega,I⟩ 0 _ _ ?_ I;clear K hR;(((have e:zaL (bt s 0)=(3,bt s 0 - 224,2048):=(by simp only[aL,aV] at*;unfold zaL;rw[ac (by omega),af (by omega)]));rw[e];refine⟨I,I,ai (fun v=>some (A.int .i64 v)) ?_,I,trivial⟩;simp only[aL,aV] at*;rw[zap ⟨by omega,by omega⟩];omega)))
      ·refine ae (ag 5 I (J3 ?_))
       refine J6 I I I (fun h=>?_) (fun h=>?_)
       ·refine ab (ag 6 I (J2 ?_))
        refine J4 I (fun h=>?_) (fun h=>?_)
        ·refine ae (ag 8 I (J ?_))
         (refine K (zaL (bt s 0)) ⟨by omega,I⟩ 0 _ _ ?_ I;clear K hR;(((have e:zaL (bt s 0)=(4,bt s 0 - 240,65536):=(by simp only[aL,aV] at*;unfold zaL;rw[ac (by omega),ac (by omega),af (by omega)]));rw[e];refine⟨I,I,ai (fun v=>some (A.int .i64 v)) ?_,I,trivial⟩;simp only[aL,aV] at*;rw[zap ⟨by omega,by omega⟩];omega)))
        ·refine ae (ag 2 I (J ?_))
         (refine K (zaL (bt s 0)) ⟨by omega,I⟩ 0 _ _ ?_ I;clear K hR;(((have e:zaL (bt s 0)=(0,0,0):=(by simp only[aL,aV] at*;unfold zaL;rw[ac (by omega),ac (by omega),ac (by omega)]));rw[e];exact⟨I,I,I,I,trivial⟩)))
       ·refine ab (ag 9 I (J ?_))
        (refine K (zaL (bt s 0)) ⟨by omega,I⟩ 0 _ _ ?_ I;clear K hR;(((have e:zaL (bt s 0)=(0,0,0):=(by simp only[aL,aV] at*;unfold zaL;rw[ac (by omega),ac (by omega),ac (by omega)]));rw[e];exact⟨I,I,I,I,trivial⟩)))
     ·refine ab (ag 12 I (J3 ?_))
      refine J6 I I I (fun h=>?_) (fun h=>?_)
      ·refine ab (ag 6 I (J2 ?_))
       refine J4 I (fun h=>?_) (fun h=>?_)
       ·refine ae (ag 8 I (J ?_))
        (refine K (zaL (bt s 0)) ⟨by omega,I⟩ 0 _ _ ?_ I;clear K hR;(((have e:zaL (bt s 0)=(4,bt s 0 - 240,65536):=(by simp only[aL,aV] at*;unfold zaL;rw[ac (by omega),ac (by omega),af (by omega)]));rw[e];refine⟨I,I,ai (fun v=>some (A.int .i64 v)) ?_,I,trivial⟩;simp only[aL,aV] at*;rw[zap ⟨by omega,by omega⟩];omega)))
       ·refine ae (ag 2 I (J ?_))
        (refine K (zaL (bt s 0)) ⟨by omega,I⟩ 0 _ _ ?_ I;clear K hR;(((have e:zaL (bt s 0)=(0,0,0):=(by simp only[aL,aV] at*;unfold zaL;rw[ac (by omega),ac (by omega),ac (by omega)]));rw[e];exact⟨I,I,I,I,trivial⟩)))
      ·refine ab (ag 9 I (J ?_))
       (refine K (zaL (bt s 0)) ⟨by omega,I⟩ 0 _ _ ?_ I;clear K hR;(((have e:zaL (bt s 0)=(0,0,0):=(by simp only[aL,aV] at*;unfold zaL;rw[ac (by omega),ac (by omega),ac (by omega)]));rw[e];exact⟨I,I,I,I,trivial⟩)))
theorem zkj{s:List UInt8}(h:s≠[])(hb:badC s=true):fstM s=(0,0):=by unfold fstM;rw[ac h,af hb]
theorem zpg{s:List UInt8}(h:s≠[])(hb:badC s=false):fstM s=dec s:=by unfold fstM;rw[ac h,hb];rfl
theorem zbQ{s:List UInt8}{p:Nat}(h:p<s.length):s.drop p≠[]:=by
 intro e;have:=ai List.length e;simp at this;omega
theorem zgG(s:List UInt8)(p:Nat):(s.drop ((p:Nat):Int).toNat).take (((s.length:Nat):Int).toNat - ((p:Nat):Int).toNat)=s.drop p:=by
 simp only[cT];exact bF (by simp)
theorem zpw(s:List UInt8){p:Nat}(h:p<s.length)(hb:badC (s.drop p)=false):p+vld (s.drop p)=(p+(dec (s.drop p)).2)+vld (s.drop (p+(dec (s.drop p)).2)):=by
 rw[zgJ (zbQ h) hb,List.drop_drop];omega
theorem zjn(s:List UInt8):PTr Tryz.prog 132 [.str s] (.tup [i64 (vld s),.bool (okS s)]):=by
 refine aC (N:=25) Tryz.func132 I I I ?_;refine Jv (t:=0) I (za1.str _) fun hlen=>?_;refine ae0 (ag 13 I (J2 ?_));refine Jj (α:=Nat) (fun a=>s.length - a) (fun a=>[(0,.str s),(4,i64 a)]) (fun _=>[]) (fun a=>a≤s.length∧a+vld (s.drop a)=vld s) 0 ⟨aM _,by simp⟩ ?_ (ar _) ?_
 ·simp only[zaz]
  refine⟨I,I,trivial⟩
 rintro p ⟨hp,hv⟩ ih;refine ae0 (ag 9 I (J2 ?_))
 (refine J4 I (fun h=>?_) (fun h=>?_))
 ·have h:=aj h
  have hl:p<s.length:=by omega
  have hc:=zgG s p;have hw:=zf4 (zbQ hl);simp only[ba] at hw;refine ae (ag 7 I (Jo okL (zfl I I I I I (by omega) (by omega) (am _)) I (O (J9 I I I (first_tr _) (ab (ag 14 I (J2 ?_)))))));rw[hc];refine ae (J2 ?_)
  by_cases hb:badC (s.drop p)=true
  ·rw[zkj (zbQ hl) hb]
   rw[zjp (zbQ hl) hb] at hv;have:okS s=false:=by simp only[okS,aV];omega
   refine ae (ag 11 I (J (ax (ag 2 I (J ?_)))))
   (skip)
   refine zaa (Jm I I I) ?_;rw[this,←hv];rfl
  ·have hb:badC (s.drop p)=false:=by simpa using hb
   rw[zpg (zbQ hl) hb];rw[zpw s hl hb] at hv;have e:IntKind.i64.wrap ((p:Int)+((dec (s.drop p)).2:Nat))=((p+(dec (s.drop p)).2:Nat):Int):=by rw[zap ⟨by omega,by unfold maxLen at hlen;omega⟩];omega
   refine ae (J2 ?_)
   (refine J4 I (fun h2=>?_) (fun h2=>?_))
   ·exfalso
    have:=eq_of_beq h2;omega
   ·refine ae (ag 9 I (J (zae ?_)))
    (refine aq 0 (ih (p+(dec (s.drop p)).2) (⟨by omega,hv⟩) (by omega)) ?_ I;exact⟨I,ai (fun v=>some (A.int .i64 v)) (by exact e),trivial⟩)
 ·have h:=ao h
  have:p=s.length:=by omega
  subst this;rw[di,ziK] at hv;have ho:okS s=true:=by simp only[okS,aL];omega
  refine ae (ag 2 I (J (ae (ag 8 I (J ?_)))));refine zaa (Jm I I I) ?_;rw[ho,←hv];rfl
end Go.Proofs.YtpopmiodjibljaaGreatDoor

