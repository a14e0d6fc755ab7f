/- A part of the proof: a layer of abstract values over the kit's walks, an evaluator over it, and walks of functions. -/
import Derived.Test.YtpopmiodjibljaaGreatDoorBlfE
set_option linter.unusedVariables false
set_option linter.unusedSimpArgs false
set_option maxRecDepth 100000

namespace Go.Proofs.YtpopmiodjibljaaGreatDoor
open Go Go.Abs
noncomputable def zpm:TypeInfo:=(Tryz.prog.info? 22).getD default
noncomputable def zjW:TypeInfo:=(Tryz.prog.info? 166).getD default
theorem iSl:Tryz.prog.info? 22=some zpm:=by kernel_rfl
theorem iSp:Tryz.prog.info? 166=some zjW:=by kernel_rfl
noncomputable def zq8:SortS Tryz.prog L 22 166 7 217 218 219 261 262 269 where
 i:=zpm
 ie:=zjW
 ei:=(lay L 166).getD ⟨.bool,0,0,[]⟩
 ke:=25
 hg:=by kernel_rfl
 hi:=iSl
 hd:=by kernel_rfl
 hpk:=by kernel_rfl
 hie:=iSp
 hke:=fun w=>by kernel_rfl
 hk9:=fun n hn=>by
  have h1:zjW.hasPointers=false:=by kernel_rfl
  have h2:zjW.bytes=16:=by kernel_rfl
  unfold Lib.swapperK;rw [h1,h2];have e0:(n==0)=false:=by simp;omega
  have e1:(n==1)=false:=by simp;omega
  rw [e0,e1];rfl
 hei:=by kernel_rfl
 hagg:=by kernel_rfl
 f1:=by kernel_rfl
 f2:=by kernel_rfl
 f9:=by kernel_rfl
 xv:=⟨Tryz.f217,by kernel_rfl,by kernel_rfl,by kernel_rfl,by kernel_rfl,by kernel_rfl⟩
 xs:=⟨Tryz.f218,by kernel_rfl,by kernel_rfl,by kernel_rfl,by kernel_rfl,by kernel_rfl⟩
 xl:=⟨Tryz.f219,by kernel_rfl,by kernel_rfl,by kernel_rfl,by kernel_rfl,by kernel_rfl⟩
 x9:=⟨Tryz.f269,by kernel_rfl,by kernel_rfl,by kernel_rfl,by kernel_rfl,by kernel_rfl⟩
end Go.Proofs.YtpopmiodjibljaaGreatDoor

