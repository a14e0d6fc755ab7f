/- A part of the proof: a layer of abstract values over the kit's walks, an evaluator over it, and walks of functions. -/
import Derived.Test.YtdeenhdmmeahgaaGreatDoorPtE
set_option linter.unusedVariables false
set_option linter.unusedSimpArgs false
namespace Go.Proofs.YtdeenhdmmeahgaaGreatDoor
open Go Go.Abs
theorem hext : ExtOk Tryz.prog (extC [196] [155]) := extC_ok (fun f hf => by
    obtain rfl := List.mem_singleton.1 hf
    exact ⟨Tryz.f196, by kernel_rfl, by kernel_rfl, by kernel_rfl, by kernel_rfl, by kernel_rfl⟩) (fun f hf => by
    obtain rfl := List.mem_singleton.1 hf
    exact ⟨Tryz.f155, by kernel_rfl, by kernel_rfl, by kernel_rfl, by kernel_rfl, by kernel_rfl⟩)
noncomputable def info22 : TypeInfo := (Tryz.prog.info? 22).getD default
noncomputable def info57 : TypeInfo := (Tryz.prog.info? 57).getD default
theorem i22 : Tryz.prog.info? 22 = some info22 := by kernel_rfl
theorem i57 : Tryz.prog.info? 57 = some info57 := by kernel_rfl
noncomputable def sortS : SortS Tryz.prog L 22 57 7 199 200 201 212 213 220 where
  i := info22
  ie := info57
  ei := (lay L 57).getD ⟨.bool, 0, 0, []⟩
  ke := 25
  hg := by kernel_rfl
  hi := i22
  hd := by kernel_rfl
  hpk := by kernel_rfl
  hie := i57
  hke := fun w => by kernel_rfl
  hk9 := fun n hn => by
    have h1 : info57.hasPointers = false := by kernel_rfl
    have h2 : info57.bytes = 16 := by kernel_rfl
    unfold Lib.swapperK
    rw [h1, h2]
    have e0 : (n == 0) = false := by simp; omega
    have e1 : (n == 1) = false := by simp; omega
    rw [e0, e1]
    rfl
  hei := by kernel_rfl
  hagg := by kernel_rfl
  f1 := by kernel_rfl
  f2 := by kernel_rfl
  f9 := by kernel_rfl
  xv := ⟨Tryz.f199, by kernel_rfl, by kernel_rfl, by kernel_rfl, by kernel_rfl, by kernel_rfl⟩
  xs := ⟨Tryz.f200, by kernel_rfl, by kernel_rfl, by kernel_rfl, by kernel_rfl, by kernel_rfl⟩
  xl := ⟨Tryz.f201, by kernel_rfl, by kernel_rfl, by kernel_rfl, by kernel_rfl, by kernel_rfl⟩
  x9 := ⟨Tryz.f220, by kernel_rfl, by kernel_rfl, by kernel_rfl, by kernel_rfl, by kernel_rfl⟩
end Go.Proofs.YtdeenhdmmeahgaaGreatDoor

namespace Go.Proofs.YtdeenhdmmeahgaaGreatDoor
open Go Go.Abs
theorem known12_true : PTr Tryz.prog 13 [] (.bool true) := PTr.runF (fuel := 1000) okL hmix hext (extS_ok okL sortS) 100 rfl (by kernel_rfl)
end Go.Proofs.YtdeenhdmmeahgaaGreatDoor

