/- A part of the proof. -/
import Derived.Test.YtpopmiodjibljaaGreatDoorBcdP
set_option linter.unusedVariables false
set_option linter.unusedSimpArgs false
set_option maxRecDepth 100000

namespace Go.Proofs.YtpopmiodjibljaaGreatDoor
open Go Go.Abs Go.ChangeShapes Go.WideShapes Go.ChangeAt Go.RowKit
namespace BackCodes
theorem saidUpto:Rows.BackCodesUptoSaid:=
 OpenClaim.holds_of_cond 7 Tryz.f7 I I I I I I I ⟨I,I,I,I,I⟩ I I I I I (by kernel_rfl) Tryz.func7 zr6
  (ak (by kernel_rfl)) (by unfold Func.isWrapper;first|(rw[af (by decide+kernel)];kernel_rfl)|(rw[ac (by decide+kernel)];exact⟨I,I⟩))
  (fun os started H enc _ F=>by rw[OpenClaim.pre_eq_preRow];exact lifted os started H enc F)
end BackCodes
end Go.Proofs.YtpopmiodjibljaaGreatDoor

