/- A part of the proof. -/
import Derived.Test.YtpopmiodjibljaaGreatDoorBwyL
import Derived.Test.YtpopmiodjibljaaGreatDoorBwyP
set_option linter.unusedVariables false
set_option linter.unusedSimpArgs false
set_option maxRecDepth 100000

namespace Go.Proofs.YtpopmiodjibljaaGreatDoor
open Go Go.Abs Go.ChangeShapes Go.WideShapes Go.ChangeAt Go.RowKit
namespace BackWays
theorem saidUpto:Rows.BackWaysUptoSaid:=
 OpenClaim.holds_of_cond 9 Tryz.f9 I I I I I I I ⟨I,I,I,I,I⟩ I I I I I (by kernel_rfl) Tryz.func9 zsi
  (aj (by kernel_rfl)) (by unfold Func.isWrapper;first|(rw[af (by decide+kernel)];kernel_rfl)|(rw[ac (by decide+kernel)];exact⟨I,I⟩))
  (fun os started H enc _ F=>by rw[OpenClaim.pre_eq_preRow];exact lifted os started H enc F)
end BackWays
end Go.Proofs.YtpopmiodjibljaaGreatDoor

