/- A part of the proof: a layer of abstract values over the kit's walks, an evaluator over it, and walks of functions. -/
import Derived.Test.YtpopmiodjibljaaGreatDoorBlfP
set_option linter.unusedVariables false
set_option linter.unusedSimpArgs false
set_option maxRecDepth 100000

namespace Go.Proofs.YtpopmiodjibljaaGreatDoor
open Go Go.Abs Go.ChangeShapes Go.WideShapes Go.ChangeAt Go.RowKit
namespace BackLeftmost
theorem saidUpto:Rows.BackLeftmostUptoSaid:=
 OpenClaim.holds_of_cond 8 Tryz.f8 I I I I I I I ⟨rfl,rfl,rfl,rfl,rfl⟩ rfl I I I I (by kernel_rfl) Tryz.func8 zrF
  (of_decide_eq_true (by kernel_rfl)) (by unfold Func.isWrapper;first|(rw [if_pos (by decide+kernel)];kernel_rfl)|(rw [if_neg (by decide+kernel)];exact ⟨rfl,rfl⟩))
  (fun os started H enc _ F=>by rw [OpenClaim.pre_eq_preRow];exact lifted os started H enc F)
end BackLeftmost
end Go.Proofs.YtpopmiodjibljaaGreatDoor

