/- A part of the proof: a layer of abstract values over the kit's walks, an evaluator over it, and walks of functions. -/
import Derived.Test.YtpopmiodjibljaaGreatDoorBpsQ
set_option linter.unusedVariables false
set_option linter.unusedSimpArgs false
set_option maxRecDepth 100000

namespace Go.Proofs.YtpopmiodjibljaaGreatDoor
open Go Go.Abs Go.ChangeShapes Go.WideShapes Go.ChangeAt Go.RowKit
set_option maxRecDepth 100000
namespace BackPossessive
theorem saidUpto : Rows.BackPossessiveUptoSaid :=
 OpenClaim.holds_of_cond 6 Tryz.f6 I I I I I I I ⟨rfl, rfl, rfl, rfl, rfl⟩ rfl I I I I (by kernel_rfl) Tryz.func6 zq2
  (of_decide_eq_true (by kernel_rfl)) (by unfold Func.isWrapper; first | (rw [if_pos (by decide +kernel)]; kernel_rfl) | (rw [if_neg (by decide +kernel)]; exact ⟨rfl, rfl⟩))
  (fun os started H enc _ F => by rw [OpenClaim.pre_eq_preRow]; exact lifted os started H enc F)
end BackPossessive
end Go.Proofs.YtpopmiodjibljaaGreatDoor

