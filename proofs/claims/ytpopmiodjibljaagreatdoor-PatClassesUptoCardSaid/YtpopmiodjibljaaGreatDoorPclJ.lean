/- A part of the proof: a layer of abstract values over the kit's walks, an evaluator over it, and walks of functions. -/
import Derived.Test.YtpopmiodjibljaaGreatDoorPclI
set_option linter.unusedVariables false
set_option linter.unusedSimpArgs false

namespace Go.Proofs.YtpopmiodjibljaaGreatDoor
open Go Go.Abs Go.ChangeShapes Go.WideShapes Go.ChangeAt Go.RowKit
set_option linter.unusedVariables false
set_option maxRecDepth 100000
set_option linter.unusedSimpArgs false
namespace PatClasses
theorem contract (H : Type) (enc : TypeId × Value → H) (W : World) (base : Nat) (args : Array Value) (ds gs : List (DataW H)) (before : List MemPlace) (hval : ∀ (j : Nat) t v, Tryz.f3.params[j]? = some t → args[j]? = some v → Value.okWide Tryz.prog W .any base t v)
    (hW : DataW.Whole enc Tryz.prog Tryz.f3.params.toList Rows.patClassesSpec.vars false W args.toList ds gs before) (hk : Rows.uptoSmall H (ds ++ gs) = true) :
    Calls Tryz.prog 3 args W fun e W' => ∃ v, e = .returned v ∧ Rows.patClassesSpec.post enc Tryz.prog Tryz.f3 false true false false W args v W' := by
  have hW' := hW
  obtain ⟨p, q, hA0, hV, rfl, hfz, hnd⟩ := hW
  have hA : DataW.TrodAll enc Tryz.prog W 0 (fun _ => true) true Tryz.f3.params.toList args.toList ds p := hA0
  rw [Tryz.params3] at hA
  obtain ⟨v0, vs0, d0, ds0, p0, q0, hargs, rfl, rfl, h0, r0⟩ := trodAll_cons hA
  obtain ⟨v1, vs1, d1, ds1, p1, q1, rfl, rfl, rfl, h1, r1⟩ := trodAll_cons r0
  obtain ⟨v2, vs2, d2, ds2, p2, q2, rfl, rfl, rfl, h2, r2⟩ := trodAll_cons r1
  obtain ⟨rfl, rfl, rfl⟩ := trodAll_nil r2
  obtain rfl : args = #[v0, v1, v2] := by cases args; simp_all
  obtain ⟨rfl, rfl⟩ := trodVars_none hV
  have hkk := of_decide_eq_true hk
  simp only [List.append_nil, Rows.uptoBulkAll] at hkk
  have k0 := h0
  have lt0 : ∀ x ∈ p0, x.block < W.heap.size := by obtain ⟨m, hm⟩ := k0; exact DataW.trod_lt m _ _ _ hm
  have k1 := h1
  have lt1 : ∀ x ∈ p1, x.block < W.heap.size := by obtain ⟨m, hm⟩ := k1; exact DataW.trod_lt m _ _ _ hm
  have k2 := h2
  have lt2 : ∀ x ∈ p2, x.block < W.heap.size := by obtain ⟨m, hm⟩ := k2; exact DataW.trod_lt m _ _ _ hm
  obtain ⟨m0, hm0⟩ := h0
  obtain ⟨x0, hx0, hx70, hxb0⟩ := pat_read (o := own (fun _ => False) []) no_own m0 m0 (Nat.le_refl _) hm0
  rw [Pat.cells_eq] at hx0 hx70
  have hv0 : v0 = .agg v0.cells.toList.toArray := agg_of_cells rfl (by rw [hx0.length]; exact hx70)
  have hr0 : Rep W (own (fun _ => False) []) (.agg x0.C) v0 := by rw [hv0]; exact Rep.agg_of hx0
  have hb0 : nodesN x0 ≤ 1000000 := by omega
  obtain ⟨m1, hm1⟩ := h1
  obtain ⟨x1, hx1⟩ := int_read (o := own (fun _ => False) []) (show Tryz.prog.underlying 3 = some (.int .i64) by kernel_rfl) hm1
  have hr1 : Rep W (own (fun _ => False) []) (i64 x1) v1 := int_val (show Tryz.prog.underlying 3 = some (.int .i64) by kernel_rfl) (hval 1 3 v1 (by rw [Tryz.params3]; rfl) rfl) hx1
  obtain ⟨m2, hm2⟩ := h2
  obtain ⟨x2, hx2⟩ := string_read (o := own (fun _ => False) []) (show Tryz.prog.underlying 9 = some .string by kernel_rfl) hm2
  have hr2 : Rep W (own (fun _ => False) []) (.str x2) v2 := string_val (show Tryz.prog.underlying 9 = some .string by kernel_rfl) (hval 2 9 v2 (by rw [Tryz.params3]; rfl) rfl) hx2
  have hlaw := PTr.calls (patClasses_law x0 hb0 x1 x2) (W := W) (vs := [v0, v1, v2]) (.cons hr0 (.cons hr1 (.cons hr2 .nil)))
  refine hlaw.mono fun e W' ⟨he, bel⟩ => ?_
  subst he
  exact ⟨_, rfl, _, _, _, [], _, [], hW', trodAll_mk1 (shut_bool Tryz.underlying4 _), (trodAll_cons_mk (Below.trod laidOut (by kernel_rfl) (of_decide_eq_true (by kernel_rfl)) k0 bel lt0) (trodAll_cons_mk (Below.trod laidOut (by kernel_rfl) (of_decide_eq_true (by kernel_rfl)) k1 bel lt1) (trodAll_cons_mk (Below.trod laidOut (by kernel_rfl) (of_decide_eq_true (by kernel_rfl)) k2 bel lt2) trodAll_mk0))), rfl, bel.frame _, fun h => by cases h⟩
end PatClasses
end Go.Proofs.YtpopmiodjibljaaGreatDoor

