/- A part of the proof: a layer of abstract values over the kit's walks, an evaluator over it, and walks of functions. -/
import Derived.Test.YtdeenhdmmeahgaaGreatDoorPnE
set_option linter.unusedVariables false
set_option linter.unusedSimpArgs false
namespace Go.Proofs.YtdeenhdmmeahgaaGreatDoor
open Go Go.Abs
set_option maxRecDepth 100000
set_option maxHeartbeats 8000000 in
theorem refNode_tr (fx : Pat → Bool) (hF : ∀ y, Sh y → PTr Tryz.prog 77 [.agg y.C] (.bool (fx y))) (x : Pat) : ∀ (g : Int) (k : Bool), PTr Tryz.prog 51 [.agg x.C, i64 g, .bool k] (.bool (nodeV fx x g k)) := by
  induction x using Pat.ind with | h x IH => _
  intro g kk
  refine PTr.of_body (N := 180) Tryz.func51 rfl rfl rfl ?_
  refine AWp.know (t := 0) rfl (Known.agg mem_C (Known.ds _)) fun hlen => ?_
  rw [List.length_map] at hlen
  refine AWp.seq ?_
  refine AWp.region ?_
  refine AOps.pln ?_; refine AOp.box rfl rfl (isVal_or rfl) rfl rfl ?_; intro _ _
  refine AOps.sim okL rfl rfl ?_
  refine AOps.nil ?_
  refine AWp.seq ?_
  refine AWp.region ?_
  refine AOps.sim okL rfl rfl ?_
  refine AOps.pln ?_; refine AOp.load okL rfl (.head _) rfl rfl rfl rfl ?_
  refine AOps.pln ?_; focus (refine AOp.callP (v := ?_) rfl rfl rfl ?_ ?_; rotate_left; exact (parts_tr _))
  refine AOps.sim okL rfl rfl ?_
  refine AOps.sim okL rfl rfl ?_
  refine AOps.sim okL rfl rfl ?_
  refine AOps.sim okL rfl rfl ?_
  refine AOps.sim okL rfl rfl ?_
  refine AOps.nil ?_
  refine AWp.seq ?_
  rename_i r _
  refine AWp.join (α := Unit) (fun _ => [(1, i64 g), (2, .bool kk), (3, .ptr r 7 0 0)]) (fun _ => [(r, .row 25 7 [x.C])]) (fun _ => nodeA x g = true) ?_ fun R K hR => ?_
  · rintro _ hA
    refine AWp.seq ?_
    refine AWp.join (α := Unit) (fun _ => [(1, i64 g), (2, .bool kk), (3, .ptr r 7 0 0)]) (fun _ => [(r, .row 25 7 [x.C])]) (fun _ => nodeB x kk = true) ?_ fun R K hR => ?_
    · rintro _ hB
      have hVV : nodeV fx x g kk = (nodeL fx x.op x.l g (kk || (x.op == 9)) && nodeE fx x) := by rw [nodeV_eq, hA, hB]; rfl
      refine AWp.seq ?_
      refine AWp.seq ?_
      refine AWp.region ?_
      refine AOps.sim okL rfl rfl ?_
      refine AOps.nil ?_
      refine AWp.block ?_
      refine AWp.loopM (α := Nat) (fun a => x.l.length - a) (fun a => [(1, i64 g), (2, .bool kk), (3, .ptr r 7 0 0), (9, i64 a)]) (fun _ => [(r, .row 25 7 [x.C])])
        (fun a => a ≤ x.l.length ∧ nodeL fx x.op (x.l.drop a) g (kk || (x.op == 9)) = nodeL fx x.op x.l g (kk || (x.op == 9))) 0 ⟨Nat.zero_le _, rfl⟩ ?_ (List.Perm.refl _) ?_
      · simp only [AllIn]
        refine ⟨rfl, rfl, rfl, rfl, trivial⟩
      rintro k ⟨hk, hm⟩ ih
      refine AWp.seq ?_
      refine AWp.seq ?_
      refine AWp.region ?_
      refine AOps.sim okL rfl rfl ?_
      refine AOps.sim okL rfl rfl ?_
      refine AOps.pln ?_; refine AOp.load okL rfl (.head _) rfl rfl rfl rfl ?_
      refine AOps.sim okL rfl rfl ?_
      refine AOps.sim okL rfl rfl ?_
      refine AOps.nil ?_
      refine seqQ_n ?_
      first | refine AWp.condCase rfl (fun h => ?_) (fun h => ?_) | refine AWp.cond rfl (fun h => ?_) (fun h => ?_)
      · have h := of_decide_eq_true h
        simp only [List.length_map] at h
        obtain ⟨y, hy⟩ : ∃ y, x.l[k]? = some y := ⟨x.l[k], by simp [show k < x.l.length by omega]⟩
        have nx := nxt (k := k) (n := x.l.length) (by omega) hlen
        rw [drop_get hy, nodeL] at hm
        have hc := IH y (List.mem_of_getElem? hy)
        refine AWp.skip ?_
        refine AWp.seq ?_
        refine AWp.block ?_
        refine AWp.seq ?_
        refine AWp.region ?_
        refine AOps.sim okL rfl rfl ?_
        refine AOps.pln ?_; refine AOp.load okL rfl (.head _) rfl rfl rfl rfl ?_
        refine AOps.sim okL rfl rfl ?_
        refine AOps.sim okL (sOp_idxD rfl rfl rfl rfl rfl (by omega) (getC hy) rfl) rfl ?_
        refine AOps.sim okL rfl rfl ?_
        refine AOps.pln ?_; refine AOp.alloc okL rfl rfl rfl ?_; intro _ _
        refine AOps.pln ?_; refine AOp.store okL rfl rfl rfl (isVal_or rfl) rfl rfl rfl .here rfl rfl rfl ?_
        refine AOps.nil ?_
        refine AWp.seq ?_
        refine AWp.region ?_
        refine AOps.pln ?_; refine AOp.load okL rfl (.head _) rfl rfl rfl rfl ?_
        refine AOps.sim okL rfl rfl ?_
        refine AOps.sim okL rfl rfl ?_
        refine AOps.sim okL rfl rfl ?_
        refine AOps.guardCase rfl rfl rfl (fun h => ?_) (fun h => ?_)
        · refine AOps.unw rfl rfl rfl rfl ?_
          refine AOps.unw rfl rfl rfl rfl ?_
          refine AOps.unw rfl rfl rfl rfl ?_
          refine AOps.sim okL rfl rfl ?_
          refine AOps.pln ?_; focus (refine AOp.callP (v := ?_) rfl rfl rfl ?_ ?_; rotate_left; exact (hc _ _))
          refine AOps.sim okL rfl rfl ?_
          refine AOps.sim okL rfl rfl ?_
          refine AOps.guardCase rfl rfl rfl (fun h => ?_) (fun h => ?_)
          · refine AOps.unw rfl rfl rfl rfl ?_
            refine AOps.unw rfl rfl rfl rfl ?_
            refine AOps.unw rfl rfl rfl rfl ?_
            refine AOps.unw rfl rfl rfl rfl ?_
            refine AOps.unwU rfl rfl rfl ?_
            refine AOps.unwU rfl rfl rfl ?_
            refine AOps.unwU rfl rfl rfl ?_
            refine AOps.unwU rfl rfl rfl ?_
            refine AOps.unwU rfl rfl rfl ?_
            refine AOps.unwU rfl rfl rfl ?_
            refine AOps.unwU rfl rfl rfl ?_
            refine AOps.unwU rfl rfl rfl ?_
            refine AOps.unw rfl rfl rfl rfl ?_
            refine AOps.sim okL rfl rfl ?_
            refine AOps.sim okL rfl rfl ?_
            refine AOps.unw rfl rfl rfl rfl ?_
            refine AOps.unw rfl rfl rfl rfl ?_
            refine AOps.unw rfl rfl rfl rfl ?_
            refine AOps.unw rfl rfl rfl rfl ?_
            refine AOps.unwU rfl rfl rfl ?_
            refine AOps.unwU rfl rfl rfl ?_
            refine AOps.unwU rfl rfl rfl ?_
            refine AOps.unw rfl rfl rfl rfl ?_
            refine AOps.sim okL rfl rfl ?_
            refine AOps.nil ?_
            refine AWp.condT rfl ?_
            refine AWp.seq ?_
            refine AWp.region ?_
            refine AOps.sim okL rfl rfl ?_
            refine AOps.nil ?_
            refine AWp.ret ?_
            refine blockQ_r ?_
            refine seqQ_r ?_
            refine seqQ_r ?_
            refine blockQ_r ?_
            refine seqQ_r ?_
            first | (refine bodyQ_r (by first | exact ResOk.one rfl rfl | exact ResOk.two rfl rfl rfl | exact ResOk.three rfl rfl rfl rfl | exact ResOk.none rfl) ?_; rw [hVV, ← hm]; clear ih IH hc hm hVV; simp_all [sideM]; done) | (refine AIn.nextN 1 (ih (k + 1) (⟨by omega, by rw [← hm]; clear ih IH hc hm hVV; simp_all [sideM]⟩) (by first | omega | (simp only; omega))) ?_ rfl; repeat (first | exact trivial | refine ⟨rfl, ?_⟩ | refine ⟨congrArg some nx, ?_⟩ | refine ⟨congrArg (fun v => some (A.int .i64 v)) (by skip), ?_⟩))
          · refine AOps.simW okL rfl rfl rfl rfl ?_
            refine AOps.wtd rfl rfl rfl ?_; refine AOp.load okL rfl (.tail _ (.head _)) rfl rfl rfl rfl ?_
            refine AOps.simW okL rfl rfl rfl rfl ?_
            refine AOps.simW okL rfl rfl rfl rfl ?_
            refine AOps.guardCase rfl rfl rfl (fun h => ?_) (fun h => ?_)
            · refine AOps.simW okL rfl rfl rfl rfl ?_
              refine AOps.wtd rfl rfl rfl ?_; refine AOp.load okL rfl (.head _) rfl rfl rfl rfl ?_
              refine AOps.simW okL rfl rfl rfl rfl ?_
              refine AOps.simW okL rfl rfl rfl rfl ?_
              refine AOps.guardCase rfl rfl rfl (fun h => ?_) (fun h => ?_)
              · refine AOps.unw rfl rfl rfl rfl ?_
                refine AOps.unw rfl rfl rfl rfl ?_
                refine AOps.unw rfl rfl rfl rfl ?_
                refine AOps.simW okL rfl rfl rfl rfl ?_
                refine AOps.simW okL rfl rfl rfl rfl ?_
                refine AOps.sim okL rfl rfl ?_
                refine AOps.sim okL rfl rfl ?_
                refine AOps.unw rfl rfl rfl rfl ?_
                refine AOps.unw rfl rfl rfl rfl ?_
                refine AOps.unw rfl rfl rfl rfl ?_
                refine AOps.unw rfl rfl rfl rfl ?_
                refine AOps.unwU rfl rfl rfl ?_
                refine AOps.unwU rfl rfl rfl ?_
                refine AOps.unwU rfl rfl rfl ?_
                refine AOps.unw rfl rfl rfl rfl ?_
                refine AOps.sim okL rfl rfl ?_
                refine AOps.nil ?_
                refine AWp.condT rfl ?_
                refine AWp.seq ?_
                refine AWp.region ?_
                refine AOps.sim okL rfl rfl ?_
                refine AOps.nil ?_
                refine AWp.ret ?_
                refine blockQ_r ?_
                refine seqQ_r ?_
                refine seqQ_r ?_
                refine blockQ_r ?_
                refine seqQ_r ?_
                first | (refine bodyQ_r (by first | exact ResOk.one rfl rfl | exact ResOk.two rfl rfl rfl | exact ResOk.three rfl rfl rfl rfl | exact ResOk.none rfl) ?_; rw [hVV, ← hm]; clear ih IH hc hm hVV; simp_all [sideM]; done) | (refine AIn.nextN 1 (ih (k + 1) (⟨by omega, by rw [← hm]; clear ih IH hc hm hVV; simp_all [sideM]⟩) (by first | omega | (simp only; omega))) ?_ rfl; repeat (first | exact trivial | refine ⟨rfl, ?_⟩ | refine ⟨congrArg some nx, ?_⟩ | refine ⟨congrArg (fun v => some (A.int .i64 v)) (by skip), ?_⟩))
              · refine AOps.simW okL rfl rfl rfl rfl ?_
                refine AOps.wtd rfl rfl rfl ?_; refine AOp.load okL rfl (.head _) rfl rfl rfl rfl ?_
                refine AOps.simW okL rfl rfl rfl rfl ?_
                refine AOps.simW okL rfl rfl rfl rfl ?_
                refine AOps.simW okL rfl rfl rfl rfl ?_
                refine AOps.sim okL rfl rfl ?_
                refine AOps.sim okL rfl rfl ?_
                refine AOps.guardCase rfl rfl rfl (fun h => ?_) (fun h => ?_)
                · refine AOps.unw rfl rfl rfl rfl ?_
                  refine AOps.unw rfl rfl rfl rfl ?_
                  refine AOps.unw rfl rfl rfl rfl ?_
                  refine AOps.unw rfl rfl rfl rfl ?_
                  refine AOps.unwU rfl rfl rfl ?_
                  refine AOps.unwU rfl rfl rfl ?_
                  refine AOps.unwU rfl rfl rfl ?_
                  refine AOps.unw rfl rfl rfl rfl ?_
                  refine AOps.sim okL rfl rfl ?_
                  refine AOps.nil ?_
                  refine AWp.condT rfl ?_
                  refine AWp.seq ?_
                  refine AWp.region ?_
                  refine AOps.sim okL rfl rfl ?_
                  refine AOps.nil ?_
                  refine AWp.ret ?_
                  refine blockQ_r ?_
                  refine seqQ_r ?_
                  refine seqQ_r ?_
                  refine blockQ_r ?_
                  refine seqQ_r ?_
                  first | (refine bodyQ_r (by first | exact ResOk.one rfl rfl | exact ResOk.two rfl rfl rfl | exact ResOk.three rfl rfl rfl rfl | exact ResOk.none rfl) ?_; rw [hVV, ← hm]; clear ih IH hc hm hVV; simp_all [sideM]; done) | (refine AIn.nextN 1 (ih (k + 1) (⟨by omega, by rw [← hm]; clear ih IH hc hm hVV; simp_all [sideM]⟩) (by first | omega | (simp only; omega))) ?_ rfl; repeat (first | exact trivial | refine ⟨rfl, ?_⟩ | refine ⟨congrArg some nx, ?_⟩ | refine ⟨congrArg (fun v => some (A.int .i64 v)) (by skip), ?_⟩))
                · refine AOps.simW okL rfl rfl rfl rfl ?_
                  refine AOps.wtd rfl rfl rfl ?_; refine AOp.load okL rfl (.tail _ (.head _)) rfl rfl rfl rfl ?_
                  refine AOps.simW okL rfl rfl rfl rfl ?_
                  refine AOps.simW okL rfl rfl rfl rfl ?_
                  refine AOps.guardCase rfl rfl rfl (fun h => ?_) (fun h => ?_)
                  · refine AOps.simW okL rfl rfl rfl rfl ?_
                    refine AOps.wtd rfl rfl rfl ?_; refine AOp.load okL rfl (.head _) rfl rfl rfl rfl ?_
                    refine AOps.simW okL rfl rfl rfl rfl ?_
                    refine AOps.simW okL rfl rfl rfl rfl ?_
                    refine AOps.sim okL rfl rfl ?_
                    refine AOps.nil ?_
                    refine seqQ_n ?_
                    refine AWp.condCase rfl (fun h => ?_) (fun h => ?_)
                    · refine AWp.seq ?_
                      refine AWp.region ?_
                      refine AOps.sim okL rfl rfl ?_
                      refine AOps.nil ?_
                      refine AWp.ret ?_
                      refine blockQ_r ?_
                      refine seqQ_r ?_
                      refine seqQ_r ?_
                      refine blockQ_r ?_
                      refine seqQ_r ?_
                      first | (refine bodyQ_r (by first | exact ResOk.one rfl rfl | exact ResOk.two rfl rfl rfl | exact ResOk.three rfl rfl rfl rfl | exact ResOk.none rfl) ?_; rw [hVV, ← hm]; clear ih IH hc hm hVV; simp_all [sideM]; done) | (refine AIn.nextN 1 (ih (k + 1) (⟨by omega, by rw [← hm]; clear ih IH hc hm hVV; simp_all [sideM]⟩) (by first | omega | (simp only; omega))) ?_ rfl; repeat (first | exact trivial | refine ⟨rfl, ?_⟩ | refine ⟨congrArg some nx, ?_⟩ | refine ⟨congrArg (fun v => some (A.int .i64 v)) (by skip), ?_⟩))
                    · refine AWp.skip ?_
                      refine AWp.region ?_
                      refine AOps.sim okL rfl rfl ?_
                      refine AOps.sim okL rfl rfl ?_
                      refine AOps.sim okL rfl rfl ?_
                      refine AOps.nil ?_
                      refine seqQ_n ?_
                      first | (refine bodyQ_r (by first | exact ResOk.one rfl rfl | exact ResOk.two rfl rfl rfl | exact ResOk.three rfl rfl rfl rfl | exact ResOk.none rfl) ?_; rw [hVV, ← hm]; clear ih IH hc hm hVV; simp_all [sideM]; done) | (refine AIn.nextN 1 (ih (k + 1) (⟨by omega, by rw [← hm]; clear ih IH hc hm hVV; simp_all [sideM]⟩) (by first | omega | (simp only; omega))) ?_ rfl; repeat (first | exact trivial | refine ⟨rfl, ?_⟩ | refine ⟨congrArg some nx, ?_⟩ | refine ⟨congrArg (fun v => some (A.int .i64 v)) (by skip), ?_⟩))
                  · refine AOps.unw rfl rfl rfl rfl ?_
                    refine AOps.unw rfl rfl rfl rfl ?_
                    refine AOps.unw rfl rfl rfl rfl ?_
                    refine AOps.simW okL rfl rfl rfl rfl ?_
                    refine AOps.sim okL rfl rfl ?_
                    refine AOps.nil ?_
                    refine AWp.condF rfl ?_
                    refine AWp.skip ?_
                    refine AWp.region ?_
                    refine AOps.sim okL rfl rfl ?_
                    refine AOps.sim okL rfl rfl ?_
                    refine AOps.sim okL rfl rfl ?_
                    refine AOps.nil ?_
                    refine seqQ_n ?_
                    first | (refine bodyQ_r (by first | exact ResOk.one rfl rfl | exact ResOk.two rfl rfl rfl | exact ResOk.three rfl rfl rfl rfl | exact ResOk.none rfl) ?_; rw [hVV, ← hm]; clear ih IH hc hm hVV; simp_all [sideM]; done) | (refine AIn.nextN 1 (ih (k + 1) (⟨by omega, by rw [← hm]; clear ih IH hc hm hVV; simp_all [sideM]⟩) (by first | omega | (simp only; omega))) ?_ rfl; repeat (first | exact trivial | refine ⟨rfl, ?_⟩ | refine ⟨congrArg some nx, ?_⟩ | refine ⟨congrArg (fun v => some (A.int .i64 v)) (by skip), ?_⟩))
            · refine AOps.unw rfl rfl rfl rfl ?_
              refine AOps.unw rfl rfl rfl rfl ?_
              refine AOps.unw rfl rfl rfl rfl ?_
              refine AOps.unw rfl rfl rfl rfl ?_
              refine AOps.unwU rfl rfl rfl ?_
              refine AOps.unwU rfl rfl rfl ?_
              refine AOps.unwU rfl rfl rfl ?_
              refine AOps.unw rfl rfl rfl rfl ?_
              refine AOps.simW okL rfl rfl rfl rfl ?_
              refine AOps.sim okL rfl rfl ?_
              refine AOps.sim okL rfl rfl ?_
              refine AOps.simW okL rfl rfl rfl rfl ?_
              refine AOps.wtd rfl rfl rfl ?_; refine AOp.load okL rfl (.tail _ (.head _)) rfl rfl rfl rfl ?_
              refine AOps.simW okL rfl rfl rfl rfl ?_
              refine AOps.simW okL rfl rfl rfl rfl ?_
              refine AOps.guardCase rfl rfl rfl (fun h => ?_) (fun h => ?_)
              · refine AOps.simW okL rfl rfl rfl rfl ?_
                refine AOps.wtd rfl rfl rfl ?_; refine AOp.load okL rfl (.head _) rfl rfl rfl rfl ?_
                refine AOps.simW okL rfl rfl rfl rfl ?_
                refine AOps.simW okL rfl rfl rfl rfl ?_
                refine AOps.sim okL rfl rfl ?_
                refine AOps.nil ?_
                refine seqQ_n ?_
                refine AWp.condCase rfl (fun h => ?_) (fun h => ?_)
                · refine AWp.seq ?_
                  refine AWp.region ?_
                  refine AOps.sim okL rfl rfl ?_
                  refine AOps.nil ?_
                  refine AWp.ret ?_
                  refine blockQ_r ?_
                  refine seqQ_r ?_
                  refine seqQ_r ?_
                  refine blockQ_r ?_
                  refine seqQ_r ?_
                  first | (refine bodyQ_r (by first | exact ResOk.one rfl rfl | exact ResOk.two rfl rfl rfl | exact ResOk.three rfl rfl rfl rfl | exact ResOk.none rfl) ?_; rw [hVV, ← hm]; clear ih IH hc hm hVV; simp_all [sideM]; done) | (refine AIn.nextN 1 (ih (k + 1) (⟨by omega, by rw [← hm]; clear ih IH hc hm hVV; simp_all [sideM]⟩) (by first | omega | (simp only; omega))) ?_ rfl; repeat (first | exact trivial | refine ⟨rfl, ?_⟩ | refine ⟨congrArg some nx, ?_⟩ | refine ⟨congrArg (fun v => some (A.int .i64 v)) (by skip), ?_⟩))
                · refine AWp.skip ?_
                  refine AWp.region ?_
                  refine AOps.sim okL rfl rfl ?_
                  refine AOps.sim okL rfl rfl ?_
                  refine AOps.sim okL rfl rfl ?_
                  refine AOps.nil ?_
                  refine seqQ_n ?_
                  first | (refine bodyQ_r (by first | exact ResOk.one rfl rfl | exact ResOk.two rfl rfl rfl | exact ResOk.three rfl rfl rfl rfl | exact ResOk.none rfl) ?_; rw [hVV, ← hm]; clear ih IH hc hm hVV; simp_all [sideM]; done) | (refine AIn.nextN 1 (ih (k + 1) (⟨by omega, by rw [← hm]; clear ih IH hc hm hVV; simp_all [sideM]⟩) (by first | omega | (simp only; omega))) ?_ rfl; repeat (first | exact trivial | refine ⟨rfl, ?_⟩ | refine ⟨congrArg some nx, ?_⟩ | refine ⟨congrArg (fun v => some (A.int .i64 v)) (by skip), ?_⟩))
              · refine AOps.unw rfl rfl rfl rfl ?_
                refine AOps.unw rfl rfl rfl rfl ?_
                refine AOps.unw rfl rfl rfl rfl ?_
                refine AOps.simW okL rfl rfl rfl rfl ?_
                refine AOps.sim okL rfl rfl ?_
                refine AOps.nil ?_
                refine AWp.condF rfl ?_
                refine AWp.skip ?_
                refine AWp.region ?_
                refine AOps.sim okL rfl rfl ?_
                refine AOps.sim okL rfl rfl ?_
                refine AOps.sim okL rfl rfl ?_
                refine AOps.nil ?_
                refine seqQ_n ?_
                first | (refine bodyQ_r (by first | exact ResOk.one rfl rfl | exact ResOk.two rfl rfl rfl | exact ResOk.three rfl rfl rfl rfl | exact ResOk.none rfl) ?_; rw [hVV, ← hm]; clear ih IH hc hm hVV; simp_all [sideM]; done) | (refine AIn.nextN 1 (ih (k + 1) (⟨by omega, by rw [← hm]; clear ih IH hc hm hVV; simp_all [sideM]⟩) (by first | omega | (simp only; omega))) ?_ rfl; repeat (first | exact trivial | refine ⟨rfl, ?_⟩ | refine ⟨congrArg some nx, ?_⟩ | refine ⟨congrArg (fun v => some (A.int .i64 v)) (by skip), ?_⟩))
        · refine AOps.simW okL rfl rfl rfl rfl ?_
          refine AOps.wtd rfl rfl rfl ?_; refine AOp.load okL rfl (.tail _ (.head _)) rfl rfl rfl rfl ?_
          refine AOps.simW okL rfl rfl rfl rfl ?_
          refine AOps.sim okL rfl rfl ?_
          refine AOps.pln ?_; focus (refine AOp.callP (v := ?_) rfl rfl rfl ?_ ?_; rotate_left; exact (hc _ _))
          refine AOps.sim okL rfl rfl ?_
          refine AOps.sim okL rfl rfl ?_
          refine AOps.guardCase rfl rfl rfl (fun h => ?_) (fun h => ?_)
          · refine AOps.unw rfl rfl rfl rfl ?_
            refine AOps.unw rfl rfl rfl rfl ?_
            refine AOps.unw rfl rfl rfl rfl ?_
            refine AOps.unw rfl rfl rfl rfl ?_
            refine AOps.unwU rfl rfl rfl ?_
            refine AOps.unwU rfl rfl rfl ?_
            refine AOps.unwU rfl rfl rfl ?_
            refine AOps.unwU rfl rfl rfl ?_
            refine AOps.unwU rfl rfl rfl ?_
            refine AOps.unwU rfl rfl rfl ?_
            refine AOps.unwU rfl rfl rfl ?_
            refine AOps.unwU rfl rfl rfl ?_
            refine AOps.unw rfl rfl rfl rfl ?_
            refine AOps.sim okL rfl rfl ?_
            refine AOps.sim okL rfl rfl ?_
            refine AOps.unw rfl rfl rfl rfl ?_
            refine AOps.unw rfl rfl rfl rfl ?_
            refine AOps.unw rfl rfl rfl rfl ?_
            refine AOps.unw rfl rfl rfl rfl ?_
            refine AOps.unwU rfl rfl rfl ?_
            refine AOps.unwU rfl rfl rfl ?_
            refine AOps.unwU rfl rfl rfl ?_
            refine AOps.unw rfl rfl rfl rfl ?_
            refine AOps.sim okL rfl rfl ?_
            refine AOps.nil ?_
            refine AWp.condT rfl ?_
            refine AWp.seq ?_
            refine AWp.region ?_
            refine AOps.sim okL rfl rfl ?_
            refine AOps.nil ?_
            refine AWp.ret ?_
            refine blockQ_r ?_
            refine seqQ_r ?_
            refine seqQ_r ?_
            refine blockQ_r ?_
            refine seqQ_r ?_
            first | (refine bodyQ_r (by first | exact ResOk.one rfl rfl | exact ResOk.two rfl rfl rfl | exact ResOk.three rfl rfl rfl rfl | exact ResOk.none rfl) ?_; rw [hVV, ← hm]; clear ih IH hc hm hVV; simp_all [sideM]; done) | (refine AIn.nextN 1 (ih (k + 1) (⟨by omega, by rw [← hm]; clear ih IH hc hm hVV; simp_all [sideM]⟩) (by first | omega | (simp only; omega))) ?_ rfl; repeat (first | exact trivial | refine ⟨rfl, ?_⟩ | refine ⟨congrArg some nx, ?_⟩ | refine ⟨congrArg (fun v => some (A.int .i64 v)) (by skip), ?_⟩))
          · refine AOps.simW okL rfl rfl rfl rfl ?_
            refine AOps.wtd rfl rfl rfl ?_; refine AOp.load okL rfl (.tail _ (.head _)) rfl rfl rfl rfl ?_
            refine AOps.simW okL rfl rfl rfl rfl ?_
            refine AOps.simW okL rfl rfl rfl rfl ?_
            refine AOps.guardCase rfl rfl rfl (fun h => ?_) (fun h => ?_)
            · refine AOps.simW okL rfl rfl rfl rfl ?_
              refine AOps.wtd rfl rfl rfl ?_; refine AOp.load okL rfl (.head _) rfl rfl rfl rfl ?_
              refine AOps.simW okL rfl rfl rfl rfl ?_
              refine AOps.simW okL rfl rfl rfl rfl ?_
              refine AOps.guardCase rfl rfl rfl (fun h => ?_) (fun h => ?_)
              · refine AOps.unw rfl rfl rfl rfl ?_
                refine AOps.unw rfl rfl rfl rfl ?_
                refine AOps.unw rfl rfl rfl rfl ?_
                refine AOps.simW okL rfl rfl rfl rfl ?_
                refine AOps.simW okL rfl rfl rfl rfl ?_
                refine AOps.sim okL rfl rfl ?_
                refine AOps.sim okL rfl rfl ?_
                refine AOps.unw rfl rfl rfl rfl ?_
                refine AOps.unw rfl rfl rfl rfl ?_
                refine AOps.unw rfl rfl rfl rfl ?_
                refine AOps.unw rfl rfl rfl rfl ?_
                refine AOps.unwU rfl rfl rfl ?_
                refine AOps.unwU rfl rfl rfl ?_
                refine AOps.unwU rfl rfl rfl ?_
                refine AOps.unw rfl rfl rfl rfl ?_
                refine AOps.sim okL rfl rfl ?_
                refine AOps.nil ?_
                refine AWp.condT rfl ?_
                refine AWp.seq ?_
                refine AWp.region ?_
                refine AOps.sim okL rfl rfl ?_
                refine AOps.nil ?_
                refine AWp.ret ?_
                refine blockQ_r ?_
                refine seqQ_r ?_
                refine seqQ_r ?_
                refine blockQ_r ?_
                refine seqQ_r ?_
                first | (refine bodyQ_r (by first | exact ResOk.one rfl rfl | exact ResOk.two rfl rfl rfl | exact ResOk.three rfl rfl rfl rfl | exact ResOk.none rfl) ?_; rw [hVV, ← hm]; clear ih IH hc hm hVV; simp_all [sideM]; done) | (refine AIn.nextN 1 (ih (k + 1) (⟨by omega, by rw [← hm]; clear ih IH hc hm hVV; simp_all [sideM]⟩) (by first | omega | (simp only; omega))) ?_ rfl; repeat (first | exact trivial | refine ⟨rfl, ?_⟩ | refine ⟨congrArg some nx, ?_⟩ | refine ⟨congrArg (fun v => some (A.int .i64 v)) (by skip), ?_⟩))
              · refine AOps.simW okL rfl rfl rfl rfl ?_
                refine AOps.wtd rfl rfl rfl ?_; refine AOp.load okL rfl (.head _) rfl rfl rfl rfl ?_
                refine AOps.simW okL rfl rfl rfl rfl ?_
                refine AOps.simW okL rfl rfl rfl rfl ?_
                refine AOps.simW okL rfl rfl rfl rfl ?_
                refine AOps.sim okL rfl rfl ?_
                refine AOps.sim okL rfl rfl ?_
                refine AOps.guardCase rfl rfl rfl (fun h => ?_) (fun h => ?_)
                · refine AOps.unw rfl rfl rfl rfl ?_
                  refine AOps.unw rfl rfl rfl rfl ?_
                  refine AOps.unw rfl rfl rfl rfl ?_
                  refine AOps.unw rfl rfl rfl rfl ?_
                  refine AOps.unwU rfl rfl rfl ?_
                  refine AOps.unwU rfl rfl rfl ?_
                  refine AOps.unwU rfl rfl rfl ?_
                  refine AOps.unw rfl rfl rfl rfl ?_
                  refine AOps.sim okL rfl rfl ?_
                  refine AOps.nil ?_
                  refine AWp.condT rfl ?_
                  refine AWp.seq ?_
                  refine AWp.region ?_
                  refine AOps.sim okL rfl rfl ?_
                  refine AOps.nil ?_
                  refine AWp.ret ?_
                  refine blockQ_r ?_
                  refine seqQ_r ?_
                  refine seqQ_r ?_
                  refine blockQ_r ?_
                  refine seqQ_r ?_
                  first | (refine bodyQ_r (by first | exact ResOk.one rfl rfl | exact ResOk.two rfl rfl rfl | exact ResOk.three rfl rfl rfl rfl | exact ResOk.none rfl) ?_; rw [hVV, ← hm]; clear ih IH hc hm hVV; simp_all [sideM]; done) | (refine AIn.nextN 1 (ih (k + 1) (⟨by omega, by rw [← hm]; clear ih IH hc hm hVV; simp_all [sideM]⟩) (by first | omega | (simp only; omega))) ?_ rfl; repeat (first | exact trivial | refine ⟨rfl, ?_⟩ | refine ⟨congrArg some nx, ?_⟩ | refine ⟨congrArg (fun v => some (A.int .i64 v)) (by skip), ?_⟩))
                · refine AOps.simW okL rfl rfl rfl rfl ?_
                  refine AOps.wtd rfl rfl rfl ?_; refine AOp.load okL rfl (.tail _ (.head _)) rfl rfl rfl rfl ?_
                  refine AOps.simW okL rfl rfl rfl rfl ?_
                  refine AOps.simW okL rfl rfl rfl rfl ?_
                  refine AOps.guardCase rfl rfl rfl (fun h => ?_) (fun h => ?_)
                  · refine AOps.simW okL rfl rfl rfl rfl ?_
                    refine AOps.wtd rfl rfl rfl ?_; refine AOp.load okL rfl (.head _) rfl rfl rfl rfl ?_
                    refine AOps.simW okL rfl rfl rfl rfl ?_
                    refine AOps.simW okL rfl rfl rfl rfl ?_
                    refine AOps.sim okL rfl rfl ?_
                    refine AOps.nil ?_
                    refine seqQ_n ?_
                    refine AWp.condCase rfl (fun h => ?_) (fun h => ?_)
                    · refine AWp.seq ?_
                      refine AWp.region ?_
                      refine AOps.sim okL rfl rfl ?_
                      refine AOps.nil ?_
                      refine AWp.ret ?_
                      refine blockQ_r ?_
                      refine seqQ_r ?_
                      refine seqQ_r ?_
                      refine blockQ_r ?_
                      refine seqQ_r ?_
                      first | (refine bodyQ_r (by first | exact ResOk.one rfl rfl | exact ResOk.two rfl rfl rfl | exact ResOk.three rfl rfl rfl rfl | exact ResOk.none rfl) ?_; rw [hVV, ← hm]; clear ih IH hc hm hVV; simp_all [sideM]; done) | (refine AIn.nextN 1 (ih (k + 1) (⟨by omega, by rw [← hm]; clear ih IH hc hm hVV; simp_all [sideM]⟩) (by first | omega | (simp only; omega))) ?_ rfl; repeat (first | exact trivial | refine ⟨rfl, ?_⟩ | refine ⟨congrArg some nx, ?_⟩ | refine ⟨congrArg (fun v => some (A.int .i64 v)) (by skip), ?_⟩))
                    · refine AWp.skip ?_
                      refine AWp.region ?_
                      refine AOps.sim okL rfl rfl ?_
                      refine AOps.sim okL rfl rfl ?_
                      refine AOps.sim okL rfl rfl ?_
                      refine AOps.nil ?_
                      refine seqQ_n ?_
                      first | (refine bodyQ_r (by first | exact ResOk.one rfl rfl | exact ResOk.two rfl rfl rfl | exact ResOk.three rfl rfl rfl rfl | exact ResOk.none rfl) ?_; rw [hVV, ← hm]; clear ih IH hc hm hVV; simp_all [sideM]; done) | (refine AIn.nextN 1 (ih (k + 1) (⟨by omega, by rw [← hm]; clear ih IH hc hm hVV; simp_all [sideM]⟩) (by first | omega | (simp only; omega))) ?_ rfl; repeat (first | exact trivial | refine ⟨rfl, ?_⟩ | refine ⟨congrArg some nx, ?_⟩ | refine ⟨congrArg (fun v => some (A.int .i64 v)) (by skip), ?_⟩))
                  · refine AOps.unw rfl rfl rfl rfl ?_
                    refine AOps.unw rfl rfl rfl rfl ?_
                    refine AOps.unw rfl rfl rfl rfl ?_
                    refine AOps.simW okL rfl rfl rfl rfl ?_
                    refine AOps.sim okL rfl rfl ?_
                    refine AOps.nil ?_
                    refine AWp.condF rfl ?_
                    refine AWp.skip ?_
                    refine AWp.region ?_
                    refine AOps.sim okL rfl rfl ?_
                    refine AOps.sim okL rfl rfl ?_
                    refine AOps.sim okL rfl rfl ?_
                    refine AOps.nil ?_
                    refine seqQ_n ?_
                    first | (refine bodyQ_r (by first | exact ResOk.one rfl rfl | exact ResOk.two rfl rfl rfl | exact ResOk.three rfl rfl rfl rfl | exact ResOk.none rfl) ?_; rw [hVV, ← hm]; clear ih IH hc hm hVV; simp_all [sideM]; done) | (refine AIn.nextN 1 (ih (k + 1) (⟨by omega, by rw [← hm]; clear ih IH hc hm hVV; simp_all [sideM]⟩) (by first | omega | (simp only; omega))) ?_ rfl; repeat (first | exact trivial | refine ⟨rfl, ?_⟩ | refine ⟨congrArg some nx, ?_⟩ | refine ⟨congrArg (fun v => some (A.int .i64 v)) (by skip), ?_⟩))
            · refine AOps.unw rfl rfl rfl rfl ?_
              refine AOps.unw rfl rfl rfl rfl ?_
              refine AOps.unw rfl rfl rfl rfl ?_
              refine AOps.unw rfl rfl rfl rfl ?_
              refine AOps.unwU rfl rfl rfl ?_
              refine AOps.unwU rfl rfl rfl ?_
              refine AOps.unwU rfl rfl rfl ?_
              refine AOps.unw rfl rfl rfl rfl ?_
              refine AOps.simW okL rfl rfl rfl rfl ?_
              refine AOps.sim okL rfl rfl ?_
              refine AOps.sim okL rfl rfl ?_
              refine AOps.simW okL rfl rfl rfl rfl ?_
              refine AOps.wtd rfl rfl rfl ?_; refine AOp.load okL rfl (.tail _ (.head _)) rfl rfl rfl rfl ?_
              refine AOps.simW okL rfl rfl rfl rfl ?_
              refine AOps.simW okL rfl rfl rfl rfl ?_
              refine AOps.guardCase rfl rfl rfl (fun h => ?_) (fun h => ?_)
              · refine AOps.simW okL rfl rfl rfl rfl ?_
                refine AOps.wtd rfl rfl rfl ?_; refine AOp.load okL rfl (.head _) rfl rfl rfl rfl ?_
                refine AOps.simW okL rfl rfl rfl rfl ?_
                refine AOps.simW okL rfl rfl rfl rfl ?_
                refine AOps.sim okL rfl rfl ?_
                refine AOps.nil ?_
                refine seqQ_n ?_
                refine AWp.condCase rfl (fun h => ?_) (fun h => ?_)
                · refine AWp.seq ?_
                  refine AWp.region ?_
                  refine AOps.sim okL rfl rfl ?_
                  refine AOps.nil ?_
                  refine AWp.ret ?_
                  refine blockQ_r ?_
                  refine seqQ_r ?_
                  refine seqQ_r ?_
                  refine blockQ_r ?_
                  refine seqQ_r ?_
                  first | (refine bodyQ_r (by first | exact ResOk.one rfl rfl | exact ResOk.two rfl rfl rfl | exact ResOk.three rfl rfl rfl rfl | exact ResOk.none rfl) ?_; rw [hVV, ← hm]; clear ih IH hc hm hVV; simp_all [sideM]; done) | (refine AIn.nextN 1 (ih (k + 1) (⟨by omega, by rw [← hm]; clear ih IH hc hm hVV; simp_all [sideM]⟩) (by first | omega | (simp only; omega))) ?_ rfl; repeat (first | exact trivial | refine ⟨rfl, ?_⟩ | refine ⟨congrArg some nx, ?_⟩ | refine ⟨congrArg (fun v => some (A.int .i64 v)) (by skip), ?_⟩))
                · refine AWp.skip ?_
                  refine AWp.region ?_
                  refine AOps.sim okL rfl rfl ?_
                  refine AOps.sim okL rfl rfl ?_
                  refine AOps.sim okL rfl rfl ?_
                  refine AOps.nil ?_
                  refine seqQ_n ?_
                  first | (refine bodyQ_r (by first | exact ResOk.one rfl rfl | exact ResOk.two rfl rfl rfl | exact ResOk.three rfl rfl rfl rfl | exact ResOk.none rfl) ?_; rw [hVV, ← hm]; clear ih IH hc hm hVV; simp_all [sideM]; done) | (refine AIn.nextN 1 (ih (k + 1) (⟨by omega, by rw [← hm]; clear ih IH hc hm hVV; simp_all [sideM]⟩) (by first | omega | (simp only; omega))) ?_ rfl; repeat (first | exact trivial | refine ⟨rfl, ?_⟩ | refine ⟨congrArg some nx, ?_⟩ | refine ⟨congrArg (fun v => some (A.int .i64 v)) (by skip), ?_⟩))
              · refine AOps.unw rfl rfl rfl rfl ?_
                refine AOps.unw rfl rfl rfl rfl ?_
                refine AOps.unw rfl rfl rfl rfl ?_
                refine AOps.simW okL rfl rfl rfl rfl ?_
                refine AOps.sim okL rfl rfl ?_
                refine AOps.nil ?_
                refine AWp.condF rfl ?_
                refine AWp.skip ?_
                refine AWp.region ?_
                refine AOps.sim okL rfl rfl ?_
                refine AOps.sim okL rfl rfl ?_
                refine AOps.sim okL rfl rfl ?_
                refine AOps.nil ?_
                refine seqQ_n ?_
                first | (refine bodyQ_r (by first | exact ResOk.one rfl rfl | exact ResOk.two rfl rfl rfl | exact ResOk.three rfl rfl rfl rfl | exact ResOk.none rfl) ?_; rw [hVV, ← hm]; clear ih IH hc hm hVV; simp_all [sideM]; done) | (refine AIn.nextN 1 (ih (k + 1) (⟨by omega, by rw [← hm]; clear ih IH hc hm hVV; simp_all [sideM]⟩) (by first | omega | (simp only; omega))) ?_ rfl; repeat (first | exact trivial | refine ⟨rfl, ?_⟩ | refine ⟨congrArg some nx, ?_⟩ | refine ⟨congrArg (fun v => some (A.int .i64 v)) (by skip), ?_⟩))
      · have h := of_decide_eq_false h
        simp only [List.length_map] at h
        rw [List.drop_eq_nil_of_le (by omega), nodeL] at hm
        have hV : nodeV fx x g kk = nodeE fx x := by rw [hVV, ← hm]; simp
        cases hxl : x.l with
        | nil =>
          refine AWp.exit ?_
          refine AWp.seq ?_
          refine AWp.region ?_
          refine AOps.sim okL rfl rfl ?_
          refine AOps.pln ?_; refine AOp.load okL rfl (.head _) rfl rfl rfl rfl ?_
          refine AOps.sim okL rfl rfl ?_
          refine AOps.sim okL rfl rfl ?_
          refine AOps.guardCase rfl rfl rfl (fun h => ?_) (fun h => ?_)
          · refine AOps.unw rfl rfl rfl rfl ?_
            refine AOps.unw rfl rfl rfl rfl ?_
            refine AOps.unw rfl rfl rfl rfl ?_
            refine AOps.sim okL rfl rfl ?_
            refine AOps.sim okL rfl rfl ?_
            refine AOps.unw rfl rfl rfl rfl ?_
            refine AOps.unw rfl rfl rfl rfl ?_
            refine AOps.unw rfl rfl rfl rfl ?_
            refine AOps.unw rfl rfl rfl rfl ?_
            refine AOps.unw rfl rfl rfl rfl ?_
            refine AOps.sim okL rfl rfl ?_
            refine AOps.sim okL rfl rfl ?_
            refine AOps.nil ?_
            refine AWp.ret ?_
            first | (refine bodyQ_r (by first | exact ResOk.one rfl rfl | exact ResOk.two rfl rfl rfl | exact ResOk.three rfl rfl rfl rfl | exact ResOk.none rfl) ?_; rw [hV]; clear ih IH; first | (simp_all [nodeE]; done) | (simp_all [nodeE]; intro _; exfalso; omega)) | (exfalso; clear ih IH; simp_all [nodeA, partsM, inM]; done)
          · refine AOps.simW okL rfl rfl rfl rfl ?_
            refine AOps.wtd rfl rfl rfl ?_; refine AOp.load okL rfl (.head _) rfl rfl rfl rfl ?_
            refine AOps.simW okL rfl rfl rfl rfl ?_
            refine AOps.sim okL rfl rfl ?_
            refine AOps.sim okL rfl rfl ?_
            refine AOps.guardCase rfl rfl rfl (fun h => ?_) (fun h => ?_)
            · refine AOps.unw rfl rfl rfl rfl ?_
              refine AOps.unw rfl rfl rfl rfl ?_
              refine AOps.unw rfl rfl rfl rfl ?_
              refine AOps.unw rfl rfl rfl rfl ?_
              refine AOps.unw rfl rfl rfl rfl ?_
              refine AOps.sim okL rfl rfl ?_
              refine AOps.sim okL rfl rfl ?_
              refine AOps.nil ?_
              refine AWp.ret ?_
              first | (refine bodyQ_r (by first | exact ResOk.one rfl rfl | exact ResOk.two rfl rfl rfl | exact ResOk.three rfl rfl rfl rfl | exact ResOk.none rfl) ?_; rw [hV]; clear ih IH; first | (simp_all [nodeE]; done) | (simp_all [nodeE]; intro _; exfalso; omega)) | (exfalso; clear ih IH; simp_all [nodeA, partsM, inM]; done)
            · refine AOps.simW okL rfl rfl rfl rfl ?_
              refine AOps.wtd rfl rfl rfl ?_; refine AOp.load okL rfl (.head _) rfl rfl rfl rfl ?_
              refine AOps.guardCase rfl rfl rfl (fun h => ?_) (fun h => ?_)
              · refine AOps.unw rfl rfl rfl rfl ?_
                refine AOps.unw rfl rfl rfl rfl ?_
                refine AOps.unw rfl rfl rfl rfl ?_
                refine AOps.sim okL rfl rfl ?_
                refine AOps.sim okL rfl rfl ?_
                refine AOps.nil ?_
                refine AWp.ret ?_
                first | (refine bodyQ_r (by first | exact ResOk.one rfl rfl | exact ResOk.two rfl rfl rfl | exact ResOk.three rfl rfl rfl rfl | exact ResOk.none rfl) ?_; rw [hV]; clear ih IH; first | (simp_all [nodeE]; done) | (simp_all [nodeE]; intro _; exfalso; omega)) | (exfalso; clear ih IH; simp_all [nodeA, partsM, inM]; done)
              · refine AOps.guardCase rfl rfl rfl (fun h => ?_) (fun h => ?_)
                · refine AOps.unw rfl rfl rfl rfl ?_
                  refine AOps.unw rfl rfl rfl rfl ?_
                  refine AOps.unw rfl rfl rfl rfl ?_
                  refine AOps.sim okL rfl rfl ?_
                  refine AOps.sim okL rfl rfl ?_
                  refine AOps.nil ?_
                  refine AWp.ret ?_
                  first | (refine bodyQ_r (by first | exact ResOk.one rfl rfl | exact ResOk.two rfl rfl rfl | exact ResOk.three rfl rfl rfl rfl | exact ResOk.none rfl) ?_; rw [hV]; clear ih IH; first | (simp_all [nodeE]; done) | (simp_all [nodeE]; intro _; exfalso; omega)) | (exfalso; clear ih IH; simp_all [nodeA, partsM, inM]; done)
                · refine AOps.guardCase rfl rfl rfl (fun h => ?_) (fun h => ?_)
                  · refine AOps.unw rfl rfl rfl rfl ?_
                    refine AOps.unw rfl rfl rfl rfl ?_
                    refine AOps.unw rfl rfl rfl rfl ?_
                    refine AOps.sim okL rfl rfl ?_
                    refine AOps.sim okL rfl rfl ?_
                    refine AOps.nil ?_
                    refine AWp.ret ?_
                    first | (refine bodyQ_r (by first | exact ResOk.one rfl rfl | exact ResOk.two rfl rfl rfl | exact ResOk.three rfl rfl rfl rfl | exact ResOk.none rfl) ?_; rw [hV]; clear ih IH; first | (simp_all [nodeE]; done) | (simp_all [nodeE]; intro _; exfalso; omega)) | (exfalso; clear ih IH; simp_all [nodeA, partsM, inM]; done)
                  · refine AOps.guardCase rfl rfl rfl (fun h => ?_) (fun h => ?_)
                    · refine AOps.unw rfl rfl rfl rfl ?_
                      refine AOps.unw rfl rfl rfl rfl ?_
                      refine AOps.unw rfl rfl rfl rfl ?_
                      refine AOps.sim okL rfl rfl ?_
                      refine AOps.sim okL rfl rfl ?_
                      refine AOps.nil ?_
                      refine AWp.ret ?_
                      first | (refine bodyQ_r (by first | exact ResOk.one rfl rfl | exact ResOk.two rfl rfl rfl | exact ResOk.three rfl rfl rfl rfl | exact ResOk.none rfl) ?_; rw [hV]; clear ih IH; first | (simp_all [nodeE]; done) | (simp_all [nodeE]; intro _; exfalso; omega)) | (exfalso; clear ih IH; simp_all [nodeA, partsM, inM]; done)
                    · refine AOps.guardCase rfl rfl rfl (fun h => ?_) (fun h => ?_)
                      · refine AOps.unw rfl rfl rfl rfl ?_
                        refine AOps.unw rfl rfl rfl rfl ?_
                        refine AOps.unw rfl rfl rfl rfl ?_
                        refine AOps.sim okL rfl rfl ?_
                        refine AOps.sim okL rfl rfl ?_
                        refine AOps.nil ?_
                        refine AWp.ret ?_
                        first | (refine bodyQ_r (by first | exact ResOk.one rfl rfl | exact ResOk.two rfl rfl rfl | exact ResOk.three rfl rfl rfl rfl | exact ResOk.none rfl) ?_; rw [hV]; clear ih IH; first | (simp_all [nodeE]; done) | (simp_all [nodeE]; intro _; exfalso; omega)) | (exfalso; clear ih IH; simp_all [nodeA, partsM, inM]; done)
                      · refine AOps.guardCase rfl rfl rfl (fun h => ?_) (fun h => ?_)
                        · refine AOps.unw rfl rfl rfl rfl ?_
                          refine AOps.unw rfl rfl rfl rfl ?_
                          refine AOps.unw rfl rfl rfl rfl ?_
                          refine AOps.sim okL rfl rfl ?_
                          refine AOps.sim okL rfl rfl ?_
                          refine AOps.nil ?_
                          refine AWp.ret ?_
                          first | (refine bodyQ_r (by first | exact ResOk.one rfl rfl | exact ResOk.two rfl rfl rfl | exact ResOk.three rfl rfl rfl rfl | exact ResOk.none rfl) ?_; rw [hV]; clear ih IH; first | (simp_all [nodeE]; done) | (simp_all [nodeE]; intro _; exfalso; omega)) | (exfalso; clear ih IH; simp_all [nodeA, partsM, inM]; done)
                        · first | (refine bodyQ_r (by first | exact ResOk.one rfl rfl | exact ResOk.two rfl rfl rfl | exact ResOk.three rfl rfl rfl rfl | exact ResOk.none rfl) ?_; rw [hV]; clear ih IH; first | (simp_all [nodeE]; done) | (simp_all [nodeE]; intro _; exfalso; omega)) | (exfalso; clear ih IH; simp_all [nodeA, partsM, inM]; done)
        | cons y0 l0 =>
          have hg : x.l[0]? = some y0 := by rw [hxl]; rfl
          have hS : Sh y0 := nodeV_Sh y0 (nodeL_mem hm.symm y0 (by rw [hxl]; exact List.mem_cons_self)).1
          refine AWp.exit ?_
          refine AWp.seq ?_
          refine AWp.region ?_
          refine AOps.sim okL rfl rfl ?_
          refine AOps.pln ?_; refine AOp.load okL rfl (.head _) rfl rfl rfl rfl ?_
          refine AOps.sim okL rfl rfl ?_
          refine AOps.sim okL rfl rfl ?_
          refine AOps.guardCase rfl rfl rfl (fun h => ?_) (fun h => ?_)
          · refine AOps.unw rfl rfl rfl rfl ?_
            refine AOps.unw rfl rfl rfl rfl ?_
            refine AOps.unw rfl rfl rfl rfl ?_
            refine AOps.sim okL rfl rfl ?_
            refine AOps.sim okL rfl rfl ?_
            refine AOps.unw rfl rfl rfl rfl ?_
            refine AOps.unw rfl rfl rfl rfl ?_
            refine AOps.unw rfl rfl rfl rfl ?_
            refine AOps.unw rfl rfl rfl rfl ?_
            refine AOps.unw rfl rfl rfl rfl ?_
            refine AOps.sim okL rfl rfl ?_
            refine AOps.sim okL rfl rfl ?_
            refine AOps.nil ?_
            refine AWp.ret ?_
            (refine bodyQ_r (by first | exact ResOk.one rfl rfl | exact ResOk.two rfl rfl rfl | exact ResOk.three rfl rfl rfl rfl | exact ResOk.none rfl) ?_; rw [hV]; clear ih IH; first | (simp_all [nodeE]; done) | (simp_all [nodeE]; intro _; exfalso; omega))
          · refine AOps.simW okL rfl rfl rfl rfl ?_
            refine AOps.wtd rfl rfl rfl ?_; refine AOp.load okL rfl (.head _) rfl rfl rfl rfl ?_
            refine AOps.simW okL rfl rfl rfl rfl ?_
            refine AOps.sim okL rfl rfl ?_
            refine AOps.sim okL rfl rfl ?_
            refine AOps.guardCase rfl rfl rfl (fun h => ?_) (fun h => ?_)
            · refine AOps.unw rfl rfl rfl rfl ?_
              refine AOps.unw rfl rfl rfl rfl ?_
              refine AOps.unw rfl rfl rfl rfl ?_
              refine AOps.unw rfl rfl rfl rfl ?_
              refine AOps.unw rfl rfl rfl rfl ?_
              refine AOps.sim okL rfl rfl ?_
              refine AOps.sim okL rfl rfl ?_
              refine AOps.nil ?_
              refine AWp.ret ?_
              (refine bodyQ_r (by first | exact ResOk.one rfl rfl | exact ResOk.two rfl rfl rfl | exact ResOk.three rfl rfl rfl rfl | exact ResOk.none rfl) ?_; rw [hV]; clear ih IH; first | (simp_all [nodeE]; done) | (simp_all [nodeE]; intro _; exfalso; omega))
            · refine AOps.simW okL rfl rfl rfl rfl ?_
              refine AOps.wtd rfl rfl rfl ?_; refine AOp.load okL rfl (.head _) rfl rfl rfl rfl ?_
              refine AOps.simW okL rfl rfl (sOp_idxD rfl rfl rfl rfl rfl (Int.le_refl _) (getC hg) rfl) rfl ?_
              refine AOps.simW okL rfl rfl rfl rfl ?_
              refine AOps.wtd rfl rfl rfl ?_; focus (refine AOp.callP (v := ?_) rfl rfl rfl ?_ ?_; rotate_left; exact (hF y0 hS))
              refine AOps.sim okL rfl rfl ?_
              refine AOps.sim okL rfl rfl ?_
              refine AOps.nil ?_
              refine AWp.ret ?_
              (refine bodyQ_r (by first | exact ResOk.one rfl rfl | exact ResOk.two rfl rfl rfl | exact ResOk.three rfl rfl rfl rfl | exact ResOk.none rfl) ?_; rw [hV]; clear ih IH; first | (simp_all [nodeE]; done) | (simp_all [nodeE]; intro _; exfalso; omega))
    · refine AWp.seq ?_
      refine AWp.region ?_
      refine AOps.sim okL rfl rfl ?_
      refine AOps.pln ?_; refine AOp.load okL rfl (.head _) rfl rfl rfl rfl ?_
      refine AOps.sim okL rfl rfl ?_
      refine AOps.sim okL rfl rfl ?_
      refine AOps.guardCase rfl rfl rfl (fun h => ?_) (fun h => ?_)
      · refine AOps.simW okL rfl rfl rfl rfl ?_
        refine AOps.wtd rfl rfl rfl ?_; refine AOp.load okL rfl (.head _) rfl rfl rfl rfl ?_
        refine AOps.simW okL rfl rfl rfl rfl ?_
        refine AOps.sim okL rfl rfl ?_
        refine AOps.sim okL rfl rfl ?_
        refine AOps.guardCase rfl rfl rfl (fun h => ?_) (fun h => ?_)
        · refine AOps.unw rfl rfl rfl rfl ?_
          refine AOps.unw rfl rfl rfl rfl ?_
          refine AOps.unw rfl rfl rfl rfl ?_
          refine AOps.unw rfl rfl rfl rfl ?_
          refine AOps.unwU rfl rfl rfl ?_
          refine AOps.unwU rfl rfl rfl ?_
          refine AOps.unwU rfl rfl rfl ?_
          refine AOps.unw rfl rfl rfl rfl ?_
          refine AOps.unw rfl rfl rfl rfl ?_
          refine AOps.unwU rfl rfl rfl ?_
          refine AOps.unwU rfl rfl rfl ?_
          refine AOps.unwU rfl rfl rfl ?_
          refine AOps.unwU rfl rfl rfl ?_
          refine AOps.unw rfl rfl rfl rfl ?_
          refine AOps.sim okL rfl rfl ?_
          refine AOps.sim okL rfl rfl ?_
          refine AOps.unw rfl rfl rfl rfl ?_
          refine AOps.unw rfl rfl rfl rfl ?_
          refine AOps.unw rfl rfl rfl rfl ?_
          refine AOps.unw rfl rfl rfl rfl ?_
          refine AOps.unwU rfl rfl rfl ?_
          refine AOps.unwU rfl rfl rfl ?_
          refine AOps.unwU rfl rfl rfl ?_
          refine AOps.unwU rfl rfl rfl ?_
          refine AOps.unw rfl rfl rfl rfl ?_
          refine AOps.sim okL rfl rfl ?_
          refine AOps.sim okL rfl rfl ?_
          refine AOps.unw rfl rfl rfl rfl ?_
          refine AOps.unw rfl rfl rfl rfl ?_
          refine AOps.unw rfl rfl rfl rfl ?_
          refine AOps.unw rfl rfl rfl rfl ?_
          refine AOps.unwU rfl rfl rfl ?_
          refine AOps.unwU rfl rfl rfl ?_
          refine AOps.unwU rfl rfl rfl ?_
          refine AOps.unwU rfl rfl rfl ?_
          refine AOps.unw rfl rfl rfl rfl ?_
          refine AOps.sim okL rfl rfl ?_
          refine AOps.sim okL rfl rfl ?_
          refine AOps.unw rfl rfl rfl rfl ?_
          refine AOps.unw rfl rfl rfl rfl ?_
          refine AOps.unw rfl rfl rfl rfl ?_
          refine AOps.unw rfl rfl rfl rfl ?_
          refine AOps.unwU rfl rfl rfl ?_
          refine AOps.unw rfl rfl rfl rfl ?_
          refine AOps.sim okL rfl rfl ?_
          refine AOps.nil ?_
          refine AWp.condT rfl ?_
          refine AWp.seq ?_
          refine AWp.region ?_
          refine AOps.sim okL rfl rfl ?_
          refine AOps.nil ?_
          refine AWp.ret ?_
          first | (refine hR _ _ _ (by intro h; cases h) ?_; refine bodyQ_r (by first | exact ResOk.one rfl rfl | exact ResOk.two rfl rfl rfl | exact ResOk.three rfl rfl rfl rfl | exact ResOk.none rfl) ?_; clear K hR IH; rw [nodeV_eq]; simp_all [nodeB]; done) | (refine K () ?_ 0 _ _ ⟨rfl, rfl, rfl, trivial⟩ rfl; clear K hR IH; simp_all [nodeB]; done)
        · refine AOps.simW okL rfl rfl rfl rfl ?_
          refine AOps.wtd rfl rfl rfl ?_; refine AOp.load okL rfl (.head _) rfl rfl rfl rfl ?_
          refine AOps.simW okL rfl rfl rfl rfl ?_
          refine AOps.simW okL rfl rfl rfl rfl ?_
          refine AOps.guardCase rfl rfl rfl (fun h => ?_) (fun h => ?_)
          · exfalso; clear K hR IH; simp_all; done
          · refine AOps.unw rfl rfl rfl rfl ?_
            refine AOps.unw rfl rfl rfl rfl ?_
            refine AOps.unw rfl rfl rfl rfl ?_
            refine AOps.simW okL rfl rfl rfl rfl ?_
            refine AOps.simW okL rfl rfl rfl rfl ?_
            refine AOps.unw rfl rfl rfl rfl ?_
            refine AOps.unw rfl rfl rfl rfl ?_
            refine AOps.unw rfl rfl rfl rfl ?_
            refine AOps.unw rfl rfl rfl rfl ?_
            refine AOps.simW okL rfl rfl rfl rfl ?_
            refine AOps.sim okL rfl rfl ?_
            refine AOps.sim okL rfl rfl ?_
            refine AOps.simW okL rfl rfl rfl rfl ?_
            refine AOps.wtd rfl rfl rfl ?_; refine AOp.load okL rfl (.head _) rfl rfl rfl rfl ?_
            refine AOps.simW okL rfl rfl rfl rfl ?_
            refine AOps.simW okL rfl rfl rfl rfl ?_
            refine AOps.guardCase rfl rfl rfl (fun h => ?_) (fun h => ?_)
            · refine AOps.simW okL rfl rfl rfl rfl ?_
              refine AOps.wtd rfl rfl rfl ?_; refine AOp.load okL rfl (.head _) rfl rfl rfl rfl ?_
              refine AOps.wtd rfl rfl rfl ?_; focus (refine AOp.callP (v := ?_) rfl rfl rfl ?_ ?_; rotate_left; exact (refIsSet_tr _))
              refine AOps.simW okL rfl rfl rfl rfl ?_
              refine AOps.simW okL rfl rfl rfl rfl ?_
              refine AOps.sim okL rfl rfl ?_
              refine AOps.sim okL rfl rfl ?_
              refine AOps.guardCase rfl rfl rfl (fun h => ?_) (fun h => ?_)
              · refine AOps.unw rfl rfl rfl rfl ?_
                refine AOps.unw rfl rfl rfl rfl ?_
                refine AOps.unw rfl rfl rfl rfl ?_
                refine AOps.unw rfl rfl rfl rfl ?_
                refine AOps.unwU rfl rfl rfl ?_
                refine AOps.unwU rfl rfl rfl ?_
                refine AOps.unwU rfl rfl rfl ?_
                refine AOps.unwU rfl rfl rfl ?_
                refine AOps.unw rfl rfl rfl rfl ?_
                refine AOps.sim okL rfl rfl ?_
                refine AOps.sim okL rfl rfl ?_
                refine AOps.unw rfl rfl rfl rfl ?_
                refine AOps.unw rfl rfl rfl rfl ?_
                refine AOps.unw rfl rfl rfl rfl ?_
                refine AOps.unw rfl rfl rfl rfl ?_
                refine AOps.unwU rfl rfl rfl ?_
                refine AOps.unw rfl rfl rfl rfl ?_
                refine AOps.sim okL rfl rfl ?_
                refine AOps.nil ?_
                refine AWp.condT rfl ?_
                refine AWp.seq ?_
                refine AWp.region ?_
                refine AOps.sim okL rfl rfl ?_
                refine AOps.nil ?_
                refine AWp.ret ?_
                first | (refine hR _ _ _ (by intro h; cases h) ?_; refine bodyQ_r (by first | exact ResOk.one rfl rfl | exact ResOk.two rfl rfl rfl | exact ResOk.three rfl rfl rfl rfl | exact ResOk.none rfl) ?_; clear K hR IH; rw [nodeV_eq]; simp_all [nodeB]; done) | (refine K () ?_ 0 _ _ ⟨rfl, rfl, rfl, trivial⟩ rfl; clear K hR IH; simp_all [nodeB]; done)
              · refine AOps.simW okL rfl rfl rfl rfl ?_
                refine AOps.wtd rfl rfl rfl ?_; refine AOp.load okL rfl (.head _) rfl rfl rfl rfl ?_
                refine AOps.simW okL rfl rfl rfl rfl ?_
                refine AOps.simW okL rfl rfl rfl rfl ?_
                refine AOps.guardCase rfl rfl rfl (fun h => ?_) (fun h => ?_)
                · exfalso; clear K hR IH; simp_all; done
                · refine AOps.unw rfl rfl rfl rfl ?_
                  refine AOps.unw rfl rfl rfl rfl ?_
                  refine AOps.unw rfl rfl rfl rfl ?_
                  refine AOps.unw rfl rfl rfl rfl ?_
                  refine AOps.simW okL rfl rfl rfl rfl ?_
                  refine AOps.sim okL rfl rfl ?_
                  refine AOps.sim okL rfl rfl ?_
                  refine AOps.simW okL rfl rfl rfl rfl ?_
                  refine AOps.wtd rfl rfl rfl ?_; refine AOp.load okL rfl (.head _) rfl rfl rfl rfl ?_
                  refine AOps.simW okL rfl rfl rfl rfl ?_
                  refine AOps.simW okL rfl rfl rfl rfl ?_
                  refine AOps.guardCase rfl rfl rfl (fun h => ?_) (fun h => ?_)
                  · exfalso; clear K hR IH; simp_all; done
                  · refine AOps.unw rfl rfl rfl rfl ?_
                    refine AOps.simW okL rfl rfl rfl rfl ?_
                    refine AOps.sim okL rfl rfl ?_
                    refine AOps.nil ?_
                    refine AWp.condF rfl ?_
                    refine AWp.skip ?_
                    first | (refine hR _ _ _ (by intro h; cases h) ?_; refine bodyQ_r (by first | exact ResOk.one rfl rfl | exact ResOk.two rfl rfl rfl | exact ResOk.three rfl rfl rfl rfl | exact ResOk.none rfl) ?_; clear K hR IH; rw [nodeV_eq]; simp_all [nodeB]; done) | (refine K () ?_ 0 _ _ ⟨rfl, rfl, rfl, trivial⟩ rfl; clear K hR IH; simp_all [nodeB]; done)
            · refine AOps.unw rfl rfl rfl rfl ?_
              refine AOps.unw rfl rfl rfl rfl ?_
              refine AOps.unw rfl rfl rfl rfl ?_
              refine AOps.unw rfl rfl rfl rfl ?_
              refine AOps.simW okL rfl rfl rfl rfl ?_
              refine AOps.sim okL rfl rfl ?_
              refine AOps.sim okL rfl rfl ?_
              refine AOps.simW okL rfl rfl rfl rfl ?_
              refine AOps.wtd rfl rfl rfl ?_; refine AOp.load okL rfl (.head _) rfl rfl rfl rfl ?_
              refine AOps.simW okL rfl rfl rfl rfl ?_
              refine AOps.simW okL rfl rfl rfl rfl ?_
              refine AOps.guardCase rfl rfl rfl (fun h => ?_) (fun h => ?_)
              · refine AOps.simW okL rfl rfl rfl rfl ?_
                refine AOps.wtd rfl rfl rfl ?_; refine AOp.load okL rfl (.head _) rfl rfl rfl rfl ?_
                refine AOps.simW okL rfl rfl rfl rfl ?_
                refine AOps.simW okL rfl rfl rfl rfl ?_
                refine AOps.simW okL rfl rfl rfl rfl ?_
                refine AOps.sim okL rfl rfl ?_
                refine AOps.sim okL rfl rfl ?_
                refine AOps.guardCase rfl rfl rfl (fun h => ?_) (fun h => ?_)
                · refine AOps.unw rfl rfl rfl rfl ?_
                  refine AOps.unw rfl rfl rfl rfl ?_
                  refine AOps.unw rfl rfl rfl rfl ?_
                  refine AOps.unw rfl rfl rfl rfl ?_
                  refine AOps.unwU rfl rfl rfl ?_
                  refine AOps.unw rfl rfl rfl rfl ?_
                  refine AOps.sim okL rfl rfl ?_
                  refine AOps.nil ?_
                  refine AWp.condT rfl ?_
                  refine AWp.seq ?_
                  refine AWp.region ?_
                  refine AOps.sim okL rfl rfl ?_
                  refine AOps.nil ?_
                  refine AWp.ret ?_
                  first | (refine hR _ _ _ (by intro h; cases h) ?_; refine bodyQ_r (by first | exact ResOk.one rfl rfl | exact ResOk.two rfl rfl rfl | exact ResOk.three rfl rfl rfl rfl | exact ResOk.none rfl) ?_; clear K hR IH; rw [nodeV_eq]; simp_all [nodeB]; done) | (refine K () ?_ 0 _ _ ⟨rfl, rfl, rfl, trivial⟩ rfl; clear K hR IH; simp_all [nodeB]; done)
                · refine AOps.simW okL rfl rfl rfl rfl ?_
                  refine AOps.wtd rfl rfl rfl ?_; refine AOp.load okL rfl (.head _) rfl rfl rfl rfl ?_
                  refine AOps.simW okL rfl rfl rfl rfl ?_
                  refine AOps.simW okL rfl rfl rfl rfl ?_
                  refine AOps.guardCase rfl rfl rfl (fun h => ?_) (fun h => ?_)
                  · refine AOps.simW okL rfl rfl rfl rfl ?_
                    refine AOps.simW okL rfl rfl rfl rfl ?_
                    refine AOps.sim okL rfl rfl ?_
                    refine AOps.nil ?_
                    refine seqQ_n ?_
                    refine AWp.condCase rfl (fun h => ?_) (fun h => ?_)
                    · refine AWp.seq ?_
                      refine AWp.region ?_
                      refine AOps.sim okL rfl rfl ?_
                      refine AOps.nil ?_
                      refine AWp.ret ?_
                      first | (refine hR _ _ _ (by intro h; cases h) ?_; refine bodyQ_r (by first | exact ResOk.one rfl rfl | exact ResOk.two rfl rfl rfl | exact ResOk.three rfl rfl rfl rfl | exact ResOk.none rfl) ?_; clear K hR IH; rw [nodeV_eq]; simp_all [nodeB]; done) | (refine K () ?_ 0 _ _ ⟨rfl, rfl, rfl, trivial⟩ rfl; clear K hR IH; simp_all [nodeB]; done)
                    · refine AWp.skip ?_
                      first | (refine hR _ _ _ (by intro h; cases h) ?_; refine bodyQ_r (by first | exact ResOk.one rfl rfl | exact ResOk.two rfl rfl rfl | exact ResOk.three rfl rfl rfl rfl | exact ResOk.none rfl) ?_; clear K hR IH; rw [nodeV_eq]; simp_all [nodeB]; done) | (refine K () ?_ 0 _ _ ⟨rfl, rfl, rfl, trivial⟩ rfl; clear K hR IH; simp_all [nodeB]; done)
                  · refine AOps.unw rfl rfl rfl rfl ?_
                    refine AOps.simW okL rfl rfl rfl rfl ?_
                    refine AOps.sim okL rfl rfl ?_
                    refine AOps.nil ?_
                    refine AWp.condF rfl ?_
                    refine AWp.skip ?_
                    first | (refine hR _ _ _ (by intro h; cases h) ?_; refine bodyQ_r (by first | exact ResOk.one rfl rfl | exact ResOk.two rfl rfl rfl | exact ResOk.three rfl rfl rfl rfl | exact ResOk.none rfl) ?_; clear K hR IH; rw [nodeV_eq]; simp_all [nodeB]; done) | (refine K () ?_ 0 _ _ ⟨rfl, rfl, rfl, trivial⟩ rfl; clear K hR IH; simp_all [nodeB]; done)
              · exfalso; clear K hR IH; simp_all; done
      · refine AOps.unw rfl rfl rfl rfl ?_
        refine AOps.unw rfl rfl rfl rfl ?_
        refine AOps.unw rfl rfl rfl rfl ?_
        refine AOps.sim okL rfl rfl ?_
        refine AOps.sim okL rfl rfl ?_
        refine AOps.simW okL rfl rfl rfl rfl ?_
        refine AOps.wtd rfl rfl rfl ?_; refine AOp.load okL rfl (.head _) rfl rfl rfl rfl ?_
        refine AOps.simW okL rfl rfl rfl rfl ?_
        refine AOps.simW okL rfl rfl rfl rfl ?_
        refine AOps.guardCase rfl rfl rfl (fun h => ?_) (fun h => ?_)
        · refine AOps.simW okL rfl rfl rfl rfl ?_
          refine AOps.wtd rfl rfl rfl ?_; refine AOp.load okL rfl (.head _) rfl rfl rfl rfl ?_
          refine AOps.simW okL rfl rfl rfl rfl ?_
          refine AOps.simW okL rfl rfl rfl rfl ?_
          refine AOps.simW okL rfl rfl rfl rfl ?_
          refine AOps.guardCase rfl rfl rfl (fun h => ?_) (fun h => ?_)
          · refine AOps.simW okL rfl rfl rfl rfl ?_
            refine AOps.wtd rfl rfl rfl ?_; refine AOp.load okL rfl (.head _) rfl rfl rfl rfl ?_
            refine AOps.wtd rfl rfl rfl ?_; focus (refine AOp.callP (v := ?_) rfl rfl rfl ?_ ?_; rotate_left; exact (refIsName_tr _))
            refine AOps.simW okL rfl rfl rfl rfl ?_
            refine AOps.simW okL rfl rfl rfl rfl ?_
            refine AOps.sim okL rfl rfl ?_
            refine AOps.sim okL rfl rfl ?_
            refine AOps.guardCase rfl rfl rfl (fun h => ?_) (fun h => ?_)
            · refine AOps.unw rfl rfl rfl rfl ?_
              refine AOps.unw rfl rfl rfl rfl ?_
              refine AOps.unw rfl rfl rfl rfl ?_
              refine AOps.unw rfl rfl rfl rfl ?_
              refine AOps.unwU rfl rfl rfl ?_
              refine AOps.unwU rfl rfl rfl ?_
              refine AOps.unwU rfl rfl rfl ?_
              refine AOps.unwU rfl rfl rfl ?_
              refine AOps.unw rfl rfl rfl rfl ?_
              refine AOps.sim okL rfl rfl ?_
              refine AOps.sim okL rfl rfl ?_
              refine AOps.unw rfl rfl rfl rfl ?_
              refine AOps.unw rfl rfl rfl rfl ?_
              refine AOps.unw rfl rfl rfl rfl ?_
              refine AOps.unw rfl rfl rfl rfl ?_
              refine AOps.unwU rfl rfl rfl ?_
              refine AOps.unwU rfl rfl rfl ?_
              refine AOps.unwU rfl rfl rfl ?_
              refine AOps.unwU rfl rfl rfl ?_
              refine AOps.unw rfl rfl rfl rfl ?_
              refine AOps.sim okL rfl rfl ?_
              refine AOps.sim okL rfl rfl ?_
              refine AOps.unw rfl rfl rfl rfl ?_
              refine AOps.unw rfl rfl rfl rfl ?_
              refine AOps.unw rfl rfl rfl rfl ?_
              refine AOps.unw rfl rfl rfl rfl ?_
              refine AOps.unwU rfl rfl rfl ?_
              refine AOps.unw rfl rfl rfl rfl ?_
              refine AOps.sim okL rfl rfl ?_
              refine AOps.nil ?_
              refine AWp.condT rfl ?_
              refine AWp.seq ?_
              refine AWp.region ?_
              refine AOps.sim okL rfl rfl ?_
              refine AOps.nil ?_
              refine AWp.ret ?_
              first | (refine hR _ _ _ (by intro h; cases h) ?_; refine bodyQ_r (by first | exact ResOk.one rfl rfl | exact ResOk.two rfl rfl rfl | exact ResOk.three rfl rfl rfl rfl | exact ResOk.none rfl) ?_; clear K hR IH; rw [nodeV_eq]; simp_all [nodeB]; done) | (refine K () ?_ 0 _ _ ⟨rfl, rfl, rfl, trivial⟩ rfl; clear K hR IH; simp_all [nodeB]; done)
            · refine AOps.simW okL rfl rfl rfl rfl ?_
              refine AOps.wtd rfl rfl rfl ?_; refine AOp.load okL rfl (.head _) rfl rfl rfl rfl ?_
              refine AOps.simW okL rfl rfl rfl rfl ?_
              refine AOps.simW okL rfl rfl rfl rfl ?_
              refine AOps.guardCase rfl rfl rfl (fun h => ?_) (fun h => ?_)
              · exfalso; clear K hR IH; simp_all; done
              · refine AOps.unw rfl rfl rfl rfl ?_
                refine AOps.unw rfl rfl rfl rfl ?_
                refine AOps.unw rfl rfl rfl rfl ?_
                refine AOps.unw rfl rfl rfl rfl ?_
                refine AOps.simW okL rfl rfl rfl rfl ?_
                refine AOps.sim okL rfl rfl ?_
                refine AOps.sim okL rfl rfl ?_
                refine AOps.simW okL rfl rfl rfl rfl ?_
                refine AOps.wtd rfl rfl rfl ?_; refine AOp.load okL rfl (.head _) rfl rfl rfl rfl ?_
                refine AOps.simW okL rfl rfl rfl rfl ?_
                refine AOps.simW okL rfl rfl rfl rfl ?_
                refine AOps.guardCase rfl rfl rfl (fun h => ?_) (fun h => ?_)
                · refine AOps.simW okL rfl rfl rfl rfl ?_
                  refine AOps.wtd rfl rfl rfl ?_; refine AOp.load okL rfl (.head _) rfl rfl rfl rfl ?_
                  refine AOps.simW okL rfl rfl rfl rfl ?_
                  refine AOps.simW okL rfl rfl rfl rfl ?_
                  refine AOps.simW okL rfl rfl rfl rfl ?_
                  refine AOps.sim okL rfl rfl ?_
                  refine AOps.sim okL rfl rfl ?_
                  refine AOps.guardCase rfl rfl rfl (fun h => ?_) (fun h => ?_)
                  · refine AOps.unw rfl rfl rfl rfl ?_
                    refine AOps.unw rfl rfl rfl rfl ?_
                    refine AOps.unw rfl rfl rfl rfl ?_
                    refine AOps.unw rfl rfl rfl rfl ?_
                    refine AOps.unwU rfl rfl rfl ?_
                    refine AOps.unw rfl rfl rfl rfl ?_
                    refine AOps.sim okL rfl rfl ?_
                    refine AOps.nil ?_
                    refine AWp.condT rfl ?_
                    refine AWp.seq ?_
                    refine AWp.region ?_
                    refine AOps.sim okL rfl rfl ?_
                    refine AOps.nil ?_
                    refine AWp.ret ?_
                    first | (refine hR _ _ _ (by intro h; cases h) ?_; refine bodyQ_r (by first | exact ResOk.one rfl rfl | exact ResOk.two rfl rfl rfl | exact ResOk.three rfl rfl rfl rfl | exact ResOk.none rfl) ?_; clear K hR IH; rw [nodeV_eq]; simp_all [nodeB]; done) | (refine K () ?_ 0 _ _ ⟨rfl, rfl, rfl, trivial⟩ rfl; clear K hR IH; simp_all [nodeB]; done)
                  · refine AOps.simW okL rfl rfl rfl rfl ?_
                    refine AOps.wtd rfl rfl rfl ?_; refine AOp.load okL rfl (.head _) rfl rfl rfl rfl ?_
                    refine AOps.simW okL rfl rfl rfl rfl ?_
                    refine AOps.simW okL rfl rfl rfl rfl ?_
                    refine AOps.guardCase rfl rfl rfl (fun h => ?_) (fun h => ?_)
                    · exfalso; clear K hR IH; simp_all; done
                    · refine AOps.unw rfl rfl rfl rfl ?_
                      refine AOps.simW okL rfl rfl rfl rfl ?_
                      refine AOps.sim okL rfl rfl ?_
                      refine AOps.nil ?_
                      refine AWp.condF rfl ?_
                      refine AWp.skip ?_
                      first | (refine hR _ _ _ (by intro h; cases h) ?_; refine bodyQ_r (by first | exact ResOk.one rfl rfl | exact ResOk.two rfl rfl rfl | exact ResOk.three rfl rfl rfl rfl | exact ResOk.none rfl) ?_; clear K hR IH; rw [nodeV_eq]; simp_all [nodeB]; done) | (refine K () ?_ 0 _ _ ⟨rfl, rfl, rfl, trivial⟩ rfl; clear K hR IH; simp_all [nodeB]; done)
                · exfalso; clear K hR IH; simp_all; done
          · refine AOps.unw rfl rfl rfl rfl ?_
            refine AOps.unw rfl rfl rfl rfl ?_
            refine AOps.unw rfl rfl rfl rfl ?_
            refine AOps.unw rfl rfl rfl rfl ?_
            refine AOps.simW okL rfl rfl rfl rfl ?_
            refine AOps.sim okL rfl rfl ?_
            refine AOps.sim okL rfl rfl ?_
            refine AOps.simW okL rfl rfl rfl rfl ?_
            refine AOps.wtd rfl rfl rfl ?_; refine AOp.load okL rfl (.head _) rfl rfl rfl rfl ?_
            refine AOps.simW okL rfl rfl rfl rfl ?_
            refine AOps.simW okL rfl rfl rfl rfl ?_
            refine AOps.guardCase rfl rfl rfl (fun h => ?_) (fun h => ?_)
            · exfalso; clear K hR IH; simp_all; done
            · refine AOps.unw rfl rfl rfl rfl ?_
              refine AOps.unw rfl rfl rfl rfl ?_
              refine AOps.unw rfl rfl rfl rfl ?_
              refine AOps.unw rfl rfl rfl rfl ?_
              refine AOps.simW okL rfl rfl rfl rfl ?_
              refine AOps.sim okL rfl rfl ?_
              refine AOps.sim okL rfl rfl ?_
              refine AOps.simW okL rfl rfl rfl rfl ?_
              refine AOps.wtd rfl rfl rfl ?_; refine AOp.load okL rfl (.head _) rfl rfl rfl rfl ?_
              refine AOps.simW okL rfl rfl rfl rfl ?_
              refine AOps.simW okL rfl rfl rfl rfl ?_
              refine AOps.guardCase rfl rfl rfl (fun h => ?_) (fun h => ?_)
              · refine AOps.simW okL rfl rfl rfl rfl ?_
                refine AOps.wtd rfl rfl rfl ?_; refine AOp.load okL rfl (.head _) rfl rfl rfl rfl ?_
                refine AOps.simW okL rfl rfl rfl rfl ?_
                refine AOps.simW okL rfl rfl rfl rfl ?_
                refine AOps.simW okL rfl rfl rfl rfl ?_
                refine AOps.sim okL rfl rfl ?_
                refine AOps.sim okL rfl rfl ?_
                refine AOps.guardCase rfl rfl rfl (fun h => ?_) (fun h => ?_)
                · refine AOps.unw rfl rfl rfl rfl ?_
                  refine AOps.unw rfl rfl rfl rfl ?_
                  refine AOps.unw rfl rfl rfl rfl ?_
                  refine AOps.unw rfl rfl rfl rfl ?_
                  refine AOps.unwU rfl rfl rfl ?_
                  refine AOps.unw rfl rfl rfl rfl ?_
                  refine AOps.sim okL rfl rfl ?_
                  refine AOps.nil ?_
                  refine AWp.condT rfl ?_
                  refine AWp.seq ?_
                  refine AWp.region ?_
                  refine AOps.sim okL rfl rfl ?_
                  refine AOps.nil ?_
                  refine AWp.ret ?_
                  first | (refine hR _ _ _ (by intro h; cases h) ?_; refine bodyQ_r (by first | exact ResOk.one rfl rfl | exact ResOk.two rfl rfl rfl | exact ResOk.three rfl rfl rfl rfl | exact ResOk.none rfl) ?_; clear K hR IH; rw [nodeV_eq]; simp_all [nodeB]; done) | (refine K () ?_ 0 _ _ ⟨rfl, rfl, rfl, trivial⟩ rfl; clear K hR IH; simp_all [nodeB]; done)
                · refine AOps.simW okL rfl rfl rfl rfl ?_
                  refine AOps.wtd rfl rfl rfl ?_; refine AOp.load okL rfl (.head _) rfl rfl rfl rfl ?_
                  refine AOps.simW okL rfl rfl rfl rfl ?_
                  refine AOps.simW okL rfl rfl rfl rfl ?_
                  refine AOps.guardCase rfl rfl rfl (fun h => ?_) (fun h => ?_)
                  · exfalso; clear K hR IH; simp_all; done
                  · refine AOps.unw rfl rfl rfl rfl ?_
                    refine AOps.simW okL rfl rfl rfl rfl ?_
                    refine AOps.sim okL rfl rfl ?_
                    refine AOps.nil ?_
                    refine AWp.condF rfl ?_
                    refine AWp.skip ?_
                    first | (refine hR _ _ _ (by intro h; cases h) ?_; refine bodyQ_r (by first | exact ResOk.one rfl rfl | exact ResOk.two rfl rfl rfl | exact ResOk.three rfl rfl rfl rfl | exact ResOk.none rfl) ?_; clear K hR IH; rw [nodeV_eq]; simp_all [nodeB]; done) | (refine K () ?_ 0 _ _ ⟨rfl, rfl, rfl, trivial⟩ rfl; clear K hR IH; simp_all [nodeB]; done)
              · exfalso; clear K hR IH; simp_all; done
        · exfalso; clear K hR IH; simp_all; done
  · refine AWp.block ?_
    refine AWp.seq ?_
    refine AWp.seq ?_
    refine AWp.region ?_
    refine AOps.sim okL rfl rfl ?_
    refine AOps.pln ?_; refine AOp.load okL rfl (.head _) rfl rfl rfl rfl ?_
    refine AOps.pln ?_; focus (refine AOp.callP (v := ?_) rfl rfl rfl ?_ ?_; rotate_left; exact (refWithin_tr _ _ _))
    refine AOps.sim okL rfl rfl ?_
    refine AOps.sim okL rfl rfl ?_
    refine AOps.nil ?_
    refine seqQ_n ?_
    refine AWp.condCase rfl (fun h => ?_) (fun h => ?_)
    · refine AWp.skip ?_
      refine AWp.condT rfl ?_
      refine AWp.seq ?_
      refine AWp.region ?_
      refine AOps.sim okL rfl rfl ?_
      refine AOps.nil ?_
      refine AWp.ret ?_
      refine blockQ_r ?_
      first | (refine hR _ _ _ (by intro h; cases h) ?_; refine bodyQ_r (by first | exact ResOk.one rfl rfl | exact ResOk.two rfl rfl rfl | exact ResOk.three rfl rfl rfl rfl | exact ResOk.none rfl) ?_; clear K hR IH; rw [nodeV_eq]; simp_all [nodeA]; done) | (refine K () ?_ 0 _ _ ⟨rfl, rfl, rfl, trivial⟩ rfl; clear K hR IH; simp_all [nodeA]; done)
    · refine AWp.seq ?_
      refine AWp.region ?_
      refine AOps.sim okL rfl rfl ?_
      refine AOps.pln ?_; refine AOp.load okL rfl (.head _) rfl rfl rfl rfl ?_
      refine AOps.sim okL rfl rfl ?_
      refine AOps.sim okL rfl rfl ?_
      refine AOps.sim okL rfl rfl ?_
      refine AOps.pln ?_; focus (refine AOp.callP (v := ?_) rfl rfl rfl ?_ ?_; rotate_left; exact (refWithin_tr _ _ _))
      refine AOps.sim okL rfl rfl ?_
      refine AOps.sim okL rfl rfl ?_
      refine AOps.nil ?_
      refine seqQ_n ?_
      refine AWp.condCase rfl (fun h => ?_) (fun h => ?_)
      · refine AWp.skip ?_
        refine AWp.condT rfl ?_
        refine AWp.seq ?_
        refine AWp.region ?_
        refine AOps.sim okL rfl rfl ?_
        refine AOps.nil ?_
        refine AWp.ret ?_
        refine blockQ_r ?_
        first | (refine hR _ _ _ (by intro h; cases h) ?_; refine bodyQ_r (by first | exact ResOk.one rfl rfl | exact ResOk.two rfl rfl rfl | exact ResOk.three rfl rfl rfl rfl | exact ResOk.none rfl) ?_; clear K hR IH; rw [nodeV_eq]; simp_all [nodeA]; done) | (refine K () ?_ 0 _ _ ⟨rfl, rfl, rfl, trivial⟩ rfl; clear K hR IH; simp_all [nodeA]; done)
      · refine AWp.region ?_
        refine AOps.pln ?_; refine AOp.load okL rfl (.head _) rfl rfl rfl rfl ?_
        refine AOps.sim okL rfl rfl ?_
        refine AOps.pln ?_; focus (refine AOp.callP (v := ?_) rfl rfl rfl ?_ ?_; rotate_left; exact (isNumber_tr _ _))
        refine AOps.sim okL rfl rfl ?_
        refine AOps.sim okL rfl rfl ?_
        refine AOps.nil ?_
        refine seqQ_n ?_
        refine AWp.condCase rfl (fun h => ?_) (fun h => ?_)
        · refine AWp.seq ?_
          refine AWp.region ?_
          refine AOps.sim okL rfl rfl ?_
          refine AOps.nil ?_
          refine AWp.ret ?_
          refine blockQ_r ?_
          first | (refine hR _ _ _ (by intro h; cases h) ?_; refine bodyQ_r (by first | exact ResOk.one rfl rfl | exact ResOk.two rfl rfl rfl | exact ResOk.three rfl rfl rfl rfl | exact ResOk.none rfl) ?_; clear K hR IH; rw [nodeV_eq]; simp_all [nodeA]; done) | (refine K () ?_ 0 _ _ ⟨rfl, rfl, rfl, trivial⟩ rfl; clear K hR IH; simp_all [nodeA]; done)
        · refine AWp.seq ?_
          refine AWp.region ?_
          refine AOps.sim okL rfl rfl ?_
          refine AOps.pln ?_; refine AOp.load okL rfl (.head _) rfl rfl rfl rfl ?_
          refine AOps.sim okL rfl rfl ?_
          refine AOps.sim okL rfl rfl ?_
          refine AOps.nil ?_
          refine seqQ_n ?_
          refine AWp.condCase rfl (fun h => ?_) (fun h => ?_)
          · refine AWp.seq ?_
            refine AWp.region ?_
            refine AOps.sim okL rfl rfl ?_
            refine AOps.pln ?_; refine AOp.load okL rfl (.head _) rfl rfl rfl rfl ?_
            refine AOps.pln ?_; focus (refine AOp.callP (v := ?_) rfl rfl rfl ?_ ?_; rotate_left; exact (refWithin_tr _ _ _))
            refine AOps.sim okL rfl rfl ?_
            refine AOps.sim okL rfl rfl ?_
            refine AOps.guardCase rfl rfl rfl (fun h => ?_) (fun h => ?_)
            · refine AOps.unw rfl rfl rfl rfl ?_
              refine AOps.unw rfl rfl rfl rfl ?_
              refine AOps.unw rfl rfl rfl rfl ?_
              refine AOps.unw rfl rfl rfl rfl ?_
              refine AOps.unwU rfl rfl rfl ?_
              refine AOps.unwU rfl rfl rfl ?_
              refine AOps.unwU rfl rfl rfl ?_
              refine AOps.unwU rfl rfl rfl ?_
              refine AOps.unwU rfl rfl rfl ?_
              refine AOps.unwU rfl rfl rfl ?_
              refine AOps.unwU rfl rfl rfl ?_
              refine AOps.unw rfl rfl rfl rfl ?_
              refine AOps.sim okL rfl rfl ?_
              refine AOps.nil ?_
              refine AWp.condT rfl ?_
              refine AWp.seq ?_
              refine AWp.region ?_
              refine AOps.sim okL rfl rfl ?_
              refine AOps.nil ?_
              refine AWp.ret ?_
              refine blockQ_r ?_
              first | (refine hR _ _ _ (by intro h; cases h) ?_; refine bodyQ_r (by first | exact ResOk.one rfl rfl | exact ResOk.two rfl rfl rfl | exact ResOk.three rfl rfl rfl rfl | exact ResOk.none rfl) ?_; clear K hR IH; rw [nodeV_eq]; simp_all [nodeA]; done) | (refine K () ?_ 0 _ _ ⟨rfl, rfl, rfl, trivial⟩ rfl; clear K hR IH; simp_all [nodeA]; done)
            · refine AOps.simW okL rfl rfl rfl rfl ?_
              refine AOps.wtd rfl rfl rfl ?_; refine AOp.load okL rfl (.head _) rfl rfl rfl rfl ?_
              refine AOps.simW okL rfl rfl rfl rfl ?_
              refine AOps.simW okL rfl rfl rfl rfl ?_
              refine AOps.guardCase rfl rfl rfl (fun h => ?_) (fun h => ?_)
              · refine AOps.simW okL rfl rfl rfl rfl ?_
                refine AOps.wtd rfl rfl rfl ?_; refine AOp.load okL rfl (.head _) rfl rfl rfl rfl ?_
                refine AOps.simW okL rfl rfl rfl rfl ?_
                refine AOps.wtd rfl rfl rfl ?_; refine AOp.load okL rfl (.head _) rfl rfl rfl rfl ?_
                refine AOps.simW okL rfl rfl rfl rfl ?_
                refine AOps.wtd rfl rfl rfl ?_; focus (refine AOp.callP (v := ?_) rfl rfl rfl ?_ ?_; rotate_left; exact (refWithin_tr _ _ _))
                refine AOps.simW okL rfl rfl rfl rfl ?_
                refine AOps.simW okL rfl rfl rfl rfl ?_
                refine AOps.sim okL rfl rfl ?_
                refine AOps.nil ?_
                refine seqQ_n ?_
                refine AWp.condCase rfl (fun h => ?_) (fun h => ?_)
                · refine AWp.seq ?_
                  refine AWp.region ?_
                  refine AOps.sim okL rfl rfl ?_
                  refine AOps.nil ?_
                  refine AWp.ret ?_
                  refine blockQ_r ?_
                  first | (refine hR _ _ _ (by intro h; cases h) ?_; refine bodyQ_r (by first | exact ResOk.one rfl rfl | exact ResOk.two rfl rfl rfl | exact ResOk.three rfl rfl rfl rfl | exact ResOk.none rfl) ?_; clear K hR IH; rw [nodeV_eq]; simp_all [nodeA]; done) | (refine K () ?_ 0 _ _ ⟨rfl, rfl, rfl, trivial⟩ rfl; clear K hR IH; simp_all [nodeA]; done)
                · refine AWp.skip ?_
                  refine blockQ_n ?_
                  first | (refine hR _ _ _ (by intro h; cases h) ?_; refine bodyQ_r (by first | exact ResOk.one rfl rfl | exact ResOk.two rfl rfl rfl | exact ResOk.three rfl rfl rfl rfl | exact ResOk.none rfl) ?_; clear K hR IH; rw [nodeV_eq]; simp_all [nodeA]; done) | (refine K () ?_ 0 _ _ ⟨rfl, rfl, rfl, trivial⟩ rfl; clear K hR IH; simp_all [nodeA]; done)
              · refine AOps.unw rfl rfl rfl rfl ?_
                refine AOps.unw rfl rfl rfl rfl ?_
                refine AOps.unw rfl rfl rfl rfl ?_
                refine AOps.unw rfl rfl rfl rfl ?_
                refine AOps.unw rfl rfl rfl rfl ?_
                refine AOps.unw rfl rfl rfl rfl ?_
                refine AOps.unw rfl rfl rfl rfl ?_
                refine AOps.simW okL rfl rfl rfl rfl ?_
                refine AOps.sim okL rfl rfl ?_
                refine AOps.nil ?_
                refine AWp.condF rfl ?_
                refine AWp.skip ?_
                refine blockQ_n ?_
                first | (refine hR _ _ _ (by intro h; cases h) ?_; refine bodyQ_r (by first | exact ResOk.one rfl rfl | exact ResOk.two rfl rfl rfl | exact ResOk.three rfl rfl rfl rfl | exact ResOk.none rfl) ?_; clear K hR IH; rw [nodeV_eq]; simp_all [nodeA]; done) | (refine K () ?_ 0 _ _ ⟨rfl, rfl, rfl, trivial⟩ rfl; clear K hR IH; simp_all [nodeA]; done)
          · refine AWp.seq ?_
            refine AWp.region ?_
            refine AOps.sim okL rfl rfl ?_
            refine AOps.pln ?_; refine AOp.load okL rfl (.head _) rfl rfl rfl rfl ?_
            refine AOps.sim okL rfl rfl ?_
            refine AOps.sim okL rfl rfl ?_
            refine AOps.guardCase rfl rfl rfl (fun h => ?_) (fun h => ?_)
            · refine AOps.unw rfl rfl rfl rfl ?_
              refine AOps.unw rfl rfl rfl rfl ?_
              refine AOps.unw rfl rfl rfl rfl ?_
              refine AOps.sim okL rfl rfl ?_
              refine AOps.sim okL rfl rfl ?_
              refine AOps.nil ?_
              refine AWp.condT rfl ?_
              refine AWp.seq ?_
              refine AWp.region ?_
              refine AOps.sim okL rfl rfl ?_
              refine AOps.nil ?_
              refine AWp.ret ?_
              refine blockQ_r ?_
              first | (refine hR _ _ _ (by intro h; cases h) ?_; refine bodyQ_r (by first | exact ResOk.one rfl rfl | exact ResOk.two rfl rfl rfl | exact ResOk.three rfl rfl rfl rfl | exact ResOk.none rfl) ?_; clear K hR IH; rw [nodeV_eq]; simp_all [nodeA]; done) | (refine K () ?_ 0 _ _ ⟨rfl, rfl, rfl, trivial⟩ rfl; clear K hR IH; simp_all [nodeA]; done)
            · refine AOps.simW okL rfl rfl rfl rfl ?_
              refine AOps.wtd rfl rfl rfl ?_; refine AOp.load okL rfl (.head _) rfl rfl rfl rfl ?_
              refine AOps.simW okL rfl rfl rfl rfl ?_
              refine AOps.sim okL rfl rfl ?_
              refine AOps.sim okL rfl rfl ?_
              refine AOps.nil ?_
              refine seqQ_n ?_
              refine AWp.condCase rfl (fun h => ?_) (fun h => ?_)
              · refine AWp.seq ?_
                refine AWp.region ?_
                refine AOps.sim okL rfl rfl ?_
                refine AOps.nil ?_
                refine AWp.ret ?_
                refine blockQ_r ?_
                first | (refine hR _ _ _ (by intro h; cases h) ?_; refine bodyQ_r (by first | exact ResOk.one rfl rfl | exact ResOk.two rfl rfl rfl | exact ResOk.three rfl rfl rfl rfl | exact ResOk.none rfl) ?_; clear K hR IH; rw [nodeV_eq]; simp_all [nodeA]; done) | (refine K () ?_ 0 _ _ ⟨rfl, rfl, rfl, trivial⟩ rfl; clear K hR IH; simp_all [nodeA]; done)
              · refine AWp.skip ?_
                refine blockQ_n ?_
                first | (refine hR _ _ _ (by intro h; cases h) ?_; refine bodyQ_r (by first | exact ResOk.one rfl rfl | exact ResOk.two rfl rfl rfl | exact ResOk.three rfl rfl rfl rfl | exact ResOk.none rfl) ?_; clear K hR IH; rw [nodeV_eq]; simp_all [nodeA]; done) | (refine K () ?_ 0 _ _ ⟨rfl, rfl, rfl, trivial⟩ rfl; clear K hR IH; simp_all [nodeA]; done)
end Go.Proofs.YtdeenhdmmeahgaaGreatDoor

namespace Go.Proofs.YtdeenhdmmeahgaaGreatDoor
open Go Go.Abs
set_option linter.unusedVariables false
set_option maxRecDepth 100000
set_option linter.unusedSimpArgs false

theorem refVal_tr (x : Pat) (hb : nodesN x ≤ 1000000) : PTr Tryz.prog 25 [.agg x.C] (i64 (valP x)) := by
  rw [valid_eq x hb]; exact refValidate_tr fixM (refNode_tr fixM isFixed_tr) x hb
theorem refSimple_tr (x : Pat) (hb : nodesN x ≤ 1000000) : PTr Tryz.prog 20 [.agg x.C] (.tup [.bool (smpV x), i64 (valP x)]) := by
  refine PTr.of_body (N := 12) Tryz.func20 rfl rfl rfl ?_
  have hv := refVal_tr x hb
  refine AWp.seq ?_
  refine AWp.region ?_
  refine AOps.pln ?_; refine AOp.box rfl rfl (isVal_or rfl) rfl rfl ?_; intro _ _
  refine AOps.sim okL rfl rfl ?_
  refine AOps.sim okL rfl rfl ?_
  refine AOps.nil ?_
  refine AWp.seq ?_
  refine AWp.region ?_
  refine AOps.pln ?_; refine AOp.load okL rfl (.head _) rfl rfl rfl rfl ?_
  refine AOps.pln ?_; focus (refine AOp.callP (v := ?_) rfl rfl rfl ?_ ?_; rotate_left; exact (hv))
  refine AOps.sim okL rfl rfl ?_
  refine AOps.nil ?_
  refine AWp.seq ?_
  refine AWp.seq ?_
  refine AWp.region ?_
  refine AOps.sim okL rfl rfl ?_
  refine AOps.sim okL rfl rfl ?_
  refine AOps.nil ?_
  refine seqQ_n ?_
  refine AWp.condCase rfl (fun h => ?_) (fun h => ?_)
  · refine AWp.seq ?_
    refine AWp.region ?_
    refine AOps.sim okL rfl rfl ?_
    refine AOps.sim okL rfl rfl ?_
    refine AOps.sim okL rfl rfl ?_
    refine AOps.nil ?_
    refine AWp.ret ?_
    refine seqQ_r ?_
    (refine bodyQ_r (by first | exact ResOk.one rfl rfl | exact ResOk.two rfl rfl rfl | exact ResOk.three rfl rfl rfl rfl | exact ResOk.none rfl) ?_; simp_all [smpV])
  · refine AWp.skip ?_
    refine AWp.seq ?_
    refine AWp.region ?_
    refine AOps.pln ?_; refine AOp.load okL rfl (.head _) rfl rfl rfl rfl ?_
    refine AOps.pln ?_; focus (refine AOp.callP (v := ?_) rfl rfl rfl ?_ ?_; rotate_left; exact (isSimple_tr x))
    refine AOps.sim okL rfl rfl ?_
    refine AOps.sim okL rfl rfl ?_
    refine AOps.nil ?_
    refine AWp.ret ?_
    (refine bodyQ_r (by first | exact ResOk.one rfl rfl | exact ResOk.two rfl rfl rfl | exact ResOk.three rfl rfl rfl rfl | exact ResOk.none rfl) ?_; simp_all [smpV])
theorem refUnrolled_tr (x : Pat) (hb : nodesN x ≤ 1000000) : PTr Tryz.prog 10 [.agg x.C] (.tup [i64 (unV x (unrP 1099511627776 x)), i64 (unE x (unrP 1099511627776 x))]) := by
  refine PTr.of_body (N := 25) Tryz.func10 rfl rfl rfl ?_
  have hv := refVal_tr x hb
  have hs := refSimple_tr x hb
  refine AWp.seq ?_
  refine AWp.region ?_
  refine AOps.pln ?_; refine AOp.box rfl rfl (isVal_or rfl) rfl rfl ?_; intro _ _
  refine AOps.sim okL rfl rfl ?_
  refine AOps.sim okL rfl rfl ?_
  refine AOps.nil ?_
  refine AWp.seq ?_
  refine AWp.seq ?_
  refine AWp.region ?_
  refine AOps.pln ?_; refine AOp.load okL rfl (.head _) rfl rfl rfl rfl ?_
  refine AOps.pln ?_; focus (refine AOp.callP (v := ?_) rfl rfl rfl ?_ ?_; rotate_left; exact (hv))
  refine AOps.sim okL rfl rfl ?_
  refine AOps.nil ?_
  refine AWp.seq ?_
  refine AWp.region ?_
  refine AOps.sim okL rfl rfl ?_
  refine AOps.sim okL rfl rfl ?_
  refine AOps.nil ?_
  refine seqQ_n ?_
  refine AWp.condCase rfl (fun h => ?_) (fun h => ?_)
  · refine AWp.seq ?_
    refine AWp.region ?_
    refine AOps.sim okL rfl rfl ?_
    refine AOps.sim okL rfl rfl ?_
    refine AOps.sim okL rfl rfl ?_
    refine AOps.nil ?_
    refine AWp.ret ?_
    refine seqQ_r ?_
    (refine bodyQ_r (by first | exact ResOk.one rfl rfl | exact ResOk.two rfl rfl rfl | exact ResOk.three rfl rfl rfl rfl | exact ResOk.none rfl) ?_; simp_all [smpV, unE, unV])
  · refine AWp.skip ?_
    refine AWp.seq ?_
    refine AWp.seq ?_
    refine AWp.region ?_
    refine AOps.pln ?_; refine AOp.load okL rfl (.head _) rfl rfl rfl rfl ?_
    refine AOps.pln ?_; focus (refine AOp.callP (v := ?_) rfl rfl rfl ?_ ?_; rotate_left; exact (hs))
    refine AOps.sim okL rfl rfl ?_
    refine AOps.sim okL rfl rfl ?_
    refine AOps.sim okL rfl rfl ?_
    refine AOps.sim okL rfl rfl ?_
    refine AOps.sim okL rfl rfl ?_
    refine AOps.nil ?_
    refine AWp.seq ?_
    refine AWp.region ?_
    refine AOps.sim okL rfl rfl ?_
    refine AOps.sim okL rfl rfl ?_
    refine AOps.nil ?_
    refine seqQ_n ?_
    refine AWp.condCase rfl (fun h => ?_) (fun h => ?_)
    · refine AWp.seq ?_
      refine AWp.region ?_
      refine AOps.sim okL rfl rfl ?_
      refine AOps.sim okL rfl rfl ?_
      refine AOps.nil ?_
      refine AWp.ret ?_
      refine seqQ_r ?_
      (refine bodyQ_r (by first | exact ResOk.one rfl rfl | exact ResOk.two rfl rfl rfl | exact ResOk.three rfl rfl rfl rfl | exact ResOk.none rfl) ?_; simp_all [smpV, unE, unV])
    · refine AWp.skip ?_
      refine AWp.seq ?_
      refine AWp.region ?_
      refine AOps.pln ?_; refine AOp.load okL rfl (.head _) rfl rfl rfl rfl ?_
      refine AOps.pln ?_; focus (refine AOp.callP (v := ?_) rfl rfl rfl ?_ ?_; rotate_left; exact (ref15unrolled_tr x))
      refine AOps.sim okL rfl rfl ?_
      refine AOps.nil ?_
      refine AWp.seq ?_
      refine AWp.seq ?_
      refine AWp.region ?_
      refine AOps.sim okL rfl rfl ?_
      refine AOps.sim okL rfl rfl ?_
      refine AOps.nil ?_
      refine seqQ_n ?_
      refine AWp.condCase rfl (fun h => ?_) (fun h => ?_)
      · refine AWp.seq ?_
        refine AWp.region ?_
        refine AOps.sim okL rfl rfl ?_
        refine AOps.sim okL rfl rfl ?_
        refine AOps.nil ?_
        refine AWp.ret ?_
        refine seqQ_r ?_
        (refine bodyQ_r (by first | exact ResOk.one rfl rfl | exact ResOk.two rfl rfl rfl | exact ResOk.three rfl rfl rfl rfl | exact ResOk.none rfl) ?_; simp_all [smpV, unE, unV])
      · refine AWp.skip ?_
        refine AWp.seq ?_
        refine AWp.region ?_
        refine AOps.sim okL rfl rfl ?_
        refine AOps.sim okL rfl rfl ?_
        refine AOps.sim okL rfl rfl ?_
        refine AOps.nil ?_
        refine AWp.ret ?_
        (refine bodyQ_r (by first | exact ResOk.one rfl rfl | exact ResOk.two rfl rfl rfl | exact ResOk.three rfl rfl rfl rfl | exact ResOk.none rfl) ?_; simp_all [smpV, unE, unV])
end Go.Proofs.YtdeenhdmmeahgaaGreatDoor

namespace Go.Proofs.YtdeenhdmmeahgaaGreatDoor
open Go Go.Abs
set_option linter.unusedVariables false
set_option maxRecDepth 100000
set_option linter.unusedSimpArgs false

theorem eqT57 : EqT Tryz.prog 57 := eqTC_ok (by kernel_rfl)
def eqS (x y : Int × Int) : Bool := decide (x.1 = y.1) && (decide (x.2 = y.2) && true)
theorem eqS_iff (x y : Int × Int) : eqS x y = decide (x = y) := by
  cases x; cases y; simp [eqS, Prod.mk.injEq, Bool.decide_and]
def eqSpans : List (Int × Int) → List (Int × Int) → Bool
  | [], [] => true
  | x :: a, y :: b => eqS x y && eqSpans a b
  | _, _ => false
theorem eqSpans_self : ∀ a : List (Int × Int), eqSpans a a = true
  | [] => rfl
  | x :: a => by rw [eqSpans, eqS_iff, eqSpans_self a]; simp
theorem eqSpans_len : ∀ {a b : List (Int × Int)}, a.length ≠ b.length → eqSpans a b = false
  | [], [], h => absurd rfl h
  | [], _ :: _, _ => rfl
  | _ :: _, [], _ => rfl
  | x :: a, y :: b, h => by rw [eqSpans, eqSpans_len (fun e => h (by simp [e]))]; simp
theorem slicesEqual_tr (a b : List (Int × Int)) : PTr Tryz.prog 38 [.ds (a.map spanC), .ds (b.map spanC)] (.bool (eqSpans a b)) := by
  refine PTr.of_body (N := 26) Tryz.func38 rfl rfl rfl ?_
  refine AWp.know (t := 0) rfl (Known.ds _) fun hlen => ?_
  rw [List.length_map] at hlen
  refine AWp.seq ?_
  refine AWp.region ?_
  refine AOps.sim okL rfl rfl ?_
  refine AOps.nil ?_
  refine AWp.seq ?_
  refine AWp.seq ?_
  refine AWp.region ?_
  refine AOps.sim okL rfl rfl ?_
  refine AOps.sim okL rfl rfl ?_
  refine AOps.sim okL rfl rfl ?_
  refine AOps.sim okL rfl rfl ?_
  refine AOps.sim okL rfl rfl ?_
  refine AOps.nil ?_
  refine seqQ_n ?_
  first | refine AWp.condCase rfl (fun h0 => ?_) (fun h0 => ?_) | refine AWp.cond rfl (fun h0 => ?_) (fun h0 => ?_)
  · simp only [List.length_map, bne_iff_ne, ne_eq] at h0
    have e := eqSpans_len (a := a) (b := b) (by omega)
    refine AWp.seq ?_
    refine AWp.region ?_
    refine AOps.sim okL rfl rfl ?_
    refine AOps.nil ?_
    refine AWp.ret ?_
    refine seqQ_r ?_
    refine bodyQ_r (by first | exact ResOk.one rfl rfl | exact ResOk.two rfl rfl rfl | exact ResOk.three rfl rfl rfl rfl | exact ResOk.none rfl) ?_
    rw [e]
  · simp only [List.length_map, bne_eq_false_iff_eq] at h0
    have h0 : a.length = b.length := by omega
    refine AWp.skip ?_
    refine AWp.seq ?_
    refine AWp.seq ?_
    refine AWp.region ?_
    refine AOps.sim okL rfl rfl ?_
    refine AOps.sim okL rfl rfl ?_
    refine AOps.sim okL rfl rfl ?_
    refine AOps.nil ?_
    refine AWp.block ?_
    refine AWp.loopM (α := Nat) (fun k => a.length - k) (fun k => [(0, .ds (a.map spanC)), (1, .ds (b.map spanC)), (12, i64 (a.map spanC).length), (13, i64 k)]) (fun _ => _)
      (fun k => k ≤ a.length ∧ eqSpans (a.drop k) (b.drop k) = eqSpans a b) 0 ⟨Nat.zero_le _, rfl⟩ ?_ (List.Perm.refl _) ?_
    · simp only [AllIn]
      refine ⟨rfl, rfl, rfl, rfl, trivial⟩
    rintro k ⟨hk, hm⟩ ih
    refine AWp.seq ?_
    refine AWp.region ?_
    refine AOps.sim okL rfl rfl ?_
    refine AOps.nil ?_
    refine AWp.seq ?_
    first | refine AWp.condCase rfl (fun h => ?_) (fun h => ?_) | refine AWp.cond rfl (fun h => ?_) (fun h => ?_)
    · have h := of_decide_eq_true h
      simp only [List.length_map] at h
      obtain ⟨x, hx⟩ : ∃ x, a[k]? = some x := ⟨a[k], by simp [show k < a.length by omega]⟩
      obtain ⟨y, hy⟩ : ∃ y, b[k]? = some y := ⟨b[k]'(by omega), by simp [show k < b.length by omega]⟩
      rw [drop_get hx, drop_get hy, eqSpans] at hm
      have nx := nxt (k := k) (n := a.length) (by omega) hlen
      refine AWp.skip ?_
      refine AWp.seq ?_
      refine AWp.block ?_
      refine AWp.seq ?_
      refine AWp.region ?_
      refine AOps.sim okL rfl rfl ?_
      refine AOps.sim okL rfl rfl ?_
      refine AOps.nil ?_
      refine AWp.seq ?_
      refine AWp.drawn okL hmix (by kernel_rfl) ?_
      refine Pl.pure rfl rfl ?_
      refine Pl.pure rfl rfl ?_
      refine Pl.pure rfl (sOp_idxD rfl rfl rfl rfl rfl (by omega) (getS hx) rfl) ?_
      refine Pl.pure rfl rfl ?_
      refine Pl.pure rfl rfl ?_
      refine Pl.pure rfl rfl ?_
      refine Pl.pure rfl (sOp_idxD rfl rfl rfl rfl rfl (by omega) (getS hy) rfl) ?_
      refine Pl.pure rfl rfl ?_
      refine Pl.eqStruct eqT57 rfl rfl rfl rfl rfl rfl rfl (b := eqS x y) rfl rfl ?_
      refine Pl.nil ?_
      refine seqQ_n ?_
      first | refine AWp.condCase rfl (fun h2 => ?_) (fun h2 => ?_) | refine AWp.cond rfl (fun h2 => ?_) (fun h2 => ?_)
      · simp only [Bool.not_eq_true'] at h2
        refine AWp.seq ?_
        refine AWp.region ?_
        refine AOps.sim okL rfl rfl ?_
        refine AOps.nil ?_
        refine AWp.ret ?_
        refine blockQ_r ?_
        refine seqQ_r ?_
        refine seqQ_r ?_
        refine blockQ_r ?_
        refine seqQ_r ?_
        refine bodyQ_r (by first | exact ResOk.one rfl rfl | exact ResOk.two rfl rfl rfl | exact ResOk.three rfl rfl rfl rfl | exact ResOk.none rfl) ?_
        rw [← hm, h2]; rfl
      · simp only [Bool.not_eq_false'] at h2
        rw [h2, Bool.true_and] at hm
        refine AWp.skip ?_
        refine AWp.region ?_
        refine AOps.sim okL rfl rfl ?_
        refine AOps.sim okL rfl rfl ?_
        refine AOps.nil ?_
        refine seqQ_n ?_
        (refine AIn.nextN 1 (ih (k + 1) (⟨by omega, hm⟩) (by first | omega | (simp only; omega))) ?_ rfl; repeat (first | exact trivial | refine ⟨rfl, ?_⟩ | refine ⟨congrArg some nx, ?_⟩))
    · have h := of_decide_eq_false h
      simp only [List.length_map] at h
      rw [List.drop_eq_nil_of_le (by omega), List.drop_eq_nil_of_le (by omega)] at hm
      refine AWp.exit ?_
      refine AWp.seq ?_
      refine AWp.region ?_
      refine AOps.sim okL rfl rfl ?_
      refine AOps.nil ?_
      refine AWp.ret ?_
      refine bodyQ_r (by first | exact ResOk.one rfl rfl | exact ResOk.two rfl rfl rfl | exact ResOk.three rfl rfl rfl rfl | exact ResOk.none rfl) ?_
      rw [← hm]; rfl
theorem sameSpans_tr (a b : List (Int × Int)) : PTr Tryz.prog 40 [.ds (a.map spanC), .ds (b.map spanC)] (.bool (eqSpans a b)) := by
  refine PTr.of_body (N := 26) Tryz.func40 rfl rfl rfl ?_
  refine AWp.know (t := 0) rfl (Known.ds _) fun hlen => ?_
  rw [List.length_map] at hlen
  refine AWp.seq ?_
  refine AWp.region ?_
  refine AOps.sim okL rfl rfl ?_
  refine AOps.nil ?_
  refine AWp.seq ?_
  refine AWp.seq ?_
  refine AWp.region ?_
  refine AOps.sim okL rfl rfl ?_
  refine AOps.sim okL rfl rfl ?_
  refine AOps.sim okL rfl rfl ?_
  refine AOps.sim okL rfl rfl ?_
  refine AOps.sim okL rfl rfl ?_
  refine AOps.nil ?_
  refine seqQ_n ?_
  first | refine AWp.condCase rfl (fun h0 => ?_) (fun h0 => ?_) | refine AWp.cond rfl (fun h0 => ?_) (fun h0 => ?_)
  · simp only [List.length_map, bne_iff_ne, ne_eq] at h0
    have e := eqSpans_len (a := a) (b := b) (by omega)
    refine AWp.seq ?_
    refine AWp.region ?_
    refine AOps.sim okL rfl rfl ?_
    refine AOps.nil ?_
    refine AWp.ret ?_
    refine seqQ_r ?_
    refine bodyQ_r (by first | exact ResOk.one rfl rfl | exact ResOk.two rfl rfl rfl | exact ResOk.three rfl rfl rfl rfl | exact ResOk.none rfl) ?_
    rw [e]
  · simp only [List.length_map, bne_eq_false_iff_eq] at h0
    have h0 : a.length = b.length := by omega
    refine AWp.skip ?_
    refine AWp.seq ?_
    refine AWp.seq ?_
    refine AWp.region ?_
    refine AOps.sim okL rfl rfl ?_
    refine AOps.nil ?_
    refine AWp.block ?_
    refine AWp.loopM (α := Nat) (fun k => a.length - k) (fun k => [(0, .ds (a.map spanC)), (1, .ds (b.map spanC)), (5, i64 k)]) (fun _ => _)
      (fun k => k ≤ a.length ∧ eqSpans (a.drop k) (b.drop k) = eqSpans a b) 0 ⟨Nat.zero_le _, rfl⟩ ?_ (List.Perm.refl _) ?_
    · simp only [AllIn]
      refine ⟨rfl, rfl, rfl, trivial⟩
    rintro k ⟨hk, hm⟩ ih
    refine AWp.seq ?_
    refine AWp.seq ?_
    refine AWp.region ?_
    refine AOps.sim okL rfl rfl ?_
    refine AOps.sim okL rfl rfl ?_
    refine AOps.sim okL rfl rfl ?_
    refine AOps.sim okL rfl rfl ?_
    refine AOps.nil ?_
    refine seqQ_n ?_
    first | refine AWp.condCase rfl (fun h => ?_) (fun h => ?_) | refine AWp.cond rfl (fun h => ?_) (fun h => ?_)
    · have h := of_decide_eq_true h
      simp only [List.length_map] at h
      obtain ⟨x, hx⟩ : ∃ x, a[k]? = some x := ⟨a[k], by simp [show k < a.length by omega]⟩
      obtain ⟨y, hy⟩ : ∃ y, b[k]? = some y := ⟨b[k]'(by omega), by simp [show k < b.length by omega]⟩
      rw [drop_get hx, drop_get hy, eqSpans] at hm
      have nx := nxt (k := k) (n := a.length) (by omega) hlen
      refine AWp.skip ?_
      refine AWp.seq ?_
      refine AWp.block ?_
      refine AWp.seq ?_
      refine AWp.drawn okL hmix (by kernel_rfl) ?_
      refine Pl.pure rfl rfl ?_
      refine Pl.pure rfl rfl ?_
      refine Pl.pure rfl (sOp_idxD rfl rfl rfl rfl rfl (by omega) (getS hx) rfl) ?_
      refine Pl.pure rfl rfl ?_
      refine Pl.pure rfl rfl ?_
      refine Pl.pure rfl rfl ?_
      refine Pl.pure rfl (sOp_idxD rfl rfl rfl rfl rfl (by omega) (getS hy) rfl) ?_
      refine Pl.pure rfl rfl ?_
      refine Pl.eqStruct eqT57 rfl rfl rfl rfl rfl rfl rfl (b := eqS x y) rfl rfl ?_
      refine Pl.nil ?_
      refine seqQ_n ?_
      first | refine AWp.condCase rfl (fun h2 => ?_) (fun h2 => ?_) | refine AWp.cond rfl (fun h2 => ?_) (fun h2 => ?_)
      · simp only [Bool.not_eq_true'] at h2
        refine AWp.seq ?_
        refine AWp.region ?_
        refine AOps.sim okL rfl rfl ?_
        refine AOps.nil ?_
        refine AWp.ret ?_
        refine blockQ_r ?_
        refine seqQ_r ?_
        refine seqQ_r ?_
        refine blockQ_r ?_
        refine seqQ_r ?_
        refine bodyQ_r (by first | exact ResOk.one rfl rfl | exact ResOk.two rfl rfl rfl | exact ResOk.three rfl rfl rfl rfl | exact ResOk.none rfl) ?_
        rw [← hm, h2]; rfl
      · simp only [Bool.not_eq_false'] at h2
        rw [h2, Bool.true_and] at hm
        refine AWp.skip ?_
        refine AWp.region ?_
        refine AOps.sim okL rfl rfl ?_
        refine AOps.sim okL rfl rfl ?_
        refine AOps.sim okL rfl rfl ?_
        refine AOps.nil ?_
        refine seqQ_n ?_
        (refine AIn.nextN 1 (ih (k + 1) (⟨by omega, hm⟩) (by first | omega | (simp only; omega))) ?_ rfl; repeat (first | exact trivial | refine ⟨rfl, ?_⟩ | refine ⟨congrArg some nx, ?_⟩))
    · have h := of_decide_eq_false h
      simp only [List.length_map] at h
      rw [List.drop_eq_nil_of_le (by omega), List.drop_eq_nil_of_le (by omega)] at hm
      refine AWp.exit ?_
      refine AWp.seq ?_
      refine AWp.region ?_
      refine AOps.sim okL rfl rfl ?_
      refine AOps.nil ?_
      refine AWp.ret ?_
      refine bodyQ_r (by first | exact ResOk.one rfl rfl | exact ResOk.two rfl rfl rfl | exact ResOk.three rfl rfl rfl rfl | exact ResOk.none rfl) ?_
      rw [← hm]; rfl
end Go.Proofs.YtdeenhdmmeahgaaGreatDoor

