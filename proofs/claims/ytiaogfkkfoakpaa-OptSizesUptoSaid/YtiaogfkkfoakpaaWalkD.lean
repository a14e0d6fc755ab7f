/- Walks of the program's validity. -/
import Derived.Test.YtiaogfkkfoakpaaWalkC
import Derived.Test.YtiaogfkkfoakpaaWalkB
import Derived.Test.YtiaogfkkfoakpaaAbsC
set_option linter.unusedVariables false
set_option linter.unusedSimpArgs false
namespace Go.Proofs.Ytiaogfkkfoakpaa
open Go Go.Abs
set_option maxRecDepth 100000
set_option maxHeartbeats 8000000 in
theorem refNode_tr (fx : Pat → Bool) (hF : ∀ y, Sh y → PTr Try.prog 43 [.agg y.C] (.bool (fx y))) (x : Pat) : ∀ (g : Int) (k : Bool), PTr Try.prog 23 [.agg x.C, i64 g, .bool k] (.bool (nodeV fx x g k)) := by
  induction x using Pat.ind with | h x IH => _
  intro g kk
  refine PTr.of_body (N := 180) Try.func23 rfl rfl rfl ?_
  refine AWp.know (t := 0) rfl (Known.agg mem_C (Known.ds _)) fun hlen => ?_
  rw [List.length_map] at hlen
  refine AWp.seq ?_
  refine AWp.region ?_
  refine AOps.pln ?_; refine AOp.box rfl rfl (isVal_or rfl) rfl rfl ?_; intro _ _
  refine AOps.sim okL rfl rfl ?_
  refine AOps.nil ?_
  refine AWp.seq ?_
  refine AWp.region ?_
  refine AOps.sim okL rfl rfl ?_
  refine AOps.pln ?_; refine AOp.load okL rfl (.head _) rfl rfl rfl rfl ?_
  refine AOps.pln ?_; focus (refine AOp.callP (v := ?_) rfl rfl rfl ?_ ?_; rotate_left; exact (parts_tr _))
  refine AOps.sim okL rfl rfl ?_
  refine AOps.sim okL rfl rfl ?_
  refine AOps.sim okL rfl rfl ?_
  refine AOps.sim okL rfl rfl ?_
  refine AOps.sim okL rfl rfl ?_
  refine AOps.nil ?_
  refine AWp.seq ?_
  rename_i r _
  refine AWp.join (α := Unit) (fun _ => [(1, i64 g), (2, .bool kk), (3, .ptr r 7 0 0)]) (fun _ => [(r, .row 25 7 [x.C])]) (fun _ => nodeA x g = true) ?_ fun R K hR => ?_
  · rintro _ hA
    refine AWp.seq ?_
    refine AWp.join (α := Unit) (fun _ => [(1, i64 g), (2, .bool kk), (3, .ptr r 7 0 0)]) (fun _ => [(r, .row 25 7 [x.C])]) (fun _ => nodeB x kk = true) ?_ fun R K hR => ?_
    · rintro _ hB
      have hVV : nodeV fx x g kk = (nodeL fx x.op x.l g (kk || (x.op == 9)) && nodeE fx x) := by rw [nodeV_eq, hA, hB]; rfl
      refine AWp.seq ?_
      refine AWp.seq ?_
      refine AWp.region ?_
      refine AOps.sim okL rfl rfl ?_
      refine AOps.nil ?_
      refine AWp.block ?_
      refine AWp.loopM (α := Nat) (fun a => x.l.length - a) (fun a => [(1, i64 g), (2, .bool kk), (3, .ptr r 7 0 0), (9, i64 a)]) (fun _ => [(r, .row 25 7 [x.C])])
        (fun a => a ≤ x.l.length ∧ nodeL fx x.op (x.l.drop a) g (kk || (x.op == 9)) = nodeL fx x.op x.l g (kk || (x.op == 9))) 0 ⟨Nat.zero_le _, rfl⟩ ?_ (List.Perm.refl _) ?_
      · simp only [AllIn]
        refine ⟨rfl, rfl, rfl, rfl, trivial⟩
      rintro k ⟨hk, hm⟩ ih
      refine AWp.seq ?_
      refine AWp.seq ?_
      refine AWp.region ?_
      refine AOps.sim okL rfl rfl ?_
      refine AOps.sim okL rfl rfl ?_
      refine AOps.pln ?_; refine AOp.load okL rfl (.head _) rfl rfl rfl rfl ?_
      refine AOps.sim okL rfl rfl ?_
      refine AOps.sim okL rfl rfl ?_
      refine AOps.nil ?_
      refine seqQ_n ?_
      first | refine AWp.condCase rfl (fun h => ?_) (fun h => ?_) | refine AWp.cond rfl (fun h => ?_) (fun h => ?_)
      · have h := of_decide_eq_true h
        simp only [List.length_map] at h
        obtain ⟨y, hy⟩ : ∃ y, x.l[k]? = some y := ⟨x.l[k], by simp [show k < x.l.length by omega]⟩
        have nx := nxt (k := k) (n := x.l.length) (by omega) hlen
        rw [drop_get hy, nodeL] at hm
        have hc := IH y (List.mem_of_getElem? hy)
        refine AWp.skip ?_
        refine AWp.seq ?_
        refine AWp.block ?_
        refine AWp.seq ?_
        refine AWp.region ?_
        refine AOps.sim okL rfl rfl ?_
        refine AOps.pln ?_; refine AOp.load okL rfl (.head _) rfl rfl rfl rfl ?_
        refine AOps.sim okL rfl rfl ?_
        refine AOps.sim okL (sOp_idxD rfl rfl rfl rfl rfl (by omega) (getC hy) rfl) rfl ?_
        refine AOps.sim okL rfl rfl ?_
        refine AOps.pln ?_; refine AOp.alloc okL rfl rfl rfl ?_; intro _ _
        refine AOps.pln ?_; refine AOp.store okL rfl rfl rfl (isVal_or rfl) rfl rfl rfl .here rfl rfl rfl ?_
        refine AOps.nil ?_
        refine AWp.seq ?_
        refine AWp.region ?_
        refine AOps.pln ?_; refine AOp.load okL rfl (.head _) rfl rfl rfl rfl ?_
        refine AOps.sim okL rfl rfl ?_
        refine AOps.sim okL rfl rfl ?_
        refine AOps.sim okL rfl rfl ?_
        refine AOps.guardCase rfl rfl rfl (fun h => ?_) (fun h => ?_)
        · refine AOps.unw rfl rfl rfl rfl ?_
          refine AOps.unw rfl rfl rfl rfl ?_
          refine AOps.unw rfl rfl rfl rfl ?_
          refine AOps.sim okL rfl rfl ?_
          refine AOps.pln ?_; focus (refine AOp.callP (v := ?_) rfl rfl rfl ?_ ?_; rotate_left; exact (hc _ _))
          refine AOps.sim okL rfl rfl ?_
          refine AOps.sim okL rfl rfl ?_
          refine AOps.guardCase rfl rfl rfl (fun h => ?_) (fun h => ?_)
          · refine AOps.unw rfl rfl rfl rfl ?_
            refine AOps.unw rfl rfl rfl rfl ?_
            refine AOps.unw rfl rfl rfl rfl ?_
            refine AOps.unw rfl rfl rfl rfl ?_
            refine AOps.unwU rfl rfl rfl ?_
            refine AOps.unwU rfl rfl rfl ?_
            refine AOps.unwU rfl rfl rfl ?_
            refine AOps.unwU rfl rfl rfl ?_
            refine AOps.unwU rfl rfl rfl ?_
            refine AOps.unwU rfl rfl rfl ?_
            refine AOps.unwU rfl rfl rfl ?_
            refine AOps.unwU rfl rfl rfl ?_
            refine AOps.unw rfl rfl rfl rfl ?_
            refine AOps.sim okL rfl rfl ?_
            refine AOps.sim okL rfl rfl ?_
            refine AOps.unw rfl rfl rfl rfl ?_
            refine AOps.unw rfl rfl rfl rfl ?_
            refine AOps.unw rfl rfl rfl rfl ?_
            refine AOps.unw rfl rfl rfl rfl ?_
            refine AOps.unwU rfl rfl rfl ?_
            refine AOps.unwU rfl rfl rfl ?_
            refine AOps.unwU rfl rfl rfl ?_
            refine AOps.unw rfl rfl rfl rfl ?_
            refine AOps.sim okL rfl rfl ?_
            refine AOps.nil ?_
            refine AWp.condT rfl ?_
            refine AWp.seq ?_
            refine AWp.region ?_
            refine AOps.sim okL rfl rfl ?_
            refine AOps.nil ?_
            refine AWp.ret ?_
            refine blockQ_r ?_
            refine seqQ_r ?_
            refine seqQ_r ?_
            refine blockQ_r ?_
            refine seqQ_r ?_
            first | (refine bodyQ_r (by first | exact ResOk.one rfl rfl | exact ResOk.two rfl rfl rfl | exact ResOk.three rfl rfl rfl rfl | exact ResOk.none rfl) ?_; rw [hVV, ← hm]; clear ih IH hc hm hVV; simp_all [sideM]; done) | (refine AIn.nextN 1 (ih (k + 1) (⟨by omega, by rw [← hm]; clear ih IH hc hm hVV; simp_all [sideM]⟩) (by first | omega | (simp only; omega))) ?_ rfl; repeat (first | exact trivial | refine ⟨rfl, ?_⟩ | refine ⟨congrArg some nx, ?_⟩ | refine ⟨congrArg (fun v => some (A.int .i64 v)) (by skip), ?_⟩))
          · refine AOps.simW okL rfl rfl rfl rfl ?_
            refine AOps.wtd rfl rfl rfl ?_; refine AOp.load okL rfl (.tail _ (.head _)) rfl rfl rfl rfl ?_
            refine AOps.simW okL rfl rfl rfl rfl ?_
            refine AOps.simW okL rfl rfl rfl rfl ?_
            refine AOps.guardCase rfl rfl rfl (fun h => ?_) (fun h => ?_)
            · refine AOps.simW okL rfl rfl rfl rfl ?_
              refine AOps.wtd rfl rfl rfl ?_; refine AOp.load okL rfl (.head _) rfl rfl rfl rfl ?_
              refine AOps.simW okL rfl rfl rfl rfl ?_
              refine AOps.simW okL rfl rfl rfl rfl ?_
              refine AOps.guardCase rfl rfl rfl (fun h => ?_) (fun h => ?_)
              · refine AOps.unw rfl rfl rfl rfl ?_
                refine AOps.unw rfl rfl rfl rfl ?_
                refine AOps.unw rfl rfl rfl rfl ?_
                refine AOps.simW okL rfl rfl rfl rfl ?_
                refine AOps.simW okL rfl rfl rfl rfl ?_
                refine AOps.sim okL rfl rfl ?_
                refine AOps.sim okL rfl rfl ?_
                refine AOps.unw rfl rfl rfl rfl ?_
                refine AOps.unw rfl rfl rfl rfl ?_
                refine AOps.unw rfl rfl rfl rfl ?_
                refine AOps.unw rfl rfl rfl rfl ?_
                refine AOps.unwU rfl rfl rfl ?_
                refine AOps.unwU rfl rfl rfl ?_
                refine AOps.unwU rfl rfl rfl ?_
                refine AOps.unw rfl rfl rfl rfl ?_
                refine AOps.sim okL rfl rfl ?_
                refine AOps.nil ?_
                refine AWp.condT rfl ?_
                refine AWp.seq ?_
                refine AWp.region ?_
                refine AOps.sim okL rfl rfl ?_
                refine AOps.nil ?_
                refine AWp.ret ?_
                refine blockQ_r ?_
                refine seqQ_r ?_
                refine seqQ_r ?_
                refine blockQ_r ?_
                refine seqQ_r ?_
                first | (refine bodyQ_r (by first | exact ResOk.one rfl rfl | exact ResOk.two rfl rfl rfl | exact ResOk.three rfl rfl rfl rfl | exact ResOk.none rfl) ?_; rw [hVV, ← hm]; clear ih IH hc hm hVV; simp_all [sideM]; done) | (refine AIn.nextN 1 (ih (k + 1) (⟨by omega, by rw [← hm]; clear ih IH hc hm hVV; simp_all [sideM]⟩) (by first | omega | (simp only; omega))) ?_ rfl; repeat (first | exact trivial | refine ⟨rfl, ?_⟩ | refine ⟨congrArg some nx, ?_⟩ | refine ⟨congrArg (fun v => some (A.int .i64 v)) (by skip), ?_⟩))
              · refine AOps.simW okL rfl rfl rfl rfl ?_
                refine AOps.wtd rfl rfl rfl ?_; refine AOp.load okL rfl (.head _) rfl rfl rfl rfl ?_
                refine AOps.simW okL rfl rfl rfl rfl ?_
                refine AOps.simW okL rfl rfl rfl rfl ?_
                refine AOps.simW okL rfl rfl rfl rfl ?_
                refine AOps.sim okL rfl rfl ?_
                refine AOps.sim okL rfl rfl ?_
                refine AOps.guardCase rfl rfl rfl (fun h => ?_) (fun h => ?_)
                · refine AOps.unw rfl rfl rfl rfl ?_
                  refine AOps.unw rfl rfl rfl rfl ?_
                  refine AOps.unw rfl rfl rfl rfl ?_
                  refine AOps.unw rfl rfl rfl rfl ?_
                  refine AOps.unwU rfl rfl rfl ?_
                  refine AOps.unwU rfl rfl rfl ?_
                  refine AOps.unwU rfl rfl rfl ?_
                  refine AOps.unw rfl rfl rfl rfl ?_
                  refine AOps.sim okL rfl rfl ?_
                  refine AOps.nil ?_
                  refine AWp.condT rfl ?_
                  refine AWp.seq ?_
                  refine AWp.region ?_
                  refine AOps.sim okL rfl rfl ?_
                  refine AOps.nil ?_
                  refine AWp.ret ?_
                  refine blockQ_r ?_
                  refine seqQ_r ?_
                  refine seqQ_r ?_
                  refine blockQ_r ?_
                  refine seqQ_r ?_
                  first | (refine bodyQ_r (by first | exact ResOk.one rfl rfl | exact ResOk.two rfl rfl rfl | exact ResOk.three rfl rfl rfl rfl | exact ResOk.none rfl) ?_; rw [hVV, ← hm]; clear ih IH hc hm hVV; simp_all [sideM]; done) | (refine AIn.nextN 1 (ih (k + 1) (⟨by omega, by rw [← hm]; clear ih IH hc hm hVV; simp_all [sideM]⟩) (by first | omega | (simp only; omega))) ?_ rfl; repeat (first | exact trivial | refine ⟨rfl, ?_⟩ | refine ⟨congrArg some nx, ?_⟩ | refine ⟨congrArg (fun v => some (A.int .i64 v)) (by skip), ?_⟩))
                · refine AOps.simW okL rfl rfl rfl rfl ?_
                  refine AOps.wtd rfl rfl rfl ?_; refine AOp.load okL rfl (.tail _ (.head _)) rfl rfl rfl rfl ?_
                  refine AOps.simW okL rfl rfl rfl rfl ?_
                  refine AOps.simW okL rfl rfl rfl rfl ?_
                  refine AOps.guardCase rfl rfl rfl (fun h => ?_) (fun h => ?_)
                  · refine AOps.simW okL rfl rfl rfl rfl ?_
                    refine AOps.wtd rfl rfl rfl ?_; refine AOp.load okL rfl (.head _) rfl rfl rfl rfl ?_
                    refine AOps.simW okL rfl rfl rfl rfl ?_
                    refine AOps.simW okL rfl rfl rfl rfl ?_
                    refine AOps.sim okL rfl rfl ?_
                    refine AOps.nil ?_
                    refine seqQ_n ?_
                    refine AWp.condCase rfl (fun h => ?_) (fun h => ?_)
                    · refine AWp.seq ?_
                      refine AWp.region ?_
                      refine AOps.sim okL rfl rfl ?_
                      refine AOps.nil ?_
                      refine AWp.ret ?_
                      refine blockQ_r ?_
                      refine seqQ_r ?_
                      refine seqQ_r ?_
                      refine blockQ_r ?_
                      refine seqQ_r ?_
                      first | (refine bodyQ_r (by first | exact ResOk.one rfl rfl | exact ResOk.two rfl rfl rfl | exact ResOk.three rfl rfl rfl rfl | exact ResOk.none rfl) ?_; rw [hVV, ← hm]; clear ih IH hc hm hVV; simp_all [sideM]; done) | (refine AIn.nextN 1 (ih (k + 1) (⟨by omega, by rw [← hm]; clear ih IH hc hm hVV; simp_all [sideM]⟩) (by first | omega | (simp only; omega))) ?_ rfl; repeat (first | exact trivial | refine ⟨rfl, ?_⟩ | refine ⟨congrArg some nx, ?_⟩ | refine ⟨congrArg (fun v => some (A.int .i64 v)) (by skip), ?_⟩))
                    · refine AWp.skip ?_
                      refine AWp.region ?_
                      refine AOps.sim okL rfl rfl ?_
                      refine AOps.sim okL rfl rfl ?_
                      refine AOps.sim okL rfl rfl ?_
                      refine AOps.nil ?_
                      refine seqQ_n ?_
                      first | (refine bodyQ_r (by first | exact ResOk.one rfl rfl | exact ResOk.two rfl rfl rfl | exact ResOk.three rfl rfl rfl rfl | exact ResOk.none rfl) ?_; rw [hVV, ← hm]; clear ih IH hc hm hVV; simp_all [sideM]; done) | (refine AIn.nextN 1 (ih (k + 1) (⟨by omega, by rw [← hm]; clear ih IH hc hm hVV; simp_all [sideM]⟩) (by first | omega | (simp only; omega))) ?_ rfl; repeat (first | exact trivial | refine ⟨rfl, ?_⟩ | refine ⟨congrArg some nx, ?_⟩ | refine ⟨congrArg (fun v => some (A.int .i64 v)) (by skip), ?_⟩))
                  · refine AOps.unw rfl rfl rfl rfl ?_
                    refine AOps.unw rfl rfl rfl rfl ?_
                    refine AOps.unw rfl rfl rfl rfl ?_
                    refine AOps.simW okL rfl rfl rfl rfl ?_
                    refine AOps.sim okL rfl rfl ?_
                    refine AOps.nil ?_
                    refine AWp.condF rfl ?_
                    refine AWp.skip ?_
                    refine AWp.region ?_
                    refine AOps.sim okL rfl rfl ?_
                    refine AOps.sim okL rfl rfl ?_
                    refine AOps.sim okL rfl rfl ?_
                    refine AOps.nil ?_
                    refine seqQ_n ?_
                    first | (refine bodyQ_r (by first | exact ResOk.one rfl rfl | exact ResOk.two rfl rfl rfl | exact ResOk.three rfl rfl rfl rfl | exact ResOk.none rfl) ?_; rw [hVV, ← hm]; clear ih IH hc hm hVV; simp_all [sideM]; done) | (refine AIn.nextN 1 (ih (k + 1) (⟨by omega, by rw [← hm]; clear ih IH hc hm hVV; simp_all [sideM]⟩) (by first | omega | (simp only; omega))) ?_ rfl; repeat (first | exact trivial | refine ⟨rfl, ?_⟩ | refine ⟨congrArg some nx, ?_⟩ | refine ⟨congrArg (fun v => some (A.int .i64 v)) (by skip), ?_⟩))
            · refine AOps.unw rfl rfl rfl rfl ?_
              refine AOps.unw rfl rfl rfl rfl ?_
              refine AOps.unw rfl rfl rfl rfl ?_
              refine AOps.unw rfl rfl rfl rfl ?_
              refine AOps.unwU rfl rfl rfl ?_
              refine AOps.unwU rfl rfl rfl ?_
              refine AOps.unwU rfl rfl rfl ?_
              refine AOps.unw rfl rfl rfl rfl ?_
              refine AOps.simW okL rfl rfl rfl rfl ?_
              refine AOps.sim okL rfl rfl ?_
              refine AOps.sim okL rfl rfl ?_
              refine AOps.simW okL rfl rfl rfl rfl ?_
              refine AOps.wtd rfl rfl rfl ?_; refine AOp.load okL rfl (.tail _ (.head _)) rfl rfl rfl rfl ?_
              refine AOps.simW okL rfl rfl rfl rfl ?_
              refine AOps.simW okL rfl rfl rfl rfl ?_
              refine AOps.guardCase rfl rfl rfl (fun h => ?_) (fun h => ?_)
              · refine AOps.simW okL rfl rfl rfl rfl ?_
                refine AOps.wtd rfl rfl rfl ?_; refine AOp.load okL rfl (.head _) rfl rfl rfl rfl ?_
                refine AOps.simW okL rfl rfl rfl rfl ?_
                refine AOps.simW okL rfl rfl rfl rfl ?_
                refine AOps.sim okL rfl rfl ?_
                refine AOps.nil ?_
                refine seqQ_n ?_
                refine AWp.condCase rfl (fun h => ?_) (fun h => ?_)
                · refine AWp.seq ?_
                  refine AWp.region ?_
                  refine AOps.sim okL rfl rfl ?_
                  refine AOps.nil ?_
                  refine AWp.ret ?_
                  refine blockQ_r ?_
                  refine seqQ_r ?_
                  refine seqQ_r ?_
                  refine blockQ_r ?_
                  refine seqQ_r ?_
                  first | (refine bodyQ_r (by first | exact ResOk.one rfl rfl | exact ResOk.two rfl rfl rfl | exact ResOk.three rfl rfl rfl rfl | exact ResOk.none rfl) ?_; rw [hVV, ← hm]; clear ih IH hc hm hVV; simp_all [sideM]; done) | (refine AIn.nextN 1 (ih (k + 1) (⟨by omega, by rw [← hm]; clear ih IH hc hm hVV; simp_all [sideM]⟩) (by first | omega | (simp only; omega))) ?_ rfl; repeat (first | exact trivial | refine ⟨rfl, ?_⟩ | refine ⟨congrArg some nx, ?_⟩ | refine ⟨congrArg (fun v => some (A.int .i64 v)) (by skip), ?_⟩))
                · refine AWp.skip ?_
                  refine AWp.region ?_
                  refine AOps.sim okL rfl rfl ?_
                  refine AOps.sim okL rfl rfl ?_
                  refine AOps.sim okL rfl rfl ?_
                  refine AOps.nil ?_
                  refine seqQ_n ?_
                  first | (refine bodyQ_r (by first | exact ResOk.one rfl rfl | exact ResOk.two rfl rfl rfl | exact ResOk.three rfl rfl rfl rfl | exact ResOk.none rfl) ?_; rw [hVV, ← hm]; clear ih IH hc hm hVV; simp_all [sideM]; done) | (refine AIn.nextN 1 (ih (k + 1) (⟨by omega, by rw [← hm]; clear ih IH hc hm hVV; simp_all [sideM]⟩) (by first | omega | (simp only; omega))) ?_ rfl; repeat (first | exact trivial | refine ⟨rfl, ?_⟩ | refine ⟨congrArg some nx, ?_⟩ | refine ⟨congrArg (fun v => some (A.int .i64 v)) (by skip), ?_⟩))
              · refine AOps.unw rfl rfl rfl rfl ?_
                refine AOps.unw rfl rfl rfl rfl ?_
                refine AOps.unw rfl rfl rfl rfl ?_
                refine AOps.simW okL rfl rfl rfl rfl ?_
                refine AOps.sim okL rfl rfl ?_
                refine AOps.nil ?_
                refine AWp.condF rfl ?_
                refine AWp.skip ?_
                refine AWp.region ?_
                refine AOps.sim okL rfl rfl ?_
                refine AOps.sim okL rfl rfl ?_
                refine AOps.sim okL rfl rfl ?_
                refine AOps.nil ?_
                refine seqQ_n ?_
                first | (refine bodyQ_r (by first | exact ResOk.one rfl rfl | exact ResOk.two rfl rfl rfl | exact ResOk.three rfl rfl rfl rfl | exact ResOk.none rfl) ?_; rw [hVV, ← hm]; clear ih IH hc hm hVV; simp_all [sideM]; done) | (refine AIn.nextN 1 (ih (k + 1) (⟨by omega, by rw [← hm]; clear ih IH hc hm hVV; simp_all [sideM]⟩) (by first | omega | (simp only; omega))) ?_ rfl; repeat (first | exact trivial | refine ⟨rfl, ?_⟩ | refine ⟨congrArg some nx, ?_⟩ | refine ⟨congrArg (fun v => some (A.int .i64 v)) (by skip), ?_⟩))
        · refine AOps.simW okL rfl rfl rfl rfl ?_
          refine AOps.wtd rfl rfl rfl ?_; refine AOp.load okL rfl (.tail _ (.head _)) rfl rfl rfl rfl ?_
          refine AOps.simW okL rfl rfl rfl rfl ?_
          refine AOps.sim okL rfl rfl ?_
          refine AOps.pln ?_; focus (refine AOp.callP (v := ?_) rfl rfl rfl ?_ ?_; rotate_left; exact (hc _ _))
          refine AOps.sim okL rfl rfl ?_
          refine AOps.sim okL rfl rfl ?_
          refine AOps.guardCase rfl rfl rfl (fun h => ?_) (fun h => ?_)
          · refine AOps.unw rfl rfl rfl rfl ?_
            refine AOps.unw rfl rfl rfl rfl ?_
            refine AOps.unw rfl rfl rfl rfl ?_
            refine AOps.unw rfl rfl rfl rfl ?_
            refine AOps.unwU rfl rfl rfl ?_
            refine AOps.unwU rfl rfl rfl ?_
            refine AOps.unwU rfl rfl rfl ?_
            refine AOps.unwU rfl rfl rfl ?_
            refine AOps.unwU rfl rfl rfl ?_
            refine AOps.unwU rfl rfl rfl ?_
            refine AOps.unwU rfl rfl rfl ?_
            refine AOps.unwU rfl rfl rfl ?_
            refine AOps.unw rfl rfl rfl rfl ?_
            refine AOps.sim okL rfl rfl ?_
            refine AOps.sim okL rfl rfl ?_
            refine AOps.unw rfl rfl rfl rfl ?_
            refine AOps.unw rfl rfl rfl rfl ?_
            refine AOps.unw rfl rfl rfl rfl ?_
            refine AOps.unw rfl rfl rfl rfl ?_
            refine AOps.unwU rfl rfl rfl ?_
            refine AOps.unwU rfl rfl rfl ?_
            refine AOps.unwU rfl rfl rfl ?_
            refine AOps.unw rfl rfl rfl rfl ?_
            refine AOps.sim okL rfl rfl ?_
            refine AOps.nil ?_
            refine AWp.condT rfl ?_
            refine AWp.seq ?_
            refine AWp.region ?_
            refine AOps.sim okL rfl rfl ?_
            refine AOps.nil ?_
            refine AWp.ret ?_
            refine blockQ_r ?_
            refine seqQ_r ?_
            refine seqQ_r ?_
            refine blockQ_r ?_
            refine seqQ_r ?_
            first | (refine bodyQ_r (by first | exact ResOk.one rfl rfl | exact ResOk.two rfl rfl rfl | exact ResOk.three rfl rfl rfl rfl | exact ResOk.none rfl) ?_; rw [hVV, ← hm]; clear ih IH hc hm hVV; simp_all [sideM]; done) | (refine AIn.nextN 1 (ih (k + 1) (⟨by omega, by rw [← hm]; clear ih IH hc hm hVV; simp_all [sideM]⟩) (by first | omega | (simp only; omega))) ?_ rfl; repeat (first | exact trivial | refine ⟨rfl, ?_⟩ | refine ⟨congrArg some nx, ?_⟩ | refine ⟨congrArg (fun v => some (A.int .i64 v)) (by skip), ?_⟩))
          · refine AOps.simW okL rfl rfl rfl rfl ?_
            refine AOps.wtd rfl rfl rfl ?_; refine AOp.load okL rfl (.tail _ (.head _)) rfl rfl rfl rfl ?_
            refine AOps.simW okL rfl rfl rfl rfl ?_
            refine AOps.simW okL rfl rfl rfl rfl ?_
            refine AOps.guardCase rfl rfl rfl (fun h => ?_) (fun h => ?_)
            · refine AOps.simW okL rfl rfl rfl rfl ?_
              refine AOps.wtd rfl rfl rfl ?_; refine AOp.load okL rfl (.head _) rfl rfl rfl rfl ?_
              refine AOps.simW okL rfl rfl rfl rfl ?_
              refine AOps.simW okL rfl rfl rfl rfl ?_
              refine AOps.guardCase rfl rfl rfl (fun h => ?_) (fun h => ?_)
              · refine AOps.unw rfl rfl rfl rfl ?_
                refine AOps.unw rfl rfl rfl rfl ?_
                refine AOps.unw rfl rfl rfl rfl ?_
                refine AOps.simW okL rfl rfl rfl rfl ?_
                refine AOps.simW okL rfl rfl rfl rfl ?_
                refine AOps.sim okL rfl rfl ?_
                refine AOps.sim okL rfl rfl ?_
                refine AOps.unw rfl rfl rfl rfl ?_
                refine AOps.unw rfl rfl rfl rfl ?_
                refine AOps.unw rfl rfl rfl rfl ?_
                refine AOps.unw rfl rfl rfl rfl ?_
                refine AOps.unwU rfl rfl rfl ?_
                refine AOps.unwU rfl rfl rfl ?_
                refine AOps.unwU rfl rfl rfl ?_
                refine AOps.unw rfl rfl rfl rfl ?_
                refine AOps.sim okL rfl rfl ?_
                refine AOps.nil ?_
                refine AWp.condT rfl ?_
                refine AWp.seq ?_
                refine AWp.region ?_
                refine AOps.sim okL rfl rfl ?_
                refine AOps.nil ?_
                refine AWp.ret ?_
                refine blockQ_r ?_
                refine seqQ_r ?_
                refine seqQ_r ?_
                refine blockQ_r ?_
                refine seqQ_r ?_
                first | (refine bodyQ_r (by first | exact ResOk.one rfl rfl | exact ResOk.two rfl rfl rfl | exact ResOk.three rfl rfl rfl rfl | exact ResOk.none rfl) ?_; rw [hVV, ← hm]; clear ih IH hc hm hVV; simp_all [sideM]; done) | (refine AIn.nextN 1 (ih (k + 1) (⟨by omega, by rw [← hm]; clear ih IH hc hm hVV; simp_all [sideM]⟩) (by first | omega | (simp only; omega))) ?_ rfl; repeat (first | exact trivial | refine ⟨rfl, ?_⟩ | refine ⟨congrArg some nx, ?_⟩ | refine ⟨congrArg (fun v => some (A.int .i64 v)) (by skip), ?_⟩))
              · refine AOps.simW okL rfl rfl rfl rfl ?_
                refine AOps.wtd rfl rfl rfl ?_; refine AOp.load okL rfl (.head _) rfl rfl rfl rfl ?_
                refine AOps.simW okL rfl rfl rfl rfl ?_
                refine AOps.simW okL rfl rfl rfl rfl ?_
                refine AOps.simW okL rfl rfl rfl rfl ?_
                refine AOps.sim okL rfl rfl ?_
                refine AOps.sim okL rfl rfl ?_
                refine AOps.guardCase rfl rfl rfl (fun h => ?_) (fun h => ?_)
                · refine AOps.unw rfl rfl rfl rfl ?_
                  refine AOps.unw rfl rfl rfl rfl ?_
                  refine AOps.unw rfl rfl rfl rfl ?_
                  refine AOps.unw rfl rfl rfl rfl ?_
                  refine AOps.unwU rfl rfl rfl ?_
                  refine AOps.unwU rfl rfl rfl ?_
                  refine AOps.unwU rfl rfl rfl ?_
                  refine AOps.unw rfl rfl rfl rfl ?_
                  refine AOps.sim okL rfl rfl ?_
                  refine AOps.nil ?_
                  refine AWp.condT rfl ?_
                  refine AWp.seq ?_
                  refine AWp.region ?_
                  refine AOps.sim okL rfl rfl ?_
                  refine AOps.nil ?_
                  refine AWp.ret ?_
                  refine blockQ_r ?_
                  refine seqQ_r ?_
                  refine seqQ_r ?_
                  refine blockQ_r ?_
                  refine seqQ_r ?_
                  first | (refine bodyQ_r (by first | exact ResOk.one rfl rfl | exact ResOk.two rfl rfl rfl | exact ResOk.three rfl rfl rfl rfl | exact ResOk.none rfl) ?_; rw [hVV, ← hm]; clear ih IH hc hm hVV; simp_all [sideM]; done) | (refine AIn.nextN 1 (ih (k + 1) (⟨by omega, by rw [← hm]; clear ih IH hc hm hVV; simp_all [sideM]⟩) (by first | omega | (simp only; omega))) ?_ rfl; repeat (first | exact trivial | refine ⟨rfl, ?_⟩ | refine ⟨congrArg some nx, ?_⟩ | refine ⟨congrArg (fun v => some (A.int .i64 v)) (by skip), ?_⟩))
                · refine AOps.simW okL rfl rfl rfl rfl ?_
                  refine AOps.wtd rfl rfl rfl ?_; refine AOp.load okL rfl (.tail _ (.head _)) rfl rfl rfl rfl ?_
                  refine AOps.simW okL rfl rfl rfl rfl ?_
                  refine AOps.simW okL rfl rfl rfl rfl ?_
                  refine AOps.guardCase rfl rfl rfl (fun h => ?_) (fun h => ?_)
                  · refine AOps.simW okL rfl rfl rfl rfl ?_
                    refine AOps.wtd rfl rfl rfl ?_; refine AOp.load okL rfl (.head _) rfl rfl rfl rfl ?_
                    refine AOps.simW okL rfl rfl rfl rfl ?_
                    refine AOps.simW okL rfl rfl rfl rfl ?_
                    refine AOps.sim okL rfl rfl ?_
                    refine AOps.nil ?_
                    refine seqQ_n ?_
                    refine AWp.condCase rfl (fun h => ?_) (fun h => ?_)
                    · refine AWp.seq ?_
                      refine AWp.region ?_
                      refine AOps.sim okL rfl rfl ?_
                      refine AOps.nil ?_
                      refine AWp.ret ?_
                      refine blockQ_r ?_
                      refine seqQ_r ?_
                      refine seqQ_r ?_
                      refine blockQ_r ?_
                      refine seqQ_r ?_
                      first | (refine bodyQ_r (by first | exact ResOk.one rfl rfl | exact ResOk.two rfl rfl rfl | exact ResOk.three rfl rfl rfl rfl | exact ResOk.none rfl) ?_; rw [hVV, ← hm]; clear ih IH hc hm hVV; simp_all [sideM]; done) | (refine AIn.nextN 1 (ih (k + 1) (⟨by omega, by rw [← hm]; clear ih IH hc hm hVV; simp_all [sideM]⟩) (by first | omega | (simp only; omega))) ?_ rfl; repeat (first | exact trivial | refine ⟨rfl, ?_⟩ | refine ⟨congrArg some nx, ?_⟩ | refine ⟨congrArg (fun v => some (A.int .i64 v)) (by skip), ?_⟩))
                    · refine AWp.skip ?_
                      refine AWp.region ?_
                      refine AOps.sim okL rfl rfl ?_
                      refine AOps.sim okL rfl rfl ?_
                      refine AOps.sim okL rfl rfl ?_
                      refine AOps.nil ?_
                      refine seqQ_n ?_
                      first | (refine bodyQ_r (by first | exact ResOk.one rfl rfl | exact ResOk.two rfl rfl rfl | exact ResOk.three rfl rfl rfl rfl | exact ResOk.none rfl) ?_; rw [hVV, ← hm]; clear ih IH hc hm hVV; simp_all [sideM]; done) | (refine AIn.nextN 1 (ih (k + 1) (⟨by omega, by rw [← hm]; clear ih IH hc hm hVV; simp_all [sideM]⟩) (by first | omega | (simp only; omega))) ?_ rfl; repeat (first | exact trivial | refine ⟨rfl, ?_⟩ | refine ⟨congrArg some nx, ?_⟩ | refine ⟨congrArg (fun v => some (A.int .i64 v)) (by skip), ?_⟩))
                  · refine AOps.unw rfl rfl rfl rfl ?_
                    refine AOps.unw rfl rfl rfl rfl ?_
                    refine AOps.unw rfl rfl rfl rfl ?_
                    refine AOps.simW okL rfl rfl rfl rfl ?_
                    refine AOps.sim okL rfl rfl ?_
                    refine AOps.nil ?_
                    refine AWp.condF rfl ?_
                    refine AWp.skip ?_
                    refine AWp.region ?_
                    refine AOps.sim okL rfl rfl ?_
                    refine AOps.sim okL rfl rfl ?_
                    refine AOps.sim okL rfl rfl ?_
                    refine AOps.nil ?_
                    refine seqQ_n ?_
                    first | (refine bodyQ_r (by first | exact ResOk.one rfl rfl | exact ResOk.two rfl rfl rfl | exact ResOk.three rfl rfl rfl rfl | exact ResOk.none rfl) ?_; rw [hVV, ← hm]; clear ih IH hc hm hVV; simp_all [sideM]; done) | (refine AIn.nextN 1 (ih (k + 1) (⟨by omega, by rw [← hm]; clear ih IH hc hm hVV; simp_all [sideM]⟩) (by first | omega | (simp only; omega))) ?_ rfl; repeat (first | exact trivial | refine ⟨rfl, ?_⟩ | refine ⟨congrArg some nx, ?_⟩ | refine ⟨congrArg (fun v => some (A.int .i64 v)) (by skip), ?_⟩))
            · refine AOps.unw rfl rfl rfl rfl ?_
              refine AOps.unw rfl rfl rfl rfl ?_
              refine AOps.unw rfl rfl rfl rfl ?_
              refine AOps.unw rfl rfl rfl rfl ?_
              refine AOps.unwU rfl rfl rfl ?_
              refine AOps.unwU rfl rfl rfl ?_
              refine AOps.unwU rfl rfl rfl ?_
              refine AOps.unw rfl rfl rfl rfl ?_
              refine AOps.simW okL rfl rfl rfl rfl ?_
              refine AOps.sim okL rfl rfl ?_
              refine AOps.sim okL rfl rfl ?_
              refine AOps.simW okL rfl rfl rfl rfl ?_
              refine AOps.wtd rfl rfl rfl ?_; refine AOp.load okL rfl (.tail _ (.head _)) rfl rfl rfl rfl ?_
              refine AOps.simW okL rfl rfl rfl rfl ?_
              refine AOps.simW okL rfl rfl rfl rfl ?_
              refine AOps.guardCase rfl rfl rfl (fun h => ?_) (fun h => ?_)
              · refine AOps.simW okL rfl rfl rfl rfl ?_
                refine AOps.wtd rfl rfl rfl ?_; refine AOp.load okL rfl (.head _) rfl rfl rfl rfl ?_
                refine AOps.simW okL rfl rfl rfl rfl ?_
                refine AOps.simW okL rfl rfl rfl rfl ?_
                refine AOps.sim okL rfl rfl ?_
                refine AOps.nil ?_
                refine seqQ_n ?_
                refine AWp.condCase rfl (fun h => ?_) (fun h => ?_)
                · refine AWp.seq ?_
                  refine AWp.region ?_
                  refine AOps.sim okL rfl rfl ?_
                  refine AOps.nil ?_
                  refine AWp.ret ?_
                  refine blockQ_r ?_
                  refine seqQ_r ?_
                  refine seqQ_r ?_
                  refine blockQ_r ?_
                  refine seqQ_r ?_
                  first | (refine bodyQ_r (by first | exact ResOk.one rfl rfl | exact ResOk.two rfl rfl rfl | exact ResOk.three rfl rfl rfl rfl | exact ResOk.none rfl) ?_; rw [hVV, ← hm]; clear ih IH hc hm hVV; simp_all [sideM]; done) | (refine AIn.nextN 1 (ih (k + 1) (⟨by omega, by rw [← hm]; clear ih IH hc hm hVV; simp_all [sideM]⟩) (by first | omega | (simp only; omega))) ?_ rfl; repeat (first | exact trivial | refine ⟨rfl, ?_⟩ | refine ⟨congrArg some nx, ?_⟩ | refine ⟨congrArg (fun v => some (A.int .i64 v)) (by skip), ?_⟩))
                · refine AWp.skip ?_
                  refine AWp.region ?_
                  refine AOps.sim okL rfl rfl ?_
                  refine AOps.sim okL rfl rfl ?_
                  refine AOps.sim okL rfl rfl ?_
                  refine AOps.nil ?_
                  refine seqQ_n ?_
                  first | (refine bodyQ_r (by first | exact ResOk.one rfl rfl | exact ResOk.two rfl rfl rfl | exact ResOk.three rfl rfl rfl rfl | exact ResOk.none rfl) ?_; rw [hVV, ← hm]; clear ih IH hc hm hVV; simp_all [sideM]; done) | (refine AIn.nextN 1 (ih (k + 1) (⟨by omega, by rw [← hm]; clear ih IH hc hm hVV; simp_all [sideM]⟩) (by first | omega | (simp only; omega))) ?_ rfl; repeat (first | exact trivial | refine ⟨rfl, ?_⟩ | refine ⟨congrArg some nx, ?_⟩ | refine ⟨congrArg (fun v => some (A.int .i64 v)) (by skip), ?_⟩))
              · refine AOps.unw rfl rfl rfl rfl ?_
                refine AOps.unw rfl rfl rfl rfl ?_
                refine AOps.unw rfl rfl rfl rfl ?_
                refine AOps.simW okL rfl rfl rfl rfl ?_
                refine AOps.sim okL rfl rfl ?_
                refine AOps.nil ?_
                refine AWp.condF rfl ?_
                refine AWp.skip ?_
                refine AWp.region ?_
                refine AOps.sim okL rfl rfl ?_
                refine AOps.sim okL rfl rfl ?_
                refine AOps.sim okL rfl rfl ?_
                refine AOps.nil ?_
                refine seqQ_n ?_
                first | (refine bodyQ_r (by first | exact ResOk.one rfl rfl | exact ResOk.two rfl rfl rfl | exact ResOk.three rfl rfl rfl rfl | exact ResOk.none rfl) ?_; rw [hVV, ← hm]; clear ih IH hc hm hVV; simp_all [sideM]; done) | (refine AIn.nextN 1 (ih (k + 1) (⟨by omega, by rw [← hm]; clear ih IH hc hm hVV; simp_all [sideM]⟩) (by first | omega | (simp only; omega))) ?_ rfl; repeat (first | exact trivial | refine ⟨rfl, ?_⟩ | refine ⟨congrArg some nx, ?_⟩ | refine ⟨congrArg (fun v => some (A.int .i64 v)) (by skip), ?_⟩))
      · have h := of_decide_eq_false h
        simp only [List.length_map] at h
        rw [List.drop_eq_nil_of_le (by omega), nodeL] at hm
        have hV : nodeV fx x g kk = nodeE fx x := by rw [hVV, ← hm]; simp
        cases hxl : x.l with
        | nil =>
          refine AWp.exit ?_
          refine AWp.seq ?_
          refine AWp.region ?_
          refine AOps.sim okL rfl rfl ?_
          refine AOps.pln ?_; refine AOp.load okL rfl (.head _) rfl rfl rfl rfl ?_
          refine AOps.sim okL rfl rfl ?_
          refine AOps.sim okL rfl rfl ?_
          refine AOps.guardCase rfl rfl rfl (fun h => ?_) (fun h => ?_)
          · refine AOps.unw rfl rfl rfl rfl ?_
            refine AOps.unw rfl rfl rfl rfl ?_
            refine AOps.unw rfl rfl rfl rfl ?_
            refine AOps.sim okL rfl rfl ?_
            refine AOps.sim okL rfl rfl ?_
            refine AOps.unw rfl rfl rfl rfl ?_
            refine AOps.unw rfl rfl rfl rfl ?_
            refine AOps.unw rfl rfl rfl rfl ?_
            refine AOps.unw rfl rfl rfl rfl ?_
            refine AOps.unw rfl rfl rfl rfl ?_
            refine AOps.sim okL rfl rfl ?_
            refine AOps.sim okL rfl rfl ?_
            refine AOps.nil ?_
            refine AWp.ret ?_
            first | (refine bodyQ_r (by first | exact ResOk.one rfl rfl | exact ResOk.two rfl rfl rfl | exact ResOk.three rfl rfl rfl rfl | exact ResOk.none rfl) ?_; rw [hV]; clear ih IH; first | (simp_all [nodeE]; done) | (simp_all [nodeE]; intro _; exfalso; omega)) | (exfalso; clear ih IH; simp_all [nodeA, partsM, inM]; done)
          · refine AOps.simW okL rfl rfl rfl rfl ?_
            refine AOps.wtd rfl rfl rfl ?_; refine AOp.load okL rfl (.head _) rfl rfl rfl rfl ?_
            refine AOps.simW okL rfl rfl rfl rfl ?_
            refine AOps.sim okL rfl rfl ?_
            refine AOps.sim okL rfl rfl ?_
            refine AOps.guardCase rfl rfl rfl (fun h => ?_) (fun h => ?_)
            · refine AOps.unw rfl rfl rfl rfl ?_
              refine AOps.unw rfl rfl rfl rfl ?_
              refine AOps.unw rfl rfl rfl rfl ?_
              refine AOps.unw rfl rfl rfl rfl ?_
              refine AOps.unw rfl rfl rfl rfl ?_
              refine AOps.sim okL rfl rfl ?_
              refine AOps.sim okL rfl rfl ?_
              refine AOps.nil ?_
              refine AWp.ret ?_
              first | (refine bodyQ_r (by first | exact ResOk.one rfl rfl | exact ResOk.two rfl rfl rfl | exact ResOk.three rfl rfl rfl rfl | exact ResOk.none rfl) ?_; rw [hV]; clear ih IH; first | (simp_all [nodeE]; done) | (simp_all [nodeE]; intro _; exfalso; omega)) | (exfalso; clear ih IH; simp_all [nodeA, partsM, inM]; done)
            · refine AOps.simW okL rfl rfl rfl rfl ?_
              refine AOps.wtd rfl rfl rfl ?_; refine AOp.load okL rfl (.head _) rfl rfl rfl rfl ?_
              refine AOps.guardCase rfl rfl rfl (fun h => ?_) (fun h => ?_)
              · refine AOps.unw rfl rfl rfl rfl ?_
                refine AOps.unw rfl rfl rfl rfl ?_
                refine AOps.unw rfl rfl rfl rfl ?_
                refine AOps.sim okL rfl rfl ?_
                refine AOps.sim okL rfl rfl ?_
                refine AOps.nil ?_
                refine AWp.ret ?_
                first | (refine bodyQ_r (by first | exact ResOk.one rfl rfl | exact ResOk.two rfl rfl rfl | exact ResOk.three rfl rfl rfl rfl | exact ResOk.none rfl) ?_; rw [hV]; clear ih IH; first | (simp_all [nodeE]; done) | (simp_all [nodeE]; intro _; exfalso; omega)) | (exfalso; clear ih IH; simp_all [nodeA, partsM, inM]; done)
              · refine AOps.guardCase rfl rfl rfl (fun h => ?_) (fun h => ?_)
                · refine AOps.unw rfl rfl rfl rfl ?_
                  refine AOps.unw rfl rfl rfl rfl ?_
                  refine AOps.unw rfl rfl rfl rfl ?_
                  refine AOps.sim okL rfl rfl ?_
                  refine AOps.sim okL rfl rfl ?_
                  refine AOps.nil ?_
                  refine AWp.ret ?_
                  first | (refine bodyQ_r (by first | exact ResOk.one rfl rfl | exact ResOk.two rfl rfl rfl | exact ResOk.three rfl rfl rfl rfl | exact ResOk.none rfl) ?_; rw [hV]; clear ih IH; first | (simp_all [nodeE]; done) | (simp_all [nodeE]; intro _; exfalso; omega)) | (exfalso; clear ih IH; simp_all [nodeA, partsM, inM]; done)
                · refine AOps.guardCase rfl rfl rfl (fun h => ?_) (fun h => ?_)
                  · refine AOps.unw rfl rfl rfl rfl ?_
                    refine AOps.unw rfl rfl rfl rfl ?_
                    refine AOps.unw rfl rfl rfl rfl ?_
                    refine AOps.sim okL rfl rfl ?_
                    refine AOps.sim okL rfl rfl ?_
                    refine AOps.nil ?_
                    refine AWp.ret ?_
                    first | (refine bodyQ_r (by first | exact ResOk.one rfl rfl | exact ResOk.two rfl rfl rfl | exact ResOk.three rfl rfl rfl rfl | exact ResOk.none rfl) ?_; rw [hV]; clear ih IH; first | (simp_all [nodeE]; done) | (simp_all [nodeE]; intro _; exfalso; omega)) | (exfalso; clear ih IH; simp_all [nodeA, partsM, inM]; done)
                  · refine AOps.guardCase rfl rfl rfl (fun h => ?_) (fun h => ?_)
                    · refine AOps.unw rfl rfl rfl rfl ?_
                      refine AOps.unw rfl rfl rfl rfl ?_
                      refine AOps.unw rfl rfl rfl rfl ?_
                      refine AOps.sim okL rfl rfl ?_
                      refine AOps.sim okL rfl rfl ?_
                      refine AOps.nil ?_
                      refine AWp.ret ?_
                      first | (refine bodyQ_r (by first | exact ResOk.one rfl rfl | exact ResOk.two rfl rfl rfl | exact ResOk.three rfl rfl rfl rfl | exact ResOk.none rfl) ?_; rw [hV]; clear ih IH; first | (simp_all [nodeE]; done) | (simp_all [nodeE]; intro _; exfalso; omega)) | (exfalso; clear ih IH; simp_all [nodeA, partsM, inM]; done)
                    · refine AOps.guardCase rfl rfl rfl (fun h => ?_) (fun h => ?_)
                      · refine AOps.unw rfl rfl rfl rfl ?_
                        refine AOps.unw rfl rfl rfl rfl ?_
                        refine AOps.unw rfl rfl rfl rfl ?_
                        refine AOps.sim okL rfl rfl ?_
                        refine AOps.sim okL rfl rfl ?_
                        refine AOps.nil ?_
                        refine AWp.ret ?_
                        first | (refine bodyQ_r (by first | exact ResOk.one rfl rfl | exact ResOk.two rfl rfl rfl | exact ResOk.three rfl rfl rfl rfl | exact ResOk.none rfl) ?_; rw [hV]; clear ih IH; first | (simp_all [nodeE]; done) | (simp_all [nodeE]; intro _; exfalso; omega)) | (exfalso; clear ih IH; simp_all [nodeA, partsM, inM]; done)
                      · refine AOps.guardCase rfl rfl rfl (fun h => ?_) (fun h => ?_)
                        · refine AOps.unw rfl rfl rfl rfl ?_
                          refine AOps.unw rfl rfl rfl rfl ?_
                          refine AOps.unw rfl rfl rfl rfl ?_
                          refine AOps.sim okL rfl rfl ?_
                          refine AOps.sim okL rfl rfl ?_
                          refine AOps.nil ?_
                          refine AWp.ret ?_
                          first | (refine bodyQ_r (by first | exact ResOk.one rfl rfl | exact ResOk.two rfl rfl rfl | exact ResOk.three rfl rfl rfl rfl | exact ResOk.none rfl) ?_; rw [hV]; clear ih IH; first | (simp_all [nodeE]; done) | (simp_all [nodeE]; intro _; exfalso; omega)) | (exfalso; clear ih IH; simp_all [nodeA, partsM, inM]; done)
                        · first | (refine bodyQ_r (by first | exact ResOk.one rfl rfl | exact ResOk.two rfl rfl rfl | exact ResOk.three rfl rfl rfl rfl | exact ResOk.none rfl) ?_; rw [hV]; clear ih IH; first | (simp_all [nodeE]; done) | (simp_all [nodeE]; intro _; exfalso; omega)) | (exfalso; clear ih IH; simp_all [nodeA, partsM, inM]; done)
        | cons y0 l0 =>
          have hg : x.l[0]? = some y0 := by rw [hxl]; rfl
          have hS : Sh y0 := nodeV_Sh y0 (nodeL_mem hm.symm y0 (by rw [hxl]; exact List.mem_cons_self)).1
          refine AWp.exit ?_
          refine AWp.seq ?_
          refine AWp.region ?_
          refine AOps.sim okL rfl rfl ?_
          refine AOps.pln ?_; refine AOp.load okL rfl (.head _) rfl rfl rfl rfl ?_
          refine AOps.sim okL rfl rfl ?_
          refine AOps.sim okL rfl rfl ?_
          refine AOps.guardCase rfl rfl rfl (fun h => ?_) (fun h => ?_)
          · refine AOps.unw rfl rfl rfl rfl ?_
            refine AOps.unw rfl rfl rfl rfl ?_
            refine AOps.unw rfl rfl rfl rfl ?_
            refine AOps.sim okL rfl rfl ?_
            refine AOps.sim okL rfl rfl ?_
            refine AOps.unw rfl rfl rfl rfl ?_
            refine AOps.unw rfl rfl rfl rfl ?_
            refine AOps.unw rfl rfl rfl rfl ?_
            refine AOps.unw rfl rfl rfl rfl ?_
            refine AOps.unw rfl rfl rfl rfl ?_
            refine AOps.sim okL rfl rfl ?_
            refine AOps.sim okL rfl rfl ?_
            refine AOps.nil ?_
            refine AWp.ret ?_
            (refine bodyQ_r (by first | exact ResOk.one rfl rfl | exact ResOk.two rfl rfl rfl | exact ResOk.three rfl rfl rfl rfl | exact ResOk.none rfl) ?_; rw [hV]; clear ih IH; first | (simp_all [nodeE]; done) | (simp_all [nodeE]; intro _; exfalso; omega))
          · refine AOps.simW okL rfl rfl rfl rfl ?_
            refine AOps.wtd rfl rfl rfl ?_; refine AOp.load okL rfl (.head _) rfl rfl rfl rfl ?_
            refine AOps.simW okL rfl rfl rfl rfl ?_
            refine AOps.sim okL rfl rfl ?_
            refine AOps.sim okL rfl rfl ?_
            refine AOps.guardCase rfl rfl rfl (fun h => ?_) (fun h => ?_)
            · refine AOps.unw rfl rfl rfl rfl ?_
              refine AOps.unw rfl rfl rfl rfl ?_
              refine AOps.unw rfl rfl rfl rfl ?_
              refine AOps.unw rfl rfl rfl rfl ?_
              refine AOps.unw rfl rfl rfl rfl ?_
              refine AOps.sim okL rfl rfl ?_
              refine AOps.sim okL rfl rfl ?_
              refine AOps.nil ?_
              refine AWp.ret ?_
              (refine bodyQ_r (by first | exact ResOk.one rfl rfl | exact ResOk.two rfl rfl rfl | exact ResOk.three rfl rfl rfl rfl | exact ResOk.none rfl) ?_; rw [hV]; clear ih IH; first | (simp_all [nodeE]; done) | (simp_all [nodeE]; intro _; exfalso; omega))
            · refine AOps.simW okL rfl rfl rfl rfl ?_
              refine AOps.wtd rfl rfl rfl ?_; refine AOp.load okL rfl (.head _) rfl rfl rfl rfl ?_
              refine AOps.simW okL rfl rfl (sOp_idxD rfl rfl rfl rfl rfl (Int.le_refl _) (getC hg) rfl) rfl ?_
              refine AOps.simW okL rfl rfl rfl rfl ?_
              refine AOps.wtd rfl rfl rfl ?_; focus (refine AOp.callP (v := ?_) rfl rfl rfl ?_ ?_; rotate_left; exact (hF y0 hS))
              refine AOps.sim okL rfl rfl ?_
              refine AOps.sim okL rfl rfl ?_
              refine AOps.nil ?_
              refine AWp.ret ?_
              (refine bodyQ_r (by first | exact ResOk.one rfl rfl | exact ResOk.two rfl rfl rfl | exact ResOk.three rfl rfl rfl rfl | exact ResOk.none rfl) ?_; rw [hV]; clear ih IH; first | (simp_all [nodeE]; done) | (simp_all [nodeE]; intro _; exfalso; omega))
    · refine AWp.seq ?_
      refine AWp.region ?_
      refine AOps.sim okL rfl rfl ?_
      refine AOps.pln ?_; refine AOp.load okL rfl (.head _) rfl rfl rfl rfl ?_
      refine AOps.sim okL rfl rfl ?_
      refine AOps.sim okL rfl rfl ?_
      refine AOps.guardCase rfl rfl rfl (fun h => ?_) (fun h => ?_)
      · refine AOps.simW okL rfl rfl rfl rfl ?_
        refine AOps.wtd rfl rfl rfl ?_; refine AOp.load okL rfl (.head _) rfl rfl rfl rfl ?_
        refine AOps.simW okL rfl rfl rfl rfl ?_
        refine AOps.sim okL rfl rfl ?_
        refine AOps.sim okL rfl rfl ?_
        refine AOps.guardCase rfl rfl rfl (fun h => ?_) (fun h => ?_)
        · refine AOps.unw rfl rfl rfl rfl ?_
          refine AOps.unw rfl rfl rfl rfl ?_
          refine AOps.unw rfl rfl rfl rfl ?_
          refine AOps.unw rfl rfl rfl rfl ?_
          refine AOps.unwU rfl rfl rfl ?_
          refine AOps.unwU rfl rfl rfl ?_
          refine AOps.unwU rfl rfl rfl ?_
          refine AOps.unw rfl rfl rfl rfl ?_
          refine AOps.unw rfl rfl rfl rfl ?_
          refine AOps.unwU rfl rfl rfl ?_
          refine AOps.unwU rfl rfl rfl ?_
          refine AOps.unwU rfl rfl rfl ?_
          refine AOps.unwU rfl rfl rfl ?_
          refine AOps.unw rfl rfl rfl rfl ?_
          refine AOps.sim okL rfl rfl ?_
          refine AOps.sim okL rfl rfl ?_
          refine AOps.unw rfl rfl rfl rfl ?_
          refine AOps.unw rfl rfl rfl rfl ?_
          refine AOps.unw rfl rfl rfl rfl ?_
          refine AOps.unw rfl rfl rfl rfl ?_
          refine AOps.unwU rfl rfl rfl ?_
          refine AOps.unwU rfl rfl rfl ?_
          refine AOps.unwU rfl rfl rfl ?_
          refine AOps.unwU rfl rfl rfl ?_
          refine AOps.unw rfl rfl rfl rfl ?_
          refine AOps.sim okL rfl rfl ?_
          refine AOps.sim okL rfl rfl ?_
          refine AOps.unw rfl rfl rfl rfl ?_
          refine AOps.unw rfl rfl rfl rfl ?_
          refine AOps.unw rfl rfl rfl rfl ?_
          refine AOps.unw rfl rfl rfl rfl ?_
          refine AOps.unwU rfl rfl rfl ?_
          refine AOps.unwU rfl rfl rfl ?_
          refine AOps.unwU rfl rfl rfl ?_
          refine AOps.unwU rfl rfl rfl ?_
          refine AOps.unw rfl rfl rfl rfl ?_
          refine AOps.sim okL rfl rfl ?_
          refine AOps.sim okL rfl rfl ?_
          refine AOps.unw rfl rfl rfl rfl ?_
          refine AOps.unw rfl rfl rfl rfl ?_
          refine AOps.unw rfl rfl rfl rfl ?_
          refine AOps.unw rfl rfl rfl rfl ?_
          refine AOps.unwU rfl rfl rfl ?_
          refine AOps.unw rfl rfl rfl rfl ?_
          refine AOps.sim okL rfl rfl ?_
          refine AOps.nil ?_
          refine AWp.condT rfl ?_
          refine AWp.seq ?_
          refine AWp.region ?_
          refine AOps.sim okL rfl rfl ?_
          refine AOps.nil ?_
          refine AWp.ret ?_
          first | (refine hR _ _ _ (by intro h; cases h) ?_; refine bodyQ_r (by first | exact ResOk.one rfl rfl | exact ResOk.two rfl rfl rfl | exact ResOk.three rfl rfl rfl rfl | exact ResOk.none rfl) ?_; clear K hR IH; rw [nodeV_eq]; simp_all [nodeB]; done) | (refine K () ?_ 0 _ _ ⟨rfl, rfl, rfl, trivial⟩ rfl; clear K hR IH; simp_all [nodeB]; done)
        · refine AOps.simW okL rfl rfl rfl rfl ?_
          refine AOps.wtd rfl rfl rfl ?_; refine AOp.load okL rfl (.head _) rfl rfl rfl rfl ?_
          refine AOps.simW okL rfl rfl rfl rfl ?_
          refine AOps.simW okL rfl rfl rfl rfl ?_
          refine AOps.guardCase rfl rfl rfl (fun h => ?_) (fun h => ?_)
          · exfalso; clear K hR IH; simp_all; done
          · refine AOps.unw rfl rfl rfl rfl ?_
            refine AOps.unw rfl rfl rfl rfl ?_
            refine AOps.unw rfl rfl rfl rfl ?_
            refine AOps.simW okL rfl rfl rfl rfl ?_
            refine AOps.simW okL rfl rfl rfl rfl ?_
            refine AOps.unw rfl rfl rfl rfl ?_
            refine AOps.unw rfl rfl rfl rfl ?_
            refine AOps.unw rfl rfl rfl rfl ?_
            refine AOps.unw rfl rfl rfl rfl ?_
            refine AOps.simW okL rfl rfl rfl rfl ?_
            refine AOps.sim okL rfl rfl ?_
            refine AOps.sim okL rfl rfl ?_
            refine AOps.simW okL rfl rfl rfl rfl ?_
            refine AOps.wtd rfl rfl rfl ?_; refine AOp.load okL rfl (.head _) rfl rfl rfl rfl ?_
            refine AOps.simW okL rfl rfl rfl rfl ?_
            refine AOps.simW okL rfl rfl rfl rfl ?_
            refine AOps.guardCase rfl rfl rfl (fun h => ?_) (fun h => ?_)
            · refine AOps.simW okL rfl rfl rfl rfl ?_
              refine AOps.wtd rfl rfl rfl ?_; refine AOp.load okL rfl (.head _) rfl rfl rfl rfl ?_
              refine AOps.wtd rfl rfl rfl ?_; focus (refine AOp.callP (v := ?_) rfl rfl rfl ?_ ?_; rotate_left; exact (refIsSet_tr _))
              refine AOps.simW okL rfl rfl rfl rfl ?_
              refine AOps.simW okL rfl rfl rfl rfl ?_
              refine AOps.sim okL rfl rfl ?_
              refine AOps.sim okL rfl rfl ?_
              refine AOps.guardCase rfl rfl rfl (fun h => ?_) (fun h => ?_)
              · refine AOps.unw rfl rfl rfl rfl ?_
                refine AOps.unw rfl rfl rfl rfl ?_
                refine AOps.unw rfl rfl rfl rfl ?_
                refine AOps.unw rfl rfl rfl rfl ?_
                refine AOps.unwU rfl rfl rfl ?_
                refine AOps.unwU rfl rfl rfl ?_
                refine AOps.unwU rfl rfl rfl ?_
                refine AOps.unwU rfl rfl rfl ?_
                refine AOps.unw rfl rfl rfl rfl ?_
                refine AOps.sim okL rfl rfl ?_
                refine AOps.sim okL rfl rfl ?_
                refine AOps.unw rfl rfl rfl rfl ?_
                refine AOps.unw rfl rfl rfl rfl ?_
                refine AOps.unw rfl rfl rfl rfl ?_
                refine AOps.unw rfl rfl rfl rfl ?_
                refine AOps.unwU rfl rfl rfl ?_
                refine AOps.unw rfl rfl rfl rfl ?_
                refine AOps.sim okL rfl rfl ?_
                refine AOps.nil ?_
                refine AWp.condT rfl ?_
                refine AWp.seq ?_
                refine AWp.region ?_
                refine AOps.sim okL rfl rfl ?_
                refine AOps.nil ?_
                refine AWp.ret ?_
                first | (refine hR _ _ _ (by intro h; cases h) ?_; refine bodyQ_r (by first | exact ResOk.one rfl rfl | exact ResOk.two rfl rfl rfl | exact ResOk.three rfl rfl rfl rfl | exact ResOk.none rfl) ?_; clear K hR IH; rw [nodeV_eq]; simp_all [nodeB]; done) | (refine K () ?_ 0 _ _ ⟨rfl, rfl, rfl, trivial⟩ rfl; clear K hR IH; simp_all [nodeB]; done)
              · refine AOps.simW okL rfl rfl rfl rfl ?_
                refine AOps.wtd rfl rfl rfl ?_; refine AOp.load okL rfl (.head _) rfl rfl rfl rfl ?_
                refine AOps.simW okL rfl rfl rfl rfl ?_
                refine AOps.simW okL rfl rfl rfl rfl ?_
                refine AOps.guardCase rfl rfl rfl (fun h => ?_) (fun h => ?_)
                · exfalso; clear K hR IH; simp_all; done
                · refine AOps.unw rfl rfl rfl rfl ?_
                  refine AOps.unw rfl rfl rfl rfl ?_
                  refine AOps.unw rfl rfl rfl rfl ?_
                  refine AOps.unw rfl rfl rfl rfl ?_
                  refine AOps.simW okL rfl rfl rfl rfl ?_
                  refine AOps.sim okL rfl rfl ?_
                  refine AOps.sim okL rfl rfl ?_
                  refine AOps.simW okL rfl rfl rfl rfl ?_
                  refine AOps.wtd rfl rfl rfl ?_; refine AOp.load okL rfl (.head _) rfl rfl rfl rfl ?_
                  refine AOps.simW okL rfl rfl rfl rfl ?_
                  refine AOps.simW okL rfl rfl rfl rfl ?_
                  refine AOps.guardCase rfl rfl rfl (fun h => ?_) (fun h => ?_)
                  · exfalso; clear K hR IH; simp_all; done
                  · refine AOps.unw rfl rfl rfl rfl ?_
                    refine AOps.simW okL rfl rfl rfl rfl ?_
                    refine AOps.sim okL rfl rfl ?_
                    refine AOps.nil ?_
                    refine AWp.condF rfl ?_
                    refine AWp.skip ?_
                    first | (refine hR _ _ _ (by intro h; cases h) ?_; refine bodyQ_r (by first | exact ResOk.one rfl rfl | exact ResOk.two rfl rfl rfl | exact ResOk.three rfl rfl rfl rfl | exact ResOk.none rfl) ?_; clear K hR IH; rw [nodeV_eq]; simp_all [nodeB]; done) | (refine K () ?_ 0 _ _ ⟨rfl, rfl, rfl, trivial⟩ rfl; clear K hR IH; simp_all [nodeB]; done)
            · refine AOps.unw rfl rfl rfl rfl ?_
              refine AOps.unw rfl rfl rfl rfl ?_
              refine AOps.unw rfl rfl rfl rfl ?_
              refine AOps.unw rfl rfl rfl rfl ?_
              refine AOps.simW okL rfl rfl rfl rfl ?_
              refine AOps.sim okL rfl rfl ?_
              refine AOps.sim okL rfl rfl ?_
              refine AOps.simW okL rfl rfl rfl rfl ?_
              refine AOps.wtd rfl rfl rfl ?_; refine AOp.load okL rfl (.head _) rfl rfl rfl rfl ?_
              refine AOps.simW okL rfl rfl rfl rfl ?_
              refine AOps.simW okL rfl rfl rfl rfl ?_
              refine AOps.guardCase rfl rfl rfl (fun h => ?_) (fun h => ?_)
              · refine AOps.simW okL rfl rfl rfl rfl ?_
                refine AOps.wtd rfl rfl rfl ?_; refine AOp.load okL rfl (.head _) rfl rfl rfl rfl ?_
                refine AOps.simW okL rfl rfl rfl rfl ?_
                refine AOps.simW okL rfl rfl rfl rfl ?_
                refine AOps.simW okL rfl rfl rfl rfl ?_
                refine AOps.sim okL rfl rfl ?_
                refine AOps.sim okL rfl rfl ?_
                refine AOps.guardCase rfl rfl rfl (fun h => ?_) (fun h => ?_)
                · refine AOps.unw rfl rfl rfl rfl ?_
                  refine AOps.unw rfl rfl rfl rfl ?_
                  refine AOps.unw rfl rfl rfl rfl ?_
                  refine AOps.unw rfl rfl rfl rfl ?_
                  refine AOps.unwU rfl rfl rfl ?_
                  refine AOps.unw rfl rfl rfl rfl ?_
                  refine AOps.sim okL rfl rfl ?_
                  refine AOps.nil ?_
                  refine AWp.condT rfl ?_
                  refine AWp.seq ?_
                  refine AWp.region ?_
                  refine AOps.sim okL rfl rfl ?_
                  refine AOps.nil ?_
                  refine AWp.ret ?_
                  first | (refine hR _ _ _ (by intro h; cases h) ?_; refine bodyQ_r (by first | exact ResOk.one rfl rfl | exact ResOk.two rfl rfl rfl | exact ResOk.three rfl rfl rfl rfl | exact ResOk.none rfl) ?_; clear K hR IH; rw [nodeV_eq]; simp_all [nodeB]; done) | (refine K () ?_ 0 _ _ ⟨rfl, rfl, rfl, trivial⟩ rfl; clear K hR IH; simp_all [nodeB]; done)
                · refine AOps.simW okL rfl rfl rfl rfl ?_
                  refine AOps.wtd rfl rfl rfl ?_; refine AOp.load okL rfl (.head _) rfl rfl rfl rfl ?_
                  refine AOps.simW okL rfl rfl rfl rfl ?_
                  refine AOps.simW okL rfl rfl rfl rfl ?_
                  refine AOps.guardCase rfl rfl rfl (fun h => ?_) (fun h => ?_)
                  · refine AOps.simW okL rfl rfl rfl rfl ?_
                    refine AOps.simW okL rfl rfl rfl rfl ?_
                    refine AOps.sim okL rfl rfl ?_
                    refine AOps.nil ?_
                    refine seqQ_n ?_
                    refine AWp.condCase rfl (fun h => ?_) (fun h => ?_)
                    · refine AWp.seq ?_
                      refine AWp.region ?_
                      refine AOps.sim okL rfl rfl ?_
                      refine AOps.nil ?_
                      refine AWp.ret ?_
                      first | (refine hR _ _ _ (by intro h; cases h) ?_; refine bodyQ_r (by first | exact ResOk.one rfl rfl | exact ResOk.two rfl rfl rfl | exact ResOk.three rfl rfl rfl rfl | exact ResOk.none rfl) ?_; clear K hR IH; rw [nodeV_eq]; simp_all [nodeB]; done) | (refine K () ?_ 0 _ _ ⟨rfl, rfl, rfl, trivial⟩ rfl; clear K hR IH; simp_all [nodeB]; done)
                    · refine AWp.skip ?_
                      first | (refine hR _ _ _ (by intro h; cases h) ?_; refine bodyQ_r (by first | exact ResOk.one rfl rfl | exact ResOk.two rfl rfl rfl | exact ResOk.three rfl rfl rfl rfl | exact ResOk.none rfl) ?_; clear K hR IH; rw [nodeV_eq]; simp_all [nodeB]; done) | (refine K () ?_ 0 _ _ ⟨rfl, rfl, rfl, trivial⟩ rfl; clear K hR IH; simp_all [nodeB]; done)
                  · refine AOps.unw rfl rfl rfl rfl ?_
                    refine AOps.simW okL rfl rfl rfl rfl ?_
                    refine AOps.sim okL rfl rfl ?_
                    refine AOps.nil ?_
                    refine AWp.condF rfl ?_
                    refine AWp.skip ?_
                    first | (refine hR _ _ _ (by intro h; cases h) ?_; refine bodyQ_r (by first | exact ResOk.one rfl rfl | exact ResOk.two rfl rfl rfl | exact ResOk.three rfl rfl rfl rfl | exact ResOk.none rfl) ?_; clear K hR IH; rw [nodeV_eq]; simp_all [nodeB]; done) | (refine K () ?_ 0 _ _ ⟨rfl, rfl, rfl, trivial⟩ rfl; clear K hR IH; simp_all [nodeB]; done)
              · exfalso; clear K hR IH; simp_all; done
      · refine AOps.unw rfl rfl rfl rfl ?_
        refine AOps.unw rfl rfl rfl rfl ?_
        refine AOps.unw rfl rfl rfl rfl ?_
        refine AOps.sim okL rfl rfl ?_
        refine AOps.sim okL rfl rfl ?_
        refine AOps.simW okL rfl rfl rfl rfl ?_
        refine AOps.wtd rfl rfl rfl ?_; refine AOp.load okL rfl (.head _) rfl rfl rfl rfl ?_
        refine AOps.simW okL rfl rfl rfl rfl ?_
        refine AOps.simW okL rfl rfl rfl rfl ?_
        refine AOps.guardCase rfl rfl rfl (fun h => ?_) (fun h => ?_)
        · refine AOps.simW okL rfl rfl rfl rfl ?_
          refine AOps.wtd rfl rfl rfl ?_; refine AOp.load okL rfl (.head _) rfl rfl rfl rfl ?_
          refine AOps.simW okL rfl rfl rfl rfl ?_
          refine AOps.simW okL rfl rfl rfl rfl ?_
          refine AOps.simW okL rfl rfl rfl rfl ?_
          refine AOps.guardCase rfl rfl rfl (fun h => ?_) (fun h => ?_)
          · refine AOps.simW okL rfl rfl rfl rfl ?_
            refine AOps.wtd rfl rfl rfl ?_; refine AOp.load okL rfl (.head _) rfl rfl rfl rfl ?_
            refine AOps.wtd rfl rfl rfl ?_; focus (refine AOp.callP (v := ?_) rfl rfl rfl ?_ ?_; rotate_left; exact (refIsName_tr _))
            refine AOps.simW okL rfl rfl rfl rfl ?_
            refine AOps.simW okL rfl rfl rfl rfl ?_
            refine AOps.sim okL rfl rfl ?_
            refine AOps.sim okL rfl rfl ?_
            refine AOps.guardCase rfl rfl rfl (fun h => ?_) (fun h => ?_)
            · refine AOps.unw rfl rfl rfl rfl ?_
              refine AOps.unw rfl rfl rfl rfl ?_
              refine AOps.unw rfl rfl rfl rfl ?_
              refine AOps.unw rfl rfl rfl rfl ?_
              refine AOps.unwU rfl rfl rfl ?_
              refine AOps.unwU rfl rfl rfl ?_
              refine AOps.unwU rfl rfl rfl ?_
              refine AOps.unwU rfl rfl rfl ?_
              refine AOps.unw rfl rfl rfl rfl ?_
              refine AOps.sim okL rfl rfl ?_
              refine AOps.sim okL rfl rfl ?_
              refine AOps.unw rfl rfl rfl rfl ?_
              refine AOps.unw rfl rfl rfl rfl ?_
              refine AOps.unw rfl rfl rfl rfl ?_
              refine AOps.unw rfl rfl rfl rfl ?_
              refine AOps.unwU rfl rfl rfl ?_
              refine AOps.unwU rfl rfl rfl ?_
              refine AOps.unwU rfl rfl rfl ?_
              refine AOps.unwU rfl rfl rfl ?_
              refine AOps.unw rfl rfl rfl rfl ?_
              refine AOps.sim okL rfl rfl ?_
              refine AOps.sim okL rfl rfl ?_
              refine AOps.unw rfl rfl rfl rfl ?_
              refine AOps.unw rfl rfl rfl rfl ?_
              refine AOps.unw rfl rfl rfl rfl ?_
              refine AOps.unw rfl rfl rfl rfl ?_
              refine AOps.unwU rfl rfl rfl ?_
              refine AOps.unw rfl rfl rfl rfl ?_
              refine AOps.sim okL rfl rfl ?_
              refine AOps.nil ?_
              refine AWp.condT rfl ?_
              refine AWp.seq ?_
              refine AWp.region ?_
              refine AOps.sim okL rfl rfl ?_
              refine AOps.nil ?_
              refine AWp.ret ?_
              first | (refine hR _ _ _ (by intro h; cases h) ?_; refine bodyQ_r (by first | exact ResOk.one rfl rfl | exact ResOk.two rfl rfl rfl | exact ResOk.three rfl rfl rfl rfl | exact ResOk.none rfl) ?_; clear K hR IH; rw [nodeV_eq]; simp_all [nodeB]; done) | (refine K () ?_ 0 _ _ ⟨rfl, rfl, rfl, trivial⟩ rfl; clear K hR IH; simp_all [nodeB]; done)
            · refine AOps.simW okL rfl rfl rfl rfl ?_
              refine AOps.wtd rfl rfl rfl ?_; refine AOp.load okL rfl (.head _) rfl rfl rfl rfl ?_
              refine AOps.simW okL rfl rfl rfl rfl ?_
              refine AOps.simW okL rfl rfl rfl rfl ?_
              refine AOps.guardCase rfl rfl rfl (fun h => ?_) (fun h => ?_)
              · exfalso; clear K hR IH; simp_all; done
              · refine AOps.unw rfl rfl rfl rfl ?_
                refine AOps.unw rfl rfl rfl rfl ?_
                refine AOps.unw rfl rfl rfl rfl ?_
                refine AOps.unw rfl rfl rfl rfl ?_
                refine AOps.simW okL rfl rfl rfl rfl ?_
                refine AOps.sim okL rfl rfl ?_
                refine AOps.sim okL rfl rfl ?_
                refine AOps.simW okL rfl rfl rfl rfl ?_
                refine AOps.wtd rfl rfl rfl ?_; refine AOp.load okL rfl (.head _) rfl rfl rfl rfl ?_
                refine AOps.simW okL rfl rfl rfl rfl ?_
                refine AOps.simW okL rfl rfl rfl rfl ?_
                refine AOps.guardCase rfl rfl rfl (fun h => ?_) (fun h => ?_)
                · refine AOps.simW okL rfl rfl rfl rfl ?_
                  refine AOps.wtd rfl rfl rfl ?_; refine AOp.load okL rfl (.head _) rfl rfl rfl rfl ?_
                  refine AOps.simW okL rfl rfl rfl rfl ?_
                  refine AOps.simW okL rfl rfl rfl rfl ?_
                  refine AOps.simW okL rfl rfl rfl rfl ?_
                  refine AOps.sim okL rfl rfl ?_
                  refine AOps.sim okL rfl rfl ?_
                  refine AOps.guardCase rfl rfl rfl (fun h => ?_) (fun h => ?_)
                  · refine AOps.unw rfl rfl rfl rfl ?_
                    refine AOps.unw rfl rfl rfl rfl ?_
                    refine AOps.unw rfl rfl rfl rfl ?_
                    refine AOps.unw rfl rfl rfl rfl ?_
                    refine AOps.unwU rfl rfl rfl ?_
                    refine AOps.unw rfl rfl rfl rfl ?_
                    refine AOps.sim okL rfl rfl ?_
                    refine AOps.nil ?_
                    refine AWp.condT rfl ?_
                    refine AWp.seq ?_
                    refine AWp.region ?_
                    refine AOps.sim okL rfl rfl ?_
                    refine AOps.nil ?_
                    refine AWp.ret ?_
                    first | (refine hR _ _ _ (by intro h; cases h) ?_; refine bodyQ_r (by first | exact ResOk.one rfl rfl | exact ResOk.two rfl rfl rfl | exact ResOk.three rfl rfl rfl rfl | exact ResOk.none rfl) ?_; clear K hR IH; rw [nodeV_eq]; simp_all [nodeB]; done) | (refine K () ?_ 0 _ _ ⟨rfl, rfl, rfl, trivial⟩ rfl; clear K hR IH; simp_all [nodeB]; done)
                  · refine AOps.simW okL rfl rfl rfl rfl ?_
                    refine AOps.wtd rfl rfl rfl ?_; refine AOp.load okL rfl (.head _) rfl rfl rfl rfl ?_
                    refine AOps.simW okL rfl rfl rfl rfl ?_
                    refine AOps.simW okL rfl rfl rfl rfl ?_
                    refine AOps.guardCase rfl rfl rfl (fun h => ?_) (fun h => ?_)
                    · exfalso; clear K hR IH; simp_all; done
                    · refine AOps.unw rfl rfl rfl rfl ?_
                      refine AOps.simW okL rfl rfl rfl rfl ?_
                      refine AOps.sim okL rfl rfl ?_
                      refine AOps.nil ?_
                      refine AWp.condF rfl ?_
                      refine AWp.skip ?_
                      first | (refine hR _ _ _ (by intro h; cases h) ?_; refine bodyQ_r (by first | exact ResOk.one rfl rfl | exact ResOk.two rfl rfl rfl | exact ResOk.three rfl rfl rfl rfl | exact ResOk.none rfl) ?_; clear K hR IH; rw [nodeV_eq]; simp_all [nodeB]; done) | (refine K () ?_ 0 _ _ ⟨rfl, rfl, rfl, trivial⟩ rfl; clear K hR IH; simp_all [nodeB]; done)
                · exfalso; clear K hR IH; simp_all; done
          · refine AOps.unw rfl rfl rfl rfl ?_
            refine AOps.unw rfl rfl rfl rfl ?_
            refine AOps.unw rfl rfl rfl rfl ?_
            refine AOps.unw rfl rfl rfl rfl ?_
            refine AOps.simW okL rfl rfl rfl rfl ?_
            refine AOps.sim okL rfl rfl ?_
            refine AOps.sim okL rfl rfl ?_
            refine AOps.simW okL rfl rfl rfl rfl ?_
            refine AOps.wtd rfl rfl rfl ?_; refine AOp.load okL rfl (.head _) rfl rfl rfl rfl ?_
            refine AOps.simW okL rfl rfl rfl rfl ?_
            refine AOps.simW okL rfl rfl rfl rfl ?_
            refine AOps.guardCase rfl rfl rfl (fun h => ?_) (fun h => ?_)
            · exfalso; clear K hR IH; simp_all; done
            · refine AOps.unw rfl rfl rfl rfl ?_
              refine AOps.unw rfl rfl rfl rfl ?_
              refine AOps.unw rfl rfl rfl rfl ?_
              refine AOps.unw rfl rfl rfl rfl ?_
              refine AOps.simW okL rfl rfl rfl rfl ?_
              refine AOps.sim okL rfl rfl ?_
              refine AOps.sim okL rfl rfl ?_
              refine AOps.simW okL rfl rfl rfl rfl ?_
              refine AOps.wtd rfl rfl rfl ?_; refine AOp.load okL rfl (.head _) rfl rfl rfl rfl ?_
              refine AOps.simW okL rfl rfl rfl rfl ?_
              refine AOps.simW okL rfl rfl rfl rfl ?_
              refine AOps.guardCase rfl rfl rfl (fun h => ?_) (fun h => ?_)
              · refine AOps.simW okL rfl rfl rfl rfl ?_
                refine AOps.wtd rfl rfl rfl ?_; refine AOp.load okL rfl (.head _) rfl rfl rfl rfl ?_
                refine AOps.simW okL rfl rfl rfl rfl ?_
                refine AOps.simW okL rfl rfl rfl rfl ?_
                refine AOps.simW okL rfl rfl rfl rfl ?_
                refine AOps.sim okL rfl rfl ?_
                refine AOps.sim okL rfl rfl ?_
                refine AOps.guardCase rfl rfl rfl (fun h => ?_) (fun h => ?_)
                · refine AOps.unw rfl rfl rfl rfl ?_
                  refine AOps.unw rfl rfl rfl rfl ?_
                  refine AOps.unw rfl rfl rfl rfl ?_
                  refine AOps.unw rfl rfl rfl rfl ?_
                  refine AOps.unwU rfl rfl rfl ?_
                  refine AOps.unw rfl rfl rfl rfl ?_
                  refine AOps.sim okL rfl rfl ?_
                  refine AOps.nil ?_
                  refine AWp.condT rfl ?_
                  refine AWp.seq ?_
                  refine AWp.region ?_
                  refine AOps.sim okL rfl rfl ?_
                  refine AOps.nil ?_
                  refine AWp.ret ?_
                  first | (refine hR _ _ _ (by intro h; cases h) ?_; refine bodyQ_r (by first | exact ResOk.one rfl rfl | exact ResOk.two rfl rfl rfl | exact ResOk.three rfl rfl rfl rfl | exact ResOk.none rfl) ?_; clear K hR IH; rw [nodeV_eq]; simp_all [nodeB]; done) | (refine K () ?_ 0 _ _ ⟨rfl, rfl, rfl, trivial⟩ rfl; clear K hR IH; simp_all [nodeB]; done)
                · refine AOps.simW okL rfl rfl rfl rfl ?_
                  refine AOps.wtd rfl rfl rfl ?_; refine AOp.load okL rfl (.head _) rfl rfl rfl rfl ?_
                  refine AOps.simW okL rfl rfl rfl rfl ?_
                  refine AOps.simW okL rfl rfl rfl rfl ?_
                  refine AOps.guardCase rfl rfl rfl (fun h => ?_) (fun h => ?_)
                  · exfalso; clear K hR IH; simp_all; done
                  · refine AOps.unw rfl rfl rfl rfl ?_
                    refine AOps.simW okL rfl rfl rfl rfl ?_
                    refine AOps.sim okL rfl rfl ?_
                    refine AOps.nil ?_
                    refine AWp.condF rfl ?_
                    refine AWp.skip ?_
                    first | (refine hR _ _ _ (by intro h; cases h) ?_; refine bodyQ_r (by first | exact ResOk.one rfl rfl | exact ResOk.two rfl rfl rfl | exact ResOk.three rfl rfl rfl rfl | exact ResOk.none rfl) ?_; clear K hR IH; rw [nodeV_eq]; simp_all [nodeB]; done) | (refine K () ?_ 0 _ _ ⟨rfl, rfl, rfl, trivial⟩ rfl; clear K hR IH; simp_all [nodeB]; done)
              · exfalso; clear K hR IH; simp_all; done
        · exfalso; clear K hR IH; simp_all; done
  · refine AWp.block ?_
    refine AWp.seq ?_
    refine AWp.seq ?_
    refine AWp.region ?_
    refine AOps.sim okL rfl rfl ?_
    refine AOps.pln ?_; refine AOp.load okL rfl (.head _) rfl rfl rfl rfl ?_
    refine AOps.pln ?_; focus (refine AOp.callP (v := ?_) rfl rfl rfl ?_ ?_; rotate_left; exact (refWithin_tr _ _ _))
    refine AOps.sim okL rfl rfl ?_
    refine AOps.sim okL rfl rfl ?_
    refine AOps.nil ?_
    refine seqQ_n ?_
    refine AWp.condCase rfl (fun h => ?_) (fun h => ?_)
    · refine AWp.skip ?_
      refine AWp.condT rfl ?_
      refine AWp.seq ?_
      refine AWp.region ?_
      refine AOps.sim okL rfl rfl ?_
      refine AOps.nil ?_
      refine AWp.ret ?_
      refine blockQ_r ?_
      first | (refine hR _ _ _ (by intro h; cases h) ?_; refine bodyQ_r (by first | exact ResOk.one rfl rfl | exact ResOk.two rfl rfl rfl | exact ResOk.three rfl rfl rfl rfl | exact ResOk.none rfl) ?_; clear K hR IH; rw [nodeV_eq]; simp_all [nodeA]; done) | (refine K () ?_ 0 _ _ ⟨rfl, rfl, rfl, trivial⟩ rfl; clear K hR IH; simp_all [nodeA]; done)
    · refine AWp.seq ?_
      refine AWp.region ?_
      refine AOps.sim okL rfl rfl ?_
      refine AOps.pln ?_; refine AOp.load okL rfl (.head _) rfl rfl rfl rfl ?_
      refine AOps.sim okL rfl rfl ?_
      refine AOps.sim okL rfl rfl ?_
      refine AOps.sim okL rfl rfl ?_
      refine AOps.pln ?_; focus (refine AOp.callP (v := ?_) rfl rfl rfl ?_ ?_; rotate_left; exact (refWithin_tr _ _ _))
      refine AOps.sim okL rfl rfl ?_
      refine AOps.sim okL rfl rfl ?_
      refine AOps.nil ?_
      refine seqQ_n ?_
      refine AWp.condCase rfl (fun h => ?_) (fun h => ?_)
      · refine AWp.skip ?_
        refine AWp.condT rfl ?_
        refine AWp.seq ?_
        refine AWp.region ?_
        refine AOps.sim okL rfl rfl ?_
        refine AOps.nil ?_
        refine AWp.ret ?_
        refine blockQ_r ?_
        first | (refine hR _ _ _ (by intro h; cases h) ?_; refine bodyQ_r (by first | exact ResOk.one rfl rfl | exact ResOk.two rfl rfl rfl | exact ResOk.three rfl rfl rfl rfl | exact ResOk.none rfl) ?_; clear K hR IH; rw [nodeV_eq]; simp_all [nodeA]; done) | (refine K () ?_ 0 _ _ ⟨rfl, rfl, rfl, trivial⟩ rfl; clear K hR IH; simp_all [nodeA]; done)
      · refine AWp.region ?_
        refine AOps.pln ?_; refine AOp.load okL rfl (.head _) rfl rfl rfl rfl ?_
        refine AOps.sim okL rfl rfl ?_
        refine AOps.pln ?_; focus (refine AOp.callP (v := ?_) rfl rfl rfl ?_ ?_; rotate_left; exact (isNumber_tr _ _))
        refine AOps.sim okL rfl rfl ?_
        refine AOps.sim okL rfl rfl ?_
        refine AOps.nil ?_
        refine seqQ_n ?_
        refine AWp.condCase rfl (fun h => ?_) (fun h => ?_)
        · refine AWp.seq ?_
          refine AWp.region ?_
          refine AOps.sim okL rfl rfl ?_
          refine AOps.nil ?_
          refine AWp.ret ?_
          refine blockQ_r ?_
          first | (refine hR _ _ _ (by intro h; cases h) ?_; refine bodyQ_r (by first | exact ResOk.one rfl rfl | exact ResOk.two rfl rfl rfl | exact ResOk.three rfl rfl rfl rfl | exact ResOk.none rfl) ?_; clear K hR IH; rw [nodeV_eq]; simp_all [nodeA]; done) | (refine K () ?_ 0 _ _ ⟨rfl, rfl, rfl, trivial⟩ rfl; clear K hR IH; simp_all [nodeA]; done)
        · refine AWp.seq ?_
          refine AWp.region ?_
          refine AOps.sim okL rfl rfl ?_
          refine AOps.pln ?_; refine AOp.load okL rfl (.head _) rfl rfl rfl rfl ?_
          refine AOps.sim okL rfl rfl ?_
          refine AOps.sim okL rfl rfl ?_
          refine AOps.nil ?_
          refine seqQ_n ?_
          refine AWp.condCase rfl (fun h => ?_) (fun h => ?_)
          · refine AWp.seq ?_
            refine AWp.region ?_
            refine AOps.sim okL rfl rfl ?_
            refine AOps.pln ?_; refine AOp.load okL rfl (.head _) rfl rfl rfl rfl ?_
            refine AOps.pln ?_; focus (refine AOp.callP (v := ?_) rfl rfl rfl ?_ ?_; rotate_left; exact (refWithin_tr _ _ _))
            refine AOps.sim okL rfl rfl ?_
            refine AOps.sim okL rfl rfl ?_
            refine AOps.guardCase rfl rfl rfl (fun h => ?_) (fun h => ?_)
            · refine AOps.unw rfl rfl rfl rfl ?_
              refine AOps.unw rfl rfl rfl rfl ?_
              refine AOps.unw rfl rfl rfl rfl ?_
              refine AOps.unw rfl rfl rfl rfl ?_
              refine AOps.unwU rfl rfl rfl ?_
              refine AOps.unwU rfl rfl rfl ?_
              refine AOps.unwU rfl rfl rfl ?_
              refine AOps.unwU rfl rfl rfl ?_
              refine AOps.unwU rfl rfl rfl ?_
              refine AOps.unwU rfl rfl rfl ?_
              refine AOps.unwU rfl rfl rfl ?_
              refine AOps.unw rfl rfl rfl rfl ?_
              refine AOps.sim okL rfl rfl ?_
              refine AOps.nil ?_
              refine AWp.condT rfl ?_
              refine AWp.seq ?_
              refine AWp.region ?_
              refine AOps.sim okL rfl rfl ?_
              refine AOps.nil ?_
              refine AWp.ret ?_
              refine blockQ_r ?_
              first | (refine hR _ _ _ (by intro h; cases h) ?_; refine bodyQ_r (by first | exact ResOk.one rfl rfl | exact ResOk.two rfl rfl rfl | exact ResOk.three rfl rfl rfl rfl | exact ResOk.none rfl) ?_; clear K hR IH; rw [nodeV_eq]; simp_all [nodeA]; done) | (refine K () ?_ 0 _ _ ⟨rfl, rfl, rfl, trivial⟩ rfl; clear K hR IH; simp_all [nodeA]; done)
            · refine AOps.simW okL rfl rfl rfl rfl ?_
              refine AOps.wtd rfl rfl rfl ?_; refine AOp.load okL rfl (.head _) rfl rfl rfl rfl ?_
              refine AOps.simW okL rfl rfl rfl rfl ?_
              refine AOps.simW okL rfl rfl rfl rfl ?_
              refine AOps.guardCase rfl rfl rfl (fun h => ?_) (fun h => ?_)
              · refine AOps.simW okL rfl rfl rfl rfl ?_
                refine AOps.wtd rfl rfl rfl ?_; refine AOp.load okL rfl (.head _) rfl rfl rfl rfl ?_
                refine AOps.simW okL rfl rfl rfl rfl ?_
                refine AOps.wtd rfl rfl rfl ?_; refine AOp.load okL rfl (.head _) rfl rfl rfl rfl ?_
                refine AOps.simW okL rfl rfl rfl rfl ?_
                refine AOps.wtd rfl rfl rfl ?_; focus (refine AOp.callP (v := ?_) rfl rfl rfl ?_ ?_; rotate_left; exact (refWithin_tr _ _ _))
                refine AOps.simW okL rfl rfl rfl rfl ?_
                refine AOps.simW okL rfl rfl rfl rfl ?_
                refine AOps.sim okL rfl rfl ?_
                refine AOps.nil ?_
                refine seqQ_n ?_
                refine AWp.condCase rfl (fun h => ?_) (fun h => ?_)
                · refine AWp.seq ?_
                  refine AWp.region ?_
                  refine AOps.sim okL rfl rfl ?_
                  refine AOps.nil ?_
                  refine AWp.ret ?_
                  refine blockQ_r ?_
                  first | (refine hR _ _ _ (by intro h; cases h) ?_; refine bodyQ_r (by first | exact ResOk.one rfl rfl | exact ResOk.two rfl rfl rfl | exact ResOk.three rfl rfl rfl rfl | exact ResOk.none rfl) ?_; clear K hR IH; rw [nodeV_eq]; simp_all [nodeA]; done) | (refine K () ?_ 0 _ _ ⟨rfl, rfl, rfl, trivial⟩ rfl; clear K hR IH; simp_all [nodeA]; done)
                · refine AWp.skip ?_
                  refine blockQ_n ?_
                  first | (refine hR _ _ _ (by intro h; cases h) ?_; refine bodyQ_r (by first | exact ResOk.one rfl rfl | exact ResOk.two rfl rfl rfl | exact ResOk.three rfl rfl rfl rfl | exact ResOk.none rfl) ?_; clear K hR IH; rw [nodeV_eq]; simp_all [nodeA]; done) | (refine K () ?_ 0 _ _ ⟨rfl, rfl, rfl, trivial⟩ rfl; clear K hR IH; simp_all [nodeA]; done)
              · refine AOps.unw rfl rfl rfl rfl ?_
                refine AOps.unw rfl rfl rfl rfl ?_
                refine AOps.unw rfl rfl rfl rfl ?_
                refine AOps.unw rfl rfl rfl rfl ?_
                refine AOps.unw rfl rfl rfl rfl ?_
                refine AOps.unw rfl rfl rfl rfl ?_
                refine AOps.unw rfl rfl rfl rfl ?_
                refine AOps.simW okL rfl rfl rfl rfl ?_
                refine AOps.sim okL rfl rfl ?_
                refine AOps.nil ?_
                refine AWp.condF rfl ?_
                refine AWp.skip ?_
                refine blockQ_n ?_
                first | (refine hR _ _ _ (by intro h; cases h) ?_; refine bodyQ_r (by first | exact ResOk.one rfl rfl | exact ResOk.two rfl rfl rfl | exact ResOk.three rfl rfl rfl rfl | exact ResOk.none rfl) ?_; clear K hR IH; rw [nodeV_eq]; simp_all [nodeA]; done) | (refine K () ?_ 0 _ _ ⟨rfl, rfl, rfl, trivial⟩ rfl; clear K hR IH; simp_all [nodeA]; done)
          · refine AWp.seq ?_
            refine AWp.region ?_
            refine AOps.sim okL rfl rfl ?_
            refine AOps.pln ?_; refine AOp.load okL rfl (.head _) rfl rfl rfl rfl ?_
            refine AOps.sim okL rfl rfl ?_
            refine AOps.sim okL rfl rfl ?_
            refine AOps.guardCase rfl rfl rfl (fun h => ?_) (fun h => ?_)
            · refine AOps.unw rfl rfl rfl rfl ?_
              refine AOps.unw rfl rfl rfl rfl ?_
              refine AOps.unw rfl rfl rfl rfl ?_
              refine AOps.sim okL rfl rfl ?_
              refine AOps.sim okL rfl rfl ?_
              refine AOps.nil ?_
              refine AWp.condT rfl ?_
              refine AWp.seq ?_
              refine AWp.region ?_
              refine AOps.sim okL rfl rfl ?_
              refine AOps.nil ?_
              refine AWp.ret ?_
              refine blockQ_r ?_
              first | (refine hR _ _ _ (by intro h; cases h) ?_; refine bodyQ_r (by first | exact ResOk.one rfl rfl | exact ResOk.two rfl rfl rfl | exact ResOk.three rfl rfl rfl rfl | exact ResOk.none rfl) ?_; clear K hR IH; rw [nodeV_eq]; simp_all [nodeA]; done) | (refine K () ?_ 0 _ _ ⟨rfl, rfl, rfl, trivial⟩ rfl; clear K hR IH; simp_all [nodeA]; done)
            · refine AOps.simW okL rfl rfl rfl rfl ?_
              refine AOps.wtd rfl rfl rfl ?_; refine AOp.load okL rfl (.head _) rfl rfl rfl rfl ?_
              refine AOps.simW okL rfl rfl rfl rfl ?_
              refine AOps.sim okL rfl rfl ?_
              refine AOps.sim okL rfl rfl ?_
              refine AOps.nil ?_
              refine seqQ_n ?_
              refine AWp.condCase rfl (fun h => ?_) (fun h => ?_)
              · refine AWp.seq ?_
                refine AWp.region ?_
                refine AOps.sim okL rfl rfl ?_
                refine AOps.nil ?_
                refine AWp.ret ?_
                refine blockQ_r ?_
                first | (refine hR _ _ _ (by intro h; cases h) ?_; refine bodyQ_r (by first | exact ResOk.one rfl rfl | exact ResOk.two rfl rfl rfl | exact ResOk.three rfl rfl rfl rfl | exact ResOk.none rfl) ?_; clear K hR IH; rw [nodeV_eq]; simp_all [nodeA]; done) | (refine K () ?_ 0 _ _ ⟨rfl, rfl, rfl, trivial⟩ rfl; clear K hR IH; simp_all [nodeA]; done)
              · refine AWp.skip ?_
                refine blockQ_n ?_
                first | (refine hR _ _ _ (by intro h; cases h) ?_; refine bodyQ_r (by first | exact ResOk.one rfl rfl | exact ResOk.two rfl rfl rfl | exact ResOk.three rfl rfl rfl rfl | exact ResOk.none rfl) ?_; clear K hR IH; rw [nodeV_eq]; simp_all [nodeA]; done) | (refine K () ?_ 0 _ _ ⟨rfl, rfl, rfl, trivial⟩ rfl; clear K hR IH; simp_all [nodeA]; done)
end Go.Proofs.Ytiaogfkkfoakpaa

namespace Go.Proofs.Ytiaogfkkfoakpaa
open Go Go.Abs
set_option linter.unusedVariables false
set_option maxRecDepth 100000
set_option linter.unusedSimpArgs false

/-! The names met so far, as the map holds them. -/
def NM (es : List (A × A)) (ns : List (List UInt8)) : Prop := ∀ k : List UInt8, (k ∈ ns ∧ ∃ i, findM (.str k) es = some (some (i, .bool (!(k == []))))) ∨ (k ∉ ns ∧ findM (.str k) es = some none)
theorem NM_nil : NM [] [] := fun k => .inr ⟨by simp, rfl⟩
theorem findM_append {x k v : A} : ∀ {es : List (A × A)} {r : Option (Nat × A)}, findM x es = some r → ∀ b, keyEq x k = some b →
    findM x (es ++ [(k, v)]) = some (match r with | some q => some q | none => match b with | true => some (es.length, v) | false => none)
  | [], r, h, b, hb => by
    simp only [findM] at h; cases h
    simp only [List.nil_append, findM, hb]
    cases b <;> rfl
  | (k', u) :: es, r, h, b, hb => by
    simp only [findM] at h
    simp only [List.cons_append, findM]
    split at h
    · rename_i hk; cases h; simp only [hk]
    · rename_i hk
      split at h
      · rename_i hj
        cases h
        rw [findM_append hj b hb]
      · rename_i hj
        cases h
        rw [findM_append hj b hb]
        cases b <;> rfl
      · cases h
    · cases h
theorem keyEq_str {a : List UInt8} {x : A} (h : keyEq (.str a) x = some true) : x = .str a := by
  cases x <;> simp only [keyEq] at h <;> first | (cases h; done) | skip
  have := eq_of_beq (Option.some.inj h)
  rw [this]
theorem NM_put {es : List (A × A)} {ns : List (List UInt8)} (h : NM es ns) (k : List UInt8) : ∃ es', putM es (.str k) (.bool (!(k == []))) = some es' ∧ NM es' (ns ++ [k]) := by
  rcases h k with ⟨hm, i, hf⟩ | ⟨hm, hf⟩
  · refine ⟨es, ?_, fun k2 => ?_⟩
    · unfold putM
      rw [hf]
      obtain ⟨key, h1, h2⟩ := findM_at hf
      rw [keyEq_str h2] at h1
      obtain ⟨hlt, h3⟩ := List.getElem?_eq_some_iff.1 h1
      simp only
      rw [← h3, List.set_getElem_self]
    · rcases h k2 with ⟨a, b⟩ | ⟨a, b⟩
      · exact .inl ⟨List.mem_append_left _ a, b⟩
      · refine .inr ⟨fun hh => ?_, b⟩
        rcases List.mem_append.1 hh with hh | hh
        · exact a hh
        · rw [List.mem_singleton.1 hh] at a; exact a hm
  · refine ⟨es ++ [(.str k, .bool (!(k == [])))], ?_, fun k2 => ?_⟩
    · unfold putM; rw [hf]
    · by_cases hk : k2 = k
      · subst hk
        refine .inl ⟨by simp, es.length, ?_⟩
        rw [findM_append hf true (by simp [keyEq])]
      · have hb : keyEq (.str k2) (.str k) = some false := by simp [keyEq, hk]
        rcases h k2 with ⟨a, i, b⟩ | ⟨a, b⟩
        · refine .inl ⟨List.mem_append_left _ a, i, ?_⟩
          rw [findM_append b false hb]
        · refine .inr ⟨fun hh => ?_, ?_⟩
          · rcases List.mem_append.1 hh with hh | hh
            · exact a hh
            · exact hk (List.mem_singleton.1 hh)
          · rw [findM_append b false hb]

abbrev RSt := Int × List (List UInt8)
def grpStep (x : Pat) (st : RSt) : Option RSt :=
  if x.op = 7 then (if x.n = w64 (st.1 + 1) ∧ ¬ (x.name ∈ st.2 ∧ x.name ≠ []) then some (w64 (st.1 + 1), st.2 ++ [x.name]) else none) else some st
def lookE (x : Pat) : Bool := !(decide (x.op = 9) && decide (x.n ≥ 2)) || (match x.l with | [] => false | y :: _ => decide ((lenP y).1 = (lenP y).2))
def besO (op op' : Int) : Bool := if op = 4 then !decide (op' = 4) && !decide (op' = 0) else if op = 5 then !decide (op' = 5) else true
mutual
def rgtP : Pat → Int → Bool → RSt → Option RSt
  | .mk op n mn mx nm st l, g, k, s => if (!nodeM (.mk op n mn mx nm st l) g || (decide (op = 18) && k)) = true then none else match grpStep (.mk op n mn mx nm st l) s with
    | none => none
    | some s1 => match rgtL op l g (k || decide (op = 9)) s1 with
      | none => none
      | some s2 => if lookE (.mk op n mn mx nm st l) = true then some s2 else none
def rgtL (op : Int) : List Pat → Int → Bool → RSt → Option RSt
  | [], _, _, s => some s
  | y :: l, g, k, s => if besO op y.op = true then match rgtP y g k s with
    | none => none
    | some s1 => rgtL op l g k s1 else none
end
theorem rgtP_eq (x : Pat) (g : Int) (k : Bool) (s : RSt) : rgtP x g k s = if (!nodeM x g || (decide (x.op = 18) && k)) = true then none else match grpStep x s with
    | none => none
    | some s1 => match rgtL x.op x.l g (k || decide (x.op = 9)) s1 with
      | none => none
      | some s2 => if lookE x = true then some s2 else none := by cases x; rw [rgtP]; rfl
theorem besideM_eq (x y : Pat) : besideM x y = besO x.op y.op := rfl
theorem rgtL_mem {op g : Int} {k : Bool} : ∀ {l : List Pat} {s s' : RSt}, rgtL op l g k s = some s' → ∀ y ∈ l, ∃ s1 s2, rgtP y g k s1 = some s2
  | [], s, s', _, y, hy => by cases hy
  | x :: l, s, s', h, y, hy => by
    simp only [rgtL] at h
    split at h
    · split at h
      · cases h
      · rename_i s1 hx
        rcases List.mem_cons.1 hy with rfl | hy
        · exact ⟨_, _, hx⟩
        · exact rgtL_mem h y hy
    · cases h
theorem nodeM_parts {x : Pat} {g : Int} (h : nodeM x g = true) (ho : x.op = 5 ∨ x.op = 6 ∨ x.op = 7 ∨ x.op = 8 ∨ x.op = 9 ∨ x.op = 15) : x.l ≠ [] := by
  intro hnil
  unfold nodeM at h
  rcases ho with e | e | e | e | e | e <;> simp [e, nodeR, hnil] at h
theorem rgtP_Sh (x : Pat) : ∀ {g : Int} {k : Bool} {s s' : RSt}, rgtP x g k s = some s' → Sh x := by
  induction x using Pat.ind with | h x IH => _
  intro g k s s' h
  rw [rgtP_eq] at h
  split at h
  · cases h
  · rename_i hn
    split at h
    · cases h
    · split at h
      · cases h
      · rename_i s2 hL
        refine .mk x (fun hop => nodeM_parts (g := g) (by cases hq : nodeM x g <;> simp [hq] at hn ⊢) (by rcases hop with e | e | e | e | e <;> simp [e])) fun y hy => ?_
        obtain ⟨a, b, hy'⟩ := rgtL_mem hL y hy
        exact IH y hy hy'
def HP (rs rn rm rg rl : Nat) (s : Int) (es : List (A × A)) (g : Int) : Heap :=
  [(rs, .row 3 1 [[i64 s]]), (rn, .row 80 1 [[.map rm]]), (rg, .row 3 1 [[i64 g]]), (rl, .row 81 1 [[.fn 60 [] [.ptr rg 1 0 0, .ptr rs 1 0 0, .ptr rn 1 0 0, .ptr rl 1 0 0]]]), (rm, .map es)]
def RR (rs rn rm rg rl : Nat) (g : Int) (o : Option RSt) : A → Heap → Prop := fun r H' => ∃ G s ns es, H' = G ++ HP rs rn rm rg rl s es g ∧ NM es ns ∧ ((r = .bool true ∧ o = some (s, ns)) ∨ (r = .bool false ∧ o = none))
theorem RR_of {rs rn rm rg rl : Nat} {g : Int} {o : Option RSt} (G : Heap) {s : Int} {ns : List (List UInt8)} {es : List (A × A)} (hN : NM es ns) (b : Bool) (h : o = if b = true then some (s, ns) else none) : RR rs rn rm rg rl g o (.bool b) (G ++ HP rs rn rm rg rl s es g) := by
  cases b with
  | true => exact ⟨G, s, ns, es, rfl, hN, .inl ⟨rfl, h⟩⟩
  | false => exact ⟨G, s, ns, es, rfl, hN, .inr ⟨rfl, h⟩⟩
theorem AOps.after {P : Program} {N : Nat} {ops rest : List Oper} {Q : Exit → Env → Heap → Prop} {T : Env} {G B F : Heap} (k : AOps P N ops rest Q T (F ++ B)) : AOps P N ops rest Q T ((G ++ B) ++ F) := by
  refine AOps.perm (H' := G ++ (F ++ B)) ?_ (AOps.dropL G k)
  rw [List.append_assoc]
  exact List.perm_append_comm.append_left G
set_option maxHeartbeats 4000000 in
theorem right1_tr (rs rn rm rg rl : Nat) (g : Int) (x : Pat) : ∀ (kk : Bool) (s : Int) (ns : List (List UInt8)) (es : List (A × A)), NM es ns →
    Tr Try.prog 60 [.agg x.C, .bool kk, .ptr rg 1 0 0, .ptr rs 1 0 0, .ptr rn 1 0 0, .ptr rl 1 0 0] (HP rs rn rm rg rl s es g) (RR rs rn rm rg rl g (rgtP x g kk (s, ns))) := by
  induction x using Pat.ind with | h x IH => _
  intro kk s ns es hN
  refine Tr.of_body (N := 89) Try.func60 rfl rfl rfl ?_
  refine AWp.know (t := 0) rfl (Known.agg mem_C (Known.ds _)) fun hlen => ?_
  rw [List.length_map] at hlen
  refine AWp.seq ?_
  refine AWp.region ?_
  refine AOps.pln ?_
  refine AOp.box rfl rfl (isVal_or rfl) rfl rfl ?_
  intro r6 _
  refine AOps.sim okL rfl rfl ?_
  refine AOps.nil ?_
  refine seqQ_n ?_
  refine AWp.seq ?_
  refine AWp.join (α := Unit) (fun _ => [(1, .bool kk), (2, .ptr rg 1 0 0), (3, .ptr rs 1 0 0), (4, .ptr rn 1 0 0), (5, .ptr rl 1 0 0), (6, .ptr r6 7 0 0)]) (fun _ => (r6, .row 25 7 [x.C]) :: HP rs rn rm rg rl s es g)
    (fun _ => (!nodeM x g || (decide (x.op = 18) && kk)) = false) ?_ fun R K hR => ?_
  · rintro _ hA
    refine AWp.seq ?_
    refine AWp.join (α := Int × List (List UInt8) × List (A × A)) (fun _ => [(1, .bool kk), (2, .ptr rg 1 0 0), (3, .ptr rs 1 0 0), (4, .ptr rn 1 0 0), (5, .ptr rl 1 0 0), (6, .ptr r6 7 0 0)]) (fun a => (r6, .row 25 7 [x.C]) :: HP rs rn rm rg rl a.1 a.2.2 g)
      (fun a => NM a.2.2 a.2.1 ∧ grpStep x (s, ns) = some (a.1, a.2.1)) ?_ fun R K hR => ?_
    · rintro ⟨s1, n1, e1⟩ ⟨hN1, hS⟩
      simp only at hN1 hS ⊢
      refine AWp.seq ?_
      refine AWp.seq ?_
      refine AWp.region ?_
      refine AOps.sim okL rfl rfl ?_
      refine AOps.pln ?_; refine AOp.load okL rfl (.head _) rfl rfl rfl rfl ?_
      refine AOps.sim okL rfl rfl ?_
      refine AOps.sim okL rfl rfl ?_
      refine AOps.nil ?_
      refine AWp.block ?_
      refine AWp.loopM (α := Nat × Int × List (List UInt8) × List (A × A)) (fun a => x.l.length - a.1) (fun a => [(1, .bool kk), (2, .ptr rg 1 0 0), (3, .ptr rs 1 0 0), (4, .ptr rn 1 0 0), (5, .ptr rl 1 0 0), (6, .ptr r6 7 0 0), (47, .ds (x.l.map Pat.cells)), (48, i64 (x.l.map Pat.cells).length), (49, i64 a.1)])
        (fun a => (r6, .row 25 7 [x.C]) :: HP rs rn rm rg rl a.2.1 a.2.2.2 g)
        (fun a => a.1 ≤ x.l.length ∧ NM a.2.2.2 a.2.2.1 ∧ rgtL x.op (x.l.drop a.1) g (kk || decide (x.op = 9)) (a.2.1, a.2.2.1) = rgtL x.op x.l g (kk || decide (x.op = 9)) (s1, n1)) (0, s1, n1, e1) ⟨Nat.zero_le _, hN1, rfl⟩ ?_ (List.Perm.refl _) ?_
      · simp only [AllIn]
        refine ⟨rfl, rfl, rfl, rfl, rfl, rfl, rfl, rfl, rfl, trivial⟩
      rintro ⟨k, s2, n2, e2⟩ ⟨hk, hN2, hm⟩ ih
      simp only at hk hN2 hm
      refine AWp.seq ?_
      refine AWp.region ?_
      refine AOps.sim okL rfl rfl ?_
      refine AOps.nil ?_
      refine AWp.seq ?_
      first | refine AWp.condCase rfl (fun h => ?_) (fun h => ?_) | refine AWp.cond rfl (fun h => ?_) (fun h => ?_)
      · have h := of_decide_eq_true h
        simp only [List.length_map] at h
        obtain ⟨y, hy⟩ : ∃ y, x.l[k]? = some y := ⟨x.l[k], by simp [show k < x.l.length by omega]⟩
        have nx := nxt (k := k) (n := x.l.length) (by omega) hlen
        have hym := List.mem_of_getElem? hy
        rw [drop_get hy, rgtL] at hm
        refine AWp.skip ?_
        refine AWp.seq ?_
        refine AWp.block ?_
        refine AWp.seq ?_
        refine AWp.region ?_
        refine AOps.sim okL (sOp_idxD rfl rfl rfl rfl rfl (by omega) (getC hy) rfl) rfl ?_
        refine AOps.sim okL rfl rfl ?_
        refine AOps.pln ?_; refine AOp.alloc okL rfl rfl rfl ?_; intro _ _
        refine AOps.pln ?_; refine AOp.store okL rfl rfl rfl (isVal_or rfl) rfl rfl rfl .here rfl rfl rfl ?_
        refine AOps.nil ?_
        refine AWp.seq ?_
        refine AWp.region ?_
        refine AOps.pln ?_; refine AOp.load okL rfl (.tail _ (.head _)) rfl rfl rfl rfl ?_
        refine AOps.pln ?_; refine AOp.load okL rfl (.head _) rfl rfl rfl rfl ?_
        refine AOps.pln ?_; focus (refine AOp.callP (v := ?_) rfl rfl rfl ?_ ?_; rotate_left; exact (isBeside_tr x y))
        refine AOps.sim okL rfl rfl ?_
        refine AOps.sim okL rfl rfl ?_
        rename_i r10 _
        (first | refine AOps.guardCase rfl rfl rfl (fun hb => ?_) (fun hb => ?_) | refine Pl.guardCase rfl rfl (fun hb => ?_) (fun hb => ?_))
        · have hb : besO x.op y.op = false := by simpa [besideM_eq] using hb
          rw [if_neg (by rw [hb]; simp)] at hm
          refine AOps.unw rfl rfl rfl rfl ?_
          refine AOps.unw rfl rfl rfl rfl ?_
          refine AOps.unw rfl rfl rfl rfl ?_
          refine AOps.unw rfl rfl rfl rfl ?_
          refine AOps.unwU rfl rfl rfl ?_
          refine AOps.unwU rfl rfl rfl ?_
          refine AOps.unwU rfl rfl rfl ?_
          refine AOps.unw rfl rfl rfl rfl ?_
          refine AOps.unw rfl rfl rfl rfl ?_
          refine AOps.unw rfl rfl rfl rfl ?_
          refine AOps.sim okL rfl rfl ?_
          refine AOps.nil ?_
          refine AWp.condT rfl ?_
          refine AWp.seq ?_
          refine AWp.region ?_
          refine AOps.sim okL rfl rfl ?_
          refine AOps.nil ?_
          refine AWp.ret ?_
          refine blockQ_r ?_
          refine seqQ_r ?_
          refine seqQ_r ?_
          refine blockQ_r ?_
          refine seqQ_r ?_
          refine bodyQ_r (by first | exact ResOk.one rfl rfl | exact ResOk.two rfl rfl rfl | exact ResOk.three rfl rfl rfl rfl | exact ResOk.none rfl) ?_
          exact RR_of [_, _] hN2 false (by rw [rgtP_eq, if_neg (by rw [hA]; exact Bool.false_ne_true), hS]; simp only [← hm]; rfl)
        · have hb : besO x.op y.op = true := by simpa [besideM_eq] using hb
          rw [if_pos hb] at hm
          refine AOps.wtd rfl rfl rfl ?_; refine AOp.load okL rfl (.tail _ (.tail _ (.tail _ (.tail _ (.tail _ (.head _)))))) rfl rfl rfl rfl ?_
          refine AOps.wtd rfl rfl rfl ?_; refine AOp.load okL rfl (.head _) rfl rfl rfl rfl ?_
          refine AOps.simW okL rfl rfl rfl rfl ?_
          refine AOps.simW okL rfl rfl rfl rfl ?_
          (first | refine AOps.guardCase rfl rfl rfl (fun hkk => ?_) (fun hkk => ?_) | refine Pl.guardCase rfl rfl (fun hkk => ?_) (fun hkk => ?_))
          · subst hkk
            rw [Bool.true_or] at hm
            rw [Bool.true_or] at ih
            refine AOps.unw rfl rfl rfl rfl ?_
            refine AOps.unw rfl rfl rfl rfl ?_
            refine AOps.unw rfl rfl rfl rfl ?_
            refine AOps.simW okL rfl rfl rfl rfl ?_
            refine AOps.wtd rfl rfl rfl (AOp.callFn (Hc := HP rs rn rm rg rl s2 e2 g) (F := [(r10, .row 25 7 [y.C]), (r6, .row 25 7 [x.C])]) rfl rfl rfl (List.perm_append_comm (l₁ := [_, _])) (IH y hym _ s2 n2 e2 hN2) ?_)
            rintro _ H' ⟨G, s3, n3, e3, rfl, hN3, (⟨rfl, ho⟩ | ⟨rfl, ho⟩)⟩
            · refine AOps.after ?_
              rw [ho] at hm
              refine AOps.simW okL rfl rfl rfl rfl ?_
              refine AOps.sim okL rfl rfl ?_
              refine AOps.nil ?_
              refine AWp.condF rfl ?_
              refine AWp.skip ?_
              refine AWp.region ?_
              refine AOps.sim okL rfl rfl ?_
              refine AOps.sim okL rfl rfl ?_
              refine AOps.nil ?_
              refine seqQ_n ?_
              (refine AIn.nextN 1 (ih ((k + 1, s3, n3, e3)) (⟨by omega, hN3, hm⟩) (by first | omega | (simp only; omega))) ?_ rfl; repeat (first | exact trivial | refine ⟨rfl, ?_⟩ | refine ⟨congrArg some nx, ?_⟩ | refine ⟨congrArg (fun v => some (A.int .i64 v)) (by skip), ?_⟩))
            · refine AOps.after ?_
              rw [ho] at hm
              refine AOps.simW okL rfl rfl rfl rfl ?_
              refine AOps.sim okL rfl rfl ?_
              refine AOps.nil ?_
              refine AWp.condT rfl ?_
              refine AWp.seq ?_
              refine AWp.region ?_
              refine AOps.sim okL rfl rfl ?_
              refine AOps.nil ?_
              refine AWp.ret ?_
              refine blockQ_r ?_
              refine seqQ_r ?_
              refine seqQ_r ?_
              refine blockQ_r ?_
              refine seqQ_r ?_
              refine bodyQ_r (by first | exact ResOk.one rfl rfl | exact ResOk.two rfl rfl rfl | exact ResOk.three rfl rfl rfl rfl | exact ResOk.none rfl) ?_
              have hmn := hm.symm
              exact RR_of [_, _] hN3 false (by rw [rgtP_eq, if_neg (by rw [hA]; exact Bool.false_ne_true), hS]; simp only [Bool.false_or, Bool.true_or, hmn]; rfl)
          · subst hkk
            rw [Bool.false_or] at hm
            rw [Bool.false_or] at ih
            refine AOps.simW okL rfl rfl rfl rfl ?_
            refine AOps.wtd rfl rfl rfl ?_; refine AOp.load okL rfl (.tail _ (.head _)) rfl rfl rfl rfl ?_
            refine AOps.simW okL rfl rfl rfl rfl ?_
            refine AOps.simW okL rfl rfl rfl rfl ?_
            refine AOps.wtd rfl rfl rfl (AOp.callFn (Hc := HP rs rn rm rg rl s2 e2 g) (F := [(r10, .row 25 7 [y.C]), (r6, .row 25 7 [x.C])]) rfl rfl rfl (List.perm_append_comm (l₁ := [_, _])) (IH y hym _ s2 n2 e2 hN2) ?_)
            rintro _ H' ⟨G, s3, n3, e3, rfl, hN3, (⟨rfl, ho⟩ | ⟨rfl, ho⟩)⟩
            · refine AOps.after ?_
              have ho : rgtP y g (decide (x.op = 9)) (s2, n2) = _ := ho
              rw [ho] at hm
              refine AOps.simW okL rfl rfl rfl rfl ?_
              refine AOps.sim okL rfl rfl ?_
              refine AOps.nil ?_
              refine AWp.condF rfl ?_
              refine AWp.skip ?_
              refine AWp.region ?_
              refine AOps.sim okL rfl rfl ?_
              refine AOps.sim okL rfl rfl ?_
              refine AOps.nil ?_
              refine seqQ_n ?_
              (refine AIn.nextN 1 (ih ((k + 1, s3, n3, e3)) (⟨by omega, hN3, hm⟩) (by first | omega | (simp only; omega))) ?_ rfl; repeat (first | exact trivial | refine ⟨rfl, ?_⟩ | refine ⟨congrArg some nx, ?_⟩ | refine ⟨congrArg (fun v => some (A.int .i64 v)) (by skip), ?_⟩))
            · refine AOps.after ?_
              have ho : rgtP y g (decide (x.op = 9)) (s2, n2) = _ := ho
              rw [ho] at hm
              refine AOps.simW okL rfl rfl rfl rfl ?_
              refine AOps.sim okL rfl rfl ?_
              refine AOps.nil ?_
              refine AWp.condT rfl ?_
              refine AWp.seq ?_
              refine AWp.region ?_
              refine AOps.sim okL rfl rfl ?_
              refine AOps.nil ?_
              refine AWp.ret ?_
              refine blockQ_r ?_
              refine seqQ_r ?_
              refine seqQ_r ?_
              refine blockQ_r ?_
              refine seqQ_r ?_
              refine bodyQ_r (by first | exact ResOk.one rfl rfl | exact ResOk.two rfl rfl rfl | exact ResOk.three rfl rfl rfl rfl | exact ResOk.none rfl) ?_
              have hmn := hm.symm
              exact RR_of [_, _] hN3 false (by rw [rgtP_eq, if_neg (by rw [hA]; exact Bool.false_ne_true), hS]; simp only [Bool.false_or, Bool.true_or, hmn]; rfl)
      · have h := of_decide_eq_false h
        simp only [List.length_map] at h
        rw [List.drop_eq_nil_of_le (by omega), rgtL] at hm
        have hP : rgtP x g kk (s, ns) = if lookE x = true then some (s2, n2) else none := by
          rw [rgtP_eq, if_neg (by rw [hA]; exact Bool.false_ne_true), hS]
          simp only [← hm]
        have hnode : nodeM x g = true := by cases hq : nodeM x g <;> simp [hq] at hA ⊢
        cases hxl : x.l with
        | nil =>
          have h9 : ¬ x.op = 9 := fun e => nodeM_parts hnode (by simp [e]) hxl
          refine AWp.exit ?_
          refine AWp.seq ?_
          refine AWp.seq ?_
          refine AWp.region ?_
          refine AOps.sim okL rfl rfl ?_
          refine AOps.pln ?_; refine AOp.load okL rfl (.head _) rfl rfl rfl rfl ?_
          refine AOps.sim okL rfl rfl ?_
          refine AOps.sim okL rfl rfl ?_
          refine AOps.guardCase rfl rfl rfl (fun h => ?_) (fun h => ?_)
          · refine AOps.simW okL rfl rfl rfl rfl ?_
            refine AOps.wtd rfl rfl rfl ?_; refine AOp.load okL rfl (.head _) rfl rfl rfl rfl ?_
            refine AOps.simW okL rfl rfl rfl rfl ?_
            refine AOps.sim okL rfl rfl ?_
            refine AOps.nil ?_
            refine seqQ_n ?_
            refine AWp.condCase rfl (fun h => ?_) (fun h => ?_)
            · refine AWp.seq ?_
              refine AWp.region ?_
              refine AOps.sim okL rfl rfl ?_
              refine AOps.pln ?_; refine AOp.load okL rfl (.head _) rfl rfl rfl rfl ?_
              first | (refine bodyQ_r (by first | exact ResOk.one rfl rfl | exact ResOk.two rfl rfl rfl | exact ResOk.three rfl rfl rfl rfl | exact ResOk.none rfl) ?_; exact RR_of [_] hN2 true (by rw [hP]; simp [lookE, h9])) | (exfalso; clear IH ih; simp_all; done)
            · refine AWp.skip ?_
              refine AWp.seq ?_
              refine AWp.region ?_
              refine AOps.sim okL rfl rfl ?_
              refine AOps.nil ?_
              refine AWp.ret ?_
              first | (refine bodyQ_r (by first | exact ResOk.one rfl rfl | exact ResOk.two rfl rfl rfl | exact ResOk.three rfl rfl rfl rfl | exact ResOk.none rfl) ?_; exact RR_of [_] hN2 true (by rw [hP]; simp [lookE, h9])) | (exfalso; clear IH ih; simp_all; done)
          · refine AOps.unw rfl rfl rfl rfl ?_
            refine AOps.unw rfl rfl rfl rfl ?_
            refine AOps.unw rfl rfl rfl rfl ?_
            refine AOps.sim okL rfl rfl ?_
            refine AOps.nil ?_
            refine AWp.condF rfl ?_
            refine AWp.skip ?_
            refine AWp.seq ?_
            refine AWp.region ?_
            refine AOps.sim okL rfl rfl ?_
            refine AOps.nil ?_
            refine AWp.ret ?_
            first | (refine bodyQ_r (by first | exact ResOk.one rfl rfl | exact ResOk.two rfl rfl rfl | exact ResOk.three rfl rfl rfl rfl | exact ResOk.none rfl) ?_; exact RR_of [_] hN2 true (by rw [hP]; simp [lookE, h9])) | (exfalso; clear IH ih; simp_all; done)
        | cons y0 l0 =>
          have hg : x.l[0]? = some y0 := by rw [hxl]; rfl
          obtain ⟨q1, q2, hq⟩ := rgtL_mem hm.symm y0 (by rw [hxl]; exact List.mem_cons_self)
          have hc := lengths_tr y0 (rgtP_Sh y0 hq)
          refine AWp.exit ?_
          refine AWp.seq ?_
          refine AWp.seq ?_
          refine AWp.region ?_
          refine AOps.sim okL rfl rfl ?_
          refine AOps.pln ?_; refine AOp.load okL rfl (.head _) rfl rfl rfl rfl ?_
          refine AOps.sim okL rfl rfl ?_
          refine AOps.sim okL rfl rfl ?_
          refine AOps.guardCase rfl rfl rfl (fun h => ?_) (fun h => ?_)
          · refine AOps.simW okL rfl rfl rfl rfl ?_
            refine AOps.wtd rfl rfl rfl ?_; refine AOp.load okL rfl (.head _) rfl rfl rfl rfl ?_
            refine AOps.simW okL rfl rfl rfl rfl ?_
            refine AOps.sim okL rfl rfl ?_
            refine AOps.nil ?_
            refine seqQ_n ?_
            refine AWp.condCase rfl (fun h => ?_) (fun h => ?_)
            · refine AWp.seq ?_
              refine AWp.region ?_
              refine AOps.sim okL rfl rfl ?_
              refine AOps.pln ?_; refine AOp.load okL rfl (.head _) rfl rfl rfl rfl ?_
              refine AOps.sim okL (sOp_idxD rfl rfl rfl rfl rfl (Int.le_refl _) (getC hg) rfl) rfl ?_
              refine AOps.sim okL rfl rfl ?_
              refine AOps.pln ?_; focus (refine AOp.callP (v := ?_) rfl rfl rfl ?_ ?_; rotate_left; exact (hc))
              refine AOps.sim okL rfl rfl ?_
              refine AOps.sim okL rfl rfl ?_
              refine AOps.sim okL rfl rfl ?_
              refine AOps.sim okL rfl rfl ?_
              refine AOps.sim okL rfl rfl ?_
              refine AOps.nil ?_
              refine AWp.seq ?_
              refine AWp.region ?_
              refine AOps.sim okL rfl rfl ?_
              refine AOps.sim okL rfl rfl ?_
              refine AOps.sim okL rfl rfl ?_
              refine AOps.sim okL rfl rfl ?_
              refine AOps.nil ?_
              refine AWp.ret ?_
              refine seqQ_r ?_
              first | (refine bodyQ_r (by first | exact ResOk.one rfl rfl | exact ResOk.two rfl rfl rfl | exact ResOk.three rfl rfl rfl rfl | exact ResOk.none rfl) ?_; exact RR_of [_] hN2 true (by rw [hP]; clear IH ih hc hm hP hN hN1 hN2; simp_all [lookE]; done)) | (refine bodyQ_r (by first | exact ResOk.one rfl rfl | exact ResOk.two rfl rfl rfl | exact ResOk.three rfl rfl rfl rfl | exact ResOk.none rfl) ?_; exact RR_of [_] hN2 _ (by rw [hP]; clear IH ih hc hm hP hN hN1 hN2; simp_all [lookE]; done))
            · refine AWp.skip ?_
              refine AWp.seq ?_
              refine AWp.region ?_
              refine AOps.sim okL rfl rfl ?_
              refine AOps.nil ?_
              refine AWp.ret ?_
              first | (refine bodyQ_r (by first | exact ResOk.one rfl rfl | exact ResOk.two rfl rfl rfl | exact ResOk.three rfl rfl rfl rfl | exact ResOk.none rfl) ?_; exact RR_of [_] hN2 true (by rw [hP]; clear IH ih hc hm hP hN hN1 hN2; simp_all [lookE]; done)) | (refine bodyQ_r (by first | exact ResOk.one rfl rfl | exact ResOk.two rfl rfl rfl | exact ResOk.three rfl rfl rfl rfl | exact ResOk.none rfl) ?_; exact RR_of [_] hN2 _ (by rw [hP]; clear IH ih hc hm hP hN hN1 hN2; simp_all [lookE]; done))
          · refine AOps.unw rfl rfl rfl rfl ?_
            refine AOps.unw rfl rfl rfl rfl ?_
            refine AOps.unw rfl rfl rfl rfl ?_
            refine AOps.sim okL rfl rfl ?_
            refine AOps.nil ?_
            refine AWp.condF rfl ?_
            refine AWp.skip ?_
            refine AWp.seq ?_
            refine AWp.region ?_
            refine AOps.sim okL rfl rfl ?_
            refine AOps.nil ?_
            refine AWp.ret ?_
            first | (refine bodyQ_r (by first | exact ResOk.one rfl rfl | exact ResOk.two rfl rfl rfl | exact ResOk.three rfl rfl rfl rfl | exact ResOk.none rfl) ?_; exact RR_of [_] hN2 true (by rw [hP]; clear IH ih hc hm hP hN hN1 hN2; simp_all [lookE]; done)) | (refine bodyQ_r (by first | exact ResOk.one rfl rfl | exact ResOk.two rfl rfl rfl | exact ResOk.three rfl rfl rfl rfl | exact ResOk.none rfl) ?_; exact RR_of [_] hN2 _ (by rw [hP]; clear IH ih hc hm hP hN hN1 hN2; simp_all [lookE]; done))
    · refine AWp.seq ?_
      refine AWp.region ?_
      refine AOps.sim okL rfl rfl ?_
      refine AOps.pln ?_; refine AOp.load okL rfl (.head _) rfl rfl rfl rfl ?_
      refine AOps.sim okL rfl rfl ?_
      refine AOps.nil ?_
      refine seqQ_n ?_
      first | refine AWp.condCase rfl (fun h7 => ?_) (fun h7 => ?_) | refine AWp.cond rfl (fun h7 => ?_) (fun h7 => ?_)
      · have h7 : x.op = 7 := by simpa using h7
        refine AWp.seq ?_
        refine AWp.region ?_
        refine AOps.pln ?_; refine AOp.load okL rfl (.tail _ (.head _)) rfl rfl rfl rfl ?_
        refine AOps.sim okL rfl rfl ?_
        refine AOps.pln ?_; refine AOp.store okL rfl rfl rfl (isVal_or rfl) rfl rfl rfl (.there .here) rfl rfl rfl ?_
        refine AOps.nil ?_
        refine AWp.seq ?_
        refine AWp.seq ?_
        refine AWp.region ?_
        refine AOps.sim okL rfl rfl ?_
        refine AOps.pln ?_; refine AOp.load okL rfl (.head _) rfl rfl rfl rfl ?_
        refine AOps.pln ?_; refine AOp.load okL rfl (.tail _ (.head _)) rfl rfl rfl rfl ?_
        refine AOps.sim okL rfl rfl ?_
        refine AOps.sim okL rfl rfl ?_
        (first | refine AOps.guardCase rfl rfl rfl (fun h34 => ?_) (fun h34 => ?_) | refine Pl.guardCase rfl rfl (fun h34 => ?_) (fun h34 => ?_))
        · have hG : grpStep x (s, ns) = none := by
            simp only [grpStep, h7, if_true]
            rw [if_neg]
            intro hh
            simp [w64] at h34 hh
            exact h34 hh.1
          refine AOps.unw rfl rfl rfl rfl ?_
          refine AOps.unw rfl rfl rfl rfl ?_
          refine AOps.unw rfl rfl rfl rfl ?_
          refine AOps.unw rfl rfl rfl rfl ?_
          refine AOps.sim okL rfl rfl ?_
          refine AOps.nil ?_
          refine AWp.condT rfl ?_
          refine AWp.seq ?_
          refine AWp.region ?_
          refine AOps.sim okL rfl rfl ?_
          refine AOps.nil ?_
          refine AWp.ret ?_
          refine seqQ_r ?_
          refine hR _ _ _ (by intro h; cases h) ?_
          refine bodyQ_r (by first | exact ResOk.one rfl rfl | exact ResOk.two rfl rfl rfl | exact ResOk.three rfl rfl rfl rfl | exact ResOk.none rfl) ?_
          exact ⟨[_], _, ns, es, rfl, hN, .inr ⟨rfl, by rw [rgtP_eq, if_neg (by rw [hA]; exact Bool.false_ne_true), hG]⟩⟩
        · have h34 : x.n = w64 (s + 1) := by simpa [w64] using h34
          obtain ⟨es2, hput, hN2⟩ := NM_put hN x.name
          rcases hN x.name with ⟨hm, i, hf⟩ | ⟨hm, hf⟩
          · refine AOps.wtd rfl rfl rfl ?_; refine AOp.load okL rfl (.tail _ (.tail _ (.head _))) rfl rfl rfl rfl ?_
            refine AOps.simW okL rfl rfl rfl rfl ?_
            refine AOps.wtd rfl rfl rfl ?_; refine AOp.load okL rfl (.head _) rfl rfl rfl rfl ?_
            refine AOps.wtd rfl rfl rfl (AOp.lookup okL rfl (List.mem_cons_of_mem _ (List.mem_cons_of_mem _ (List.mem_cons_of_mem _ (List.mem_cons_of_mem _ (List.mem_cons_of_mem _ List.mem_cons_self))))) rfl rfl rfl rfl rfl rfl hf rfl ?_)
            refine AOps.sim okL rfl rfl ?_
            refine AOps.nil ?_
            refine seqQ_n ?_
            first | refine AWp.condCase rfl (fun h39 => ?_) (fun h39 => ?_) | refine AWp.cond rfl (fun h39 => ?_) (fun h39 => ?_)
            · have hG : grpStep x (s, ns) = none := by
                simp only [grpStep, h7, if_true]
                rw [if_neg]
                intro hh
                exact hh.2 ⟨hm, by simpa using h39⟩
              refine AWp.seq ?_
              refine AWp.region ?_
              refine AOps.sim okL rfl rfl ?_
              refine AOps.nil ?_
              refine AWp.ret ?_
              refine seqQ_r ?_
              refine hR _ _ _ (by intro h; cases h) ?_
              refine bodyQ_r (by first | exact ResOk.one rfl rfl | exact ResOk.two rfl rfl rfl | exact ResOk.three rfl rfl rfl rfl | exact ResOk.none rfl) ?_
              exact ⟨[_], _, ns, es, rfl, hN, .inr ⟨rfl, by rw [rgtP_eq, if_neg (by rw [hA]; exact Bool.false_ne_true), hG]⟩⟩
            · have hG : grpStep x (s, ns) = some (w64 (s + 1), ns ++ [x.name]) := by
                simp only [grpStep, h7, if_true]
                rw [if_pos ⟨h34, fun hh => by simp at h39; exact hh.2 h39⟩]
              refine AWp.skip ?_
              refine AWp.region ?_
              refine AOps.pln ?_; refine AOp.load okL rfl (.tail _ (.tail _ (.head _))) rfl rfl rfl rfl ?_
              refine AOps.sim okL rfl rfl ?_
              refine AOps.pln ?_; refine AOp.load okL rfl (.head _) rfl rfl rfl rfl ?_
              refine AOps.sim okL rfl rfl ?_
              refine AOps.pln ?_; refine AOp.load okL rfl (.head _) rfl rfl rfl rfl ?_
              refine AOps.sim okL rfl rfl ?_
              refine AOps.pln (AOp.mapUpdate okL rfl rfl rfl rfl rfl rfl rfl hput (.there (.there (.there (.there (.there .here))))) rfl ?_)
              refine AOps.nil ?_
              exact K (_, ns ++ [x.name], es2) ⟨hN2, hG⟩ 0 _ _ ⟨rfl, rfl, rfl, rfl, rfl, rfl, trivial⟩ rfl
          · have hG : grpStep x (s, ns) = some (w64 (s + 1), ns ++ [x.name]) := by
              simp only [grpStep, h7, if_true]
              rw [if_pos ⟨h34, fun hh => hm hh.1⟩]
            refine AOps.wtd rfl rfl rfl ?_; refine AOp.load okL rfl (.tail _ (.tail _ (.head _))) rfl rfl rfl rfl ?_
            refine AOps.simW okL rfl rfl rfl rfl ?_
            refine AOps.wtd rfl rfl rfl ?_; refine AOp.load okL rfl (.head _) rfl rfl rfl rfl ?_
            refine AOps.wtd rfl rfl rfl (AOp.lookup okL rfl (List.mem_cons_of_mem _ (List.mem_cons_of_mem _ (List.mem_cons_of_mem _ (List.mem_cons_of_mem _ (List.mem_cons_of_mem _ List.mem_cons_self))))) rfl rfl rfl rfl rfl rfl hf rfl ?_)
            refine AOps.sim okL rfl rfl ?_
            refine AOps.nil ?_
            refine AWp.condF rfl ?_
            refine AWp.skip ?_
            refine AWp.region ?_
            refine AOps.pln ?_; refine AOp.load okL rfl (.tail _ (.tail _ (.head _))) rfl rfl rfl rfl ?_
            refine AOps.sim okL rfl rfl ?_
            refine AOps.pln ?_; refine AOp.load okL rfl (.head _) rfl rfl rfl rfl ?_
            refine AOps.sim okL rfl rfl ?_
            refine AOps.pln ?_; refine AOp.load okL rfl (.head _) rfl rfl rfl rfl ?_
            refine AOps.sim okL rfl rfl ?_
            refine AOps.pln (AOp.mapUpdate okL rfl rfl rfl rfl rfl rfl rfl hput (.there (.there (.there (.there (.there .here))))) rfl ?_)
            refine AOps.nil ?_
            exact K (_, ns ++ [x.name], es2) ⟨hN2, hG⟩ 0 _ _ ⟨rfl, rfl, rfl, rfl, rfl, rfl, trivial⟩ rfl
      · have h7 : ¬ x.op = 7 := by simpa using h7
        refine AWp.skip ?_
        exact K (s, ns, es) ⟨hN, by simp only [grpStep]; rw [if_neg h7]⟩ 0 _ _ ⟨rfl, rfl, rfl, rfl, rfl, rfl, trivial⟩ rfl
  · refine AWp.seq ?_
    refine AWp.region ?_
    refine AOps.pln ?_; refine AOp.load okL rfl (.head _) rfl rfl rfl rfl ?_
    refine AOps.pln ?_; refine AOp.load okL rfl (.tail _ (.tail _ (.tail _ (.head _)))) rfl rfl rfl rfl ?_
    refine AOps.pln ?_; focus (refine AOp.callP (v := ?_) rfl rfl rfl ?_ ?_; rotate_left; exact (isNode_tr _ _))
    refine AOps.sim okL rfl rfl ?_
    refine AOps.sim okL rfl rfl ?_
    refine AOps.guardCase rfl rfl rfl (fun h => ?_) (fun h => ?_)
    · refine AOps.unw rfl rfl rfl rfl ?_
      refine AOps.unw rfl rfl rfl rfl ?_
      refine AOps.unw rfl rfl rfl rfl ?_
      refine AOps.unw rfl rfl rfl rfl ?_
      refine AOps.unwU rfl rfl rfl ?_
      refine AOps.unw rfl rfl rfl rfl ?_
      refine AOps.sim okL rfl rfl ?_
      refine AOps.nil ?_
      refine AWp.condT rfl ?_
      refine AWp.seq ?_
      refine AWp.region ?_
      refine AOps.sim okL rfl rfl ?_
      refine AOps.nil ?_
      refine AWp.ret ?_
      first | (refine hR _ _ _ (by intro h; cases h) ?_; refine bodyQ_r (by first | exact ResOk.one rfl rfl | exact ResOk.two rfl rfl rfl | exact ResOk.three rfl rfl rfl rfl | exact ResOk.none rfl) ?_; refine ⟨[_], s, ns, es, rfl, hN, .inr ⟨rfl, ?_⟩⟩; clear K hR IH hN; rw [rgtP_eq, if_pos]; simp_all; done) | (refine K () ?_ 0 _ _ ⟨rfl, rfl, rfl, rfl, rfl, rfl, trivial⟩ rfl; clear K hR IH hN; simp_all; done)
    · refine AOps.simW okL rfl rfl rfl rfl ?_
      refine AOps.wtd rfl rfl rfl ?_; refine AOp.load okL rfl (.head _) rfl rfl rfl rfl ?_
      refine AOps.simW okL rfl rfl rfl rfl ?_
      refine AOps.simW okL rfl rfl rfl rfl ?_
      refine AOps.guardCase rfl rfl rfl (fun h => ?_) (fun h => ?_)
      · refine AOps.simW okL rfl rfl rfl rfl ?_
        refine AOps.simW okL rfl rfl rfl rfl ?_
        refine AOps.sim okL rfl rfl ?_
        refine AOps.nil ?_
        refine seqQ_n ?_
        refine AWp.condCase rfl (fun h => ?_) (fun h => ?_)
        · refine AWp.seq ?_
          refine AWp.region ?_
          refine AOps.sim okL rfl rfl ?_
          refine AOps.nil ?_
          refine AWp.ret ?_
          first | (refine hR _ _ _ (by intro h; cases h) ?_; refine bodyQ_r (by first | exact ResOk.one rfl rfl | exact ResOk.two rfl rfl rfl | exact ResOk.three rfl rfl rfl rfl | exact ResOk.none rfl) ?_; refine ⟨[_], s, ns, es, rfl, hN, .inr ⟨rfl, ?_⟩⟩; clear K hR IH hN; rw [rgtP_eq, if_pos]; simp_all; done) | (refine K () ?_ 0 _ _ ⟨rfl, rfl, rfl, rfl, rfl, rfl, trivial⟩ rfl; clear K hR IH hN; simp_all; done)
        · refine AWp.skip ?_
          first | (refine hR _ _ _ (by intro h; cases h) ?_; refine bodyQ_r (by first | exact ResOk.one rfl rfl | exact ResOk.two rfl rfl rfl | exact ResOk.three rfl rfl rfl rfl | exact ResOk.none rfl) ?_; refine ⟨[_], s, ns, es, rfl, hN, .inr ⟨rfl, ?_⟩⟩; clear K hR IH hN; rw [rgtP_eq, if_pos]; simp_all; done) | (refine K () ?_ 0 _ _ ⟨rfl, rfl, rfl, rfl, rfl, rfl, trivial⟩ rfl; clear K hR IH hN; simp_all; done)
      · refine AOps.unw rfl rfl rfl rfl ?_
        refine AOps.simW okL rfl rfl rfl rfl ?_
        refine AOps.sim okL rfl rfl ?_
        refine AOps.nil ?_
        refine AWp.condF rfl ?_
        refine AWp.skip ?_
        first | (refine hR _ _ _ (by intro h; cases h) ?_; refine bodyQ_r (by first | exact ResOk.one rfl rfl | exact ResOk.two rfl rfl rfl | exact ResOk.three rfl rfl rfl rfl | exact ResOk.none rfl) ?_; refine ⟨[_], s, ns, es, rfl, hN, .inr ⟨rfl, ?_⟩⟩; clear K hR IH hN; rw [rgtP_eq, if_pos]; simp_all; done) | (refine K () ?_ 0 _ _ ⟨rfl, rfl, rfl, rfl, rfl, rfl, trivial⟩ rfl; clear K hR IH hN; simp_all; done)
end Go.Proofs.Ytiaogfkkfoakpaa

namespace Go.Proofs.Ytiaogfkkfoakpaa
open Go Go.Abs
set_option linter.unusedVariables false
set_option maxRecDepth 100000
set_option linter.unusedSimpArgs false

theorem perm6 {α : Type} (a b c d e f : α) : [a, b, c, d, e, f].Perm [b, c, e, a, d, f] := by
  have h : [0, 1, 2, 3, 4, 5].Perm [1, 2, 4, 0, 3, 5] := by decide
  exact h.map fun i => match i with | 0 => a | 1 => b | 2 => c | 3 => d | 4 => e | _ => f
theorem isRight_tr (x : Pat) : PTr Try.prog 36 [.agg x.C] (.bool (rgtP x (szP x).2.1 false (0, [])).isSome) := by
  refine PTr.of_body (N := 15) Try.func36 rfl rfl rfl ?_
  refine AWp.seq ?_
  refine AWp.region ?_
  refine AOps.pln ?_; refine AOp.box rfl rfl (isVal_or rfl) rfl rfl ?_; intro _ _
  refine AOps.sim okL rfl rfl ?_
  refine AOps.nil ?_
  refine AWp.seq ?_
  refine AWp.region ?_
  refine AOps.pln ?_; refine AOp.load okL rfl (.head _) rfl rfl rfl rfl ?_
  refine AOps.pln ?_; focus (refine AOp.callP (v := ?_) rfl rfl rfl ?_ ?_; rotate_left; exact (measure_tr x))
  refine AOps.sim okL rfl rfl ?_
  refine AOps.pln ?_; refine AOp.alloc okL rfl rfl rfl ?_; intro _ _
  refine AOps.pln ?_; refine AOp.store okL rfl rfl rfl (isVal_or rfl) rfl rfl rfl .here rfl rfl rfl ?_
  refine AOps.nil ?_
  refine AWp.seq ?_
  refine AWp.region ?_
  rename_i r1 _ rg _
  refine AOps.pln (AOp.makeMap rfl fun rm _ => ?_)
  refine AOps.pln ?_; refine AOp.alloc okL rfl rfl rfl ?_; intro _ _
  refine AOps.pln ?_; refine AOp.store okL rfl rfl rfl (isVal_or rfl) rfl rfl rfl .here rfl rfl rfl ?_
  refine AOps.nil ?_
  refine AWp.seq ?_
  refine AWp.region ?_
  refine AOps.pln ?_; refine AOp.alloc okL rfl rfl rfl ?_; intro _ _
  refine AOps.pln ?_; refine AOp.store okL rfl rfl rfl (isVal_or rfl) rfl rfl rfl .here rfl rfl rfl ?_
  refine AOps.nil ?_
  refine AWp.seq ?_
  refine AWp.region ?_
  refine AOps.pln ?_; refine AOp.alloc okL rfl rfl rfl ?_; intro _ _
  refine AOps.nil ?_
  refine AWp.seq ?_
  refine AWp.region ?_
  refine AOps.sim okL rfl rfl ?_
  refine AOps.pln ?_; refine AOp.store okL rfl rfl rfl (isVal_or rfl) rfl rfl rfl .here rfl rfl rfl ?_
  refine AOps.nil ?_
  refine AWp.seq ?_
  refine AWp.region ?_
  refine AOps.pln ?_; refine AOp.load okL rfl (.head _) rfl rfl rfl rfl ?_
  refine AOps.pln ?_; refine AOp.load okL rfl (.tail _ (.tail _ (.tail _ (.tail _ (.tail _ (.head _)))))) rfl rfl rfl rfl ?_
  rename_i rn _ rs _ rl _
  refine AOps.pln (AOp.callFn (Hc := HP rs rn rm rg rl 0 [] (szP x).2.1) (F := [(r1, .row 25 7 [x.C])]) rfl rfl rfl (perm6 _ _ _ _ _ _) (right1_tr rs rn rm rg rl (szP x).2.1 x false 0 [] [] NM_nil) ?_)
  rintro _ H' ⟨G, s3, n3, e3, rfl, hN3, (⟨rfl, ho⟩ | ⟨rfl, ho⟩)⟩
  · refine AOps.sim okL rfl rfl ?_
    refine AOps.nil ?_
    refine AWp.ret ?_
    refine bodyQ_r (by first | exact ResOk.one rfl rfl | exact ResOk.two rfl rfl rfl | exact ResOk.three rfl rfl rfl rfl | exact ResOk.none rfl) ?_
    rw [ho]; rfl
  · refine AOps.sim okL rfl rfl ?_
    refine AOps.nil ?_
    refine AWp.ret ?_
    refine bodyQ_r (by first | exact ResOk.one rfl rfl | exact ResOk.two rfl rfl rfl | exact ResOk.three rfl rfl rfl rfl | exact ResOk.none rfl) ?_
    rw [ho]; rfl
def valP (x : Pat) : Int := if largeM x = true then 3 else if (rgtP x (szP x).2.1 false (0, [])).isSome = true then 0 else 1
theorem patValidate_tr (x : Pat) : PTr Try.prog 19 [.agg x.C] (i64 (valP x)) := by
  refine PTr.of_body (N := 22) Try.func19 rfl rfl rfl ?_
  refine AWp.seq ?_
  refine AWp.region ?_
  refine AOps.pln ?_; refine AOp.box rfl rfl (isVal_or rfl) rfl rfl ?_; intro _ _
  refine AOps.sim okL rfl rfl ?_
  refine AOps.nil ?_
  refine AWp.seq ?_
  refine AWp.seq ?_
  refine AWp.region ?_
  refine AOps.pln ?_; refine AOp.load okL rfl (.head _) rfl rfl rfl rfl ?_
  refine AOps.pln ?_; focus (refine AOp.callP (v := ?_) rfl rfl rfl ?_ ?_; rotate_left; exact (measure_tr x))
  refine AOps.pln ?_; refine AOp.alloc okL rfl rfl rfl ?_; intro _ _
  refine AOps.pln ?_; refine AOp.store okL rfl rfl rfl (isVal_or rfl) rfl rfl rfl .here rfl rfl rfl ?_
  refine AOps.nil ?_
  refine AWp.seq ?_
  refine AWp.region ?_
  refine AOps.sim okL rfl rfl ?_
  refine AOps.pln ?_; refine AOp.load okL rfl (.head _) rfl rfl rfl rfl ?_
  refine AOps.sim okL rfl rfl ?_
  refine AOps.sim okL rfl rfl ?_
  refine AOps.guardCase rfl rfl rfl (fun h => ?_) (fun h => ?_)
  · refine AOps.unw rfl rfl rfl rfl ?_
    refine AOps.unw rfl rfl rfl rfl ?_
    refine AOps.unw rfl rfl rfl rfl ?_
    refine AOps.sim okL rfl rfl ?_
    refine AOps.sim okL rfl rfl ?_
    refine AOps.unw rfl rfl rfl rfl ?_
    refine AOps.unw rfl rfl rfl rfl ?_
    refine AOps.unw rfl rfl rfl rfl ?_
    refine AOps.sim okL rfl rfl ?_
    refine AOps.nil ?_
    refine AWp.condT rfl ?_
    refine AWp.seq ?_
    refine AWp.region ?_
    refine AOps.sim okL rfl rfl ?_
    refine AOps.nil ?_
    refine AWp.ret ?_
    refine seqQ_r ?_
    (refine bodyQ_r (by first | exact ResOk.one rfl rfl | exact ResOk.two rfl rfl rfl | exact ResOk.three rfl rfl rfl rfl | exact ResOk.none rfl) ?_; simp_all [valP, largeM])
  · refine AOps.simW okL rfl rfl rfl rfl ?_
    refine AOps.wtd rfl rfl rfl ?_; refine AOp.load okL rfl (.head _) rfl rfl rfl rfl ?_
    refine AOps.simW okL rfl rfl rfl rfl ?_
    refine AOps.sim okL rfl rfl ?_
    refine AOps.sim okL rfl rfl ?_
    refine AOps.guardCase rfl rfl rfl (fun h => ?_) (fun h => ?_)
    · refine AOps.unw rfl rfl rfl rfl ?_
      refine AOps.unw rfl rfl rfl rfl ?_
      refine AOps.unw rfl rfl rfl rfl ?_
      refine AOps.sim okL rfl rfl ?_
      refine AOps.nil ?_
      refine AWp.condT rfl ?_
      refine AWp.seq ?_
      refine AWp.region ?_
      refine AOps.sim okL rfl rfl ?_
      refine AOps.nil ?_
      refine AWp.ret ?_
      refine seqQ_r ?_
      (refine bodyQ_r (by first | exact ResOk.one rfl rfl | exact ResOk.two rfl rfl rfl | exact ResOk.three rfl rfl rfl rfl | exact ResOk.none rfl) ?_; simp_all [valP, largeM])
    · refine AOps.simW okL rfl rfl rfl rfl ?_
      refine AOps.wtd rfl rfl rfl ?_; refine AOp.load okL rfl (.head _) rfl rfl rfl rfl ?_
      refine AOps.simW okL rfl rfl rfl rfl ?_
      refine AOps.sim okL rfl rfl ?_
      refine AOps.nil ?_
      refine seqQ_n ?_
      refine AWp.condCase rfl (fun h => ?_) (fun h => ?_)
      · refine AWp.seq ?_
        refine AWp.region ?_
        refine AOps.sim okL rfl rfl ?_
        refine AOps.nil ?_
        refine AWp.ret ?_
        refine seqQ_r ?_
        (refine bodyQ_r (by first | exact ResOk.one rfl rfl | exact ResOk.two rfl rfl rfl | exact ResOk.three rfl rfl rfl rfl | exact ResOk.none rfl) ?_; simp_all [valP, largeM])
      · refine AWp.skip ?_
        refine AWp.seq ?_
        refine AWp.seq ?_
        refine AWp.region ?_
        refine AOps.pln ?_; refine AOp.load okL rfl (.tail _ (.head _)) rfl rfl rfl rfl ?_
        refine AOps.pln ?_; focus (refine AOp.callP (v := ?_) rfl rfl rfl ?_ ?_; rotate_left; exact (isRight_tr x))
        refine AOps.sim okL rfl rfl ?_
        refine AOps.nil ?_
        refine seqQ_n ?_
        refine AWp.condCase rfl (fun h => ?_) (fun h => ?_)
        · refine AWp.seq ?_
          refine AWp.region ?_
          refine AOps.sim okL rfl rfl ?_
          refine AOps.nil ?_
          refine AWp.ret ?_
          refine seqQ_r ?_
          (refine bodyQ_r (by first | exact ResOk.one rfl rfl | exact ResOk.two rfl rfl rfl | exact ResOk.three rfl rfl rfl rfl | exact ResOk.none rfl) ?_; simp_all [valP, largeM])
        · refine AWp.skip ?_
          refine AWp.seq ?_
          refine AWp.region ?_
          refine AOps.sim okL rfl rfl ?_
          refine AOps.nil ?_
          refine AWp.ret ?_
          (refine bodyQ_r (by first | exact ResOk.one rfl rfl | exact ResOk.two rfl rfl rfl | exact ResOk.three rfl rfl rfl rfl | exact ResOk.none rfl) ?_; simp_all [valP, largeM])
theorem optSize_tr (x : Pat) : PTr Try.prog 7 [.agg x.C] (.tup [i64 (if valP x = 0 then (szP x).1 else 0), i64 (if valP x = 0 then (szP x).2.2 else 0), i64 (valP x)]) := by
  refine PTr.of_body (N := 20) Try.func7 rfl rfl rfl ?_
  refine AWp.seq ?_
  refine AWp.region ?_
  refine AOps.pln ?_; refine AOp.box rfl rfl (isVal_or rfl) rfl rfl ?_; intro _ _
  refine AOps.sim okL rfl rfl ?_
  refine AOps.sim okL rfl rfl ?_
  refine AOps.sim okL rfl rfl ?_
  refine AOps.nil ?_
  refine AWp.seq ?_
  refine AWp.seq ?_
  refine AWp.region ?_
  refine AOps.pln ?_; refine AOp.load okL rfl (.head _) rfl rfl rfl rfl ?_
  refine AOps.pln ?_; focus (refine AOp.callP (v := ?_) rfl rfl rfl ?_ ?_; rotate_left; exact (patValidate_tr x))
  refine AOps.sim okL rfl rfl ?_
  refine AOps.nil ?_
  refine AWp.seq ?_
  refine AWp.region ?_
  refine AOps.sim okL rfl rfl ?_
  refine AOps.sim okL rfl rfl ?_
  refine AOps.nil ?_
  refine seqQ_n ?_
  refine AWp.condCase rfl (fun h => ?_) (fun h => ?_)
  · refine AWp.seq ?_
    refine AWp.region ?_
    refine AOps.sim okL rfl rfl ?_
    refine AOps.sim okL rfl rfl ?_
    refine AOps.sim okL rfl rfl ?_
    refine AOps.sim okL rfl rfl ?_
    refine AOps.nil ?_
    refine AWp.ret ?_
    refine seqQ_r ?_
    (refine bodyQ_r (by first | exact ResOk.one rfl rfl | exact ResOk.two rfl rfl rfl | exact ResOk.three rfl rfl rfl rfl | exact ResOk.none rfl) ?_; simp_all)
  · refine AWp.skip ?_
    refine AWp.seq ?_
    refine AWp.region ?_
    refine AOps.pln ?_; refine AOp.load okL rfl (.head _) rfl rfl rfl rfl ?_
    refine AOps.pln ?_; focus (refine AOp.callP (v := ?_) rfl rfl rfl ?_ ?_; rotate_left; exact (optsize_tr x))
    refine AOps.sim okL rfl rfl ?_
    refine AOps.sim okL rfl rfl ?_
    refine AOps.sim okL rfl rfl ?_
    refine AOps.sim okL rfl rfl ?_
    refine AOps.sim okL rfl rfl ?_
    refine AOps.nil ?_
    refine AWp.seq ?_
    refine AWp.region ?_
    refine AOps.sim okL rfl rfl ?_
    refine AOps.sim okL rfl rfl ?_
    refine AOps.sim okL rfl rfl ?_
    refine AOps.sim okL rfl rfl ?_
    refine AOps.sim okL rfl rfl ?_
    refine AOps.nil ?_
    refine AWp.ret ?_
    (refine bodyQ_r (by first | exact ResOk.one rfl rfl | exact ResOk.two rfl rfl rfl | exact ResOk.three rfl rfl rfl rfl | exact ResOk.none rfl) ?_; simp_all)
end Go.Proofs.Ytiaogfkkfoakpaa

