/- Walks of the reference. -/
import Derived.Test.YtiaogfkkfoakpaaWalkB
import Derived.Test.YtiaogfkkfoakpaaAbsC
set_option linter.unusedVariables false
set_option linter.unusedSimpArgs false
namespace Go.Proofs.Ytiaogfkkfoakpaa
open Go Go.Abs
set_option linter.unusedVariables false
set_option maxRecDepth 100000
set_option linter.unusedSimpArgs false

def catS (a b : Int × Int) : Int × Int := (w64 (a.1 + b.1), if b.2 < 0 ∨ a.2 < 0 then -1 else w64 (a.2 + b.2))
def altS (a b : Int × Int) : Int × Int := (if b.1 < a.1 then b.1 else a.1, if b.2 < 0 ∨ a.2 < 0 then -1 else if b.2 > a.2 then b.2 else a.2)
mutual
def spanP : Pat → Int × Int
  | .mk op _ mn mx _ _ l =>
    if op = 1 ∨ op = 2 ∨ op = 3 then (1, 1) else if op = 7 ∨ op = 8 then spanH l else if op = 10 ∨ op = 14 then (0, -1)
    else if op = 6 then (if (spanH l).2 = 0 then (0, 0) else if (spanH l).2 < 0 ∨ mx < 0 then (w64 ((spanH l).1 * mn), -1) else (w64 ((spanH l).1 * mn), w64 ((spanH l).2 * mx)))
    else if op = 4 then spanC4 l (0, 0) else if op = 5 ∨ op = 15 then spanT l else (0, 0)
def spanH : List Pat → Int × Int
  | [] => (0, 0)
  | y :: _ => spanP y
def spanC4 : List Pat → Int × Int → Int × Int
  | [], a => a
  | y :: l, a => spanC4 l (catS a (spanP y))
def spanA : List Pat → Int × Int → Int × Int
  | [], a => a
  | y :: l, a => spanA l (altS a (spanP y))
def spanT : List Pat → Int × Int
  | [] => (0, 0)
  | y :: l => spanA l (spanP y)
end
theorem spanP_eq (x : Pat) : spanP x = if x.op = 1 ∨ x.op = 2 ∨ x.op = 3 then (1, 1) else if x.op = 7 ∨ x.op = 8 then spanH x.l else if x.op = 10 ∨ x.op = 14 then (0, -1)
    else if x.op = 6 then (if (spanH x.l).2 = 0 then (0, 0) else if (spanH x.l).2 < 0 ∨ x.max < 0 then (w64 ((spanH x.l).1 * x.min), -1) else (w64 ((spanH x.l).1 * x.min), w64 ((spanH x.l).2 * x.max)))
    else if x.op = 4 then spanC4 x.l (0, 0) else if x.op = 5 ∨ x.op = 15 then spanT x.l else (0, 0) := by cases x; rw [spanP]; rfl
theorem span6 {x y0 : Pat} (h6 : x.op = 6) (hH : spanH x.l = spanP y0) (h1 : ¬ (spanP y0).2 = 0) (h2 : 0 ≤ (spanP y0).2) (h3 : 0 ≤ x.max) : spanP x = (w64 ((spanP y0).1 * x.min), w64 ((spanP y0).2 * x.max)) := by
  rw [spanP_eq, hH, if_neg (by omega), if_neg (by omega), if_neg (by omega), if_pos h6, if_neg h1, if_neg (by omega)]
set_option maxHeartbeats 2000000 in
theorem refSpan_tr (x : Pat) (hs : Sh x) : PTr Try.prog 65 [.agg x.C] (.tup [i64 (spanP x).1, i64 (spanP x).2]) := by
  induction x using Pat.ind with | h x IH => _
  refine PTr.of_body (N := 141) Try.func65 rfl rfl rfl ?_
  refine AWp.know (t := 0) rfl (Known.agg mem_C (Known.ds _)) fun hlen => ?_
  rw [List.length_map] at hlen
  by_cases h4 : x.op = 4
  · obtain ⟨op, n, mn, mx, nm, st, l⟩ := x
    simp only [Pat.op] at h4
    subst h4
    have hP : spanP (.mk 4 n mn mx nm st l) = spanC4 l (0, 0) := by rw [spanP_eq]; rfl
    simp only [Pat.l] at IH hlen
    refine AWp.seq ?_
    refine AWp.region ?_
    refine AOps.pln ?_; refine AOp.box rfl rfl (isVal_or rfl) rfl rfl ?_; intro _ _
    refine AOps.sim okL rfl rfl ?_
    refine AOps.sim okL rfl rfl ?_
    refine AOps.nil ?_
    refine AWp.seq ?_
    refine AWp.seq ?_
    refine AWp.region ?_
    refine AOps.sim okL rfl rfl ?_
    refine AOps.pln ?_; refine AOp.load okL rfl (.head _) rfl rfl rfl rfl ?_
    refine AOps.nil ?_
    refine AWp.block ?_
    refine AWp.seq ?_
    refine AWp.seq ?_
    refine AWp.region ?_
    refine AOps.sim okL rfl rfl ?_
    refine AOps.sim okL rfl rfl ?_
    refine AOps.nil ?_
    refine AWp.condF rfl ?_
    refine AWp.seq ?_
    refine AWp.region ?_
    refine AOps.sim okL rfl rfl ?_
    refine AOps.sim okL rfl rfl ?_
    refine AOps.nil ?_
    refine AWp.condF rfl ?_
    refine AWp.region ?_
    refine AOps.sim okL rfl rfl ?_
    refine AOps.sim okL rfl rfl ?_
    refine AOps.nil ?_
    refine AWp.condF rfl ?_
    refine AWp.seq ?_
    refine AWp.seq ?_
    refine AWp.region ?_
    refine AOps.sim okL rfl rfl ?_
    refine AOps.sim okL rfl rfl ?_
    refine AOps.nil ?_
    refine AWp.condF rfl ?_
    refine AWp.region ?_
    refine AOps.sim okL rfl rfl ?_
    refine AOps.sim okL rfl rfl ?_
    refine AOps.nil ?_
    refine AWp.condF rfl ?_
    refine AWp.seq ?_
    refine AWp.seq ?_
    refine AWp.region ?_
    refine AOps.sim okL rfl rfl ?_
    refine AOps.sim okL rfl rfl ?_
    refine AOps.nil ?_
    refine AWp.condF rfl ?_
    refine AWp.region ?_
    refine AOps.sim okL rfl rfl ?_
    refine AOps.sim okL rfl rfl ?_
    refine AOps.nil ?_
    refine AWp.condF rfl ?_
    refine AWp.seq ?_
    refine AWp.region ?_
    refine AOps.sim okL rfl rfl ?_
    refine AOps.sim okL rfl rfl ?_
    refine AOps.nil ?_
    refine AWp.condF rfl ?_
    refine AWp.seq ?_
    refine AWp.region ?_
    refine AOps.sim okL rfl rfl ?_
    refine AOps.sim okL rfl rfl ?_
    refine AOps.nil ?_
    refine AWp.condT rfl ?_
    refine AWp.seq ?_
    refine AWp.region ?_
    refine AOps.sim okL rfl rfl ?_
    refine AOps.sim okL rfl rfl ?_
    refine AOps.nil ?_
    refine AWp.seq ?_
    refine AWp.seq ?_
    refine AWp.region ?_
    refine AOps.sim okL rfl rfl ?_
    refine AOps.nil ?_
    refine AWp.block ?_
    rename_i r _
    refine AWp.loopM (α := Nat × Int × Int) (fun a => l.length - a.1) (fun a => [(1, .ptr r 7 0 0), (6, i64 a.2.1), (7, i64 a.2.2), (8, i64 a.1)]) (fun _ => _)
      (fun a => a.1 ≤ l.length ∧ spanC4 (l.drop a.1) a.2 = spanP (.mk 4 n mn mx nm st l)) (0, 0, 0) ⟨Nat.zero_le _, hP.symm⟩ ?_ (List.Perm.refl _) ?_
    · simp only [AllIn]
      refine ⟨rfl, rfl, rfl, rfl, trivial⟩
    rintro ⟨k, m⟩ ⟨hk, hm⟩ ih
    simp only at hk hm
    refine AWp.seq ?_
    refine AWp.seq ?_
    refine AWp.region ?_
    refine AOps.sim okL rfl rfl ?_
    refine AOps.sim okL rfl rfl ?_
    refine AOps.pln ?_; refine AOp.load okL rfl (.head _) rfl rfl rfl rfl ?_
    refine AOps.sim okL rfl rfl ?_
    refine AOps.sim okL rfl rfl ?_
    refine AOps.nil ?_
    refine seqQ_n ?_
    first | refine AWp.condCase rfl (fun h => ?_) (fun h => ?_) | refine AWp.cond rfl (fun h => ?_) (fun h => ?_)
    · have h := of_decide_eq_true h
      simp only [List.length_map, Pat.l] at h
      obtain ⟨y, hy⟩ : ∃ y, l[k]? = some y := ⟨l[k], by simp [show k < l.length by omega]⟩
      have nx := nxt (k := k) (n := l.length) (by omega) hlen
      rw [drop_get hy, spanC4] at hm
      have hc := IH y (List.mem_of_getElem? hy) (hs.tl y (List.mem_of_getElem? hy))
      refine AWp.skip ?_
      refine AWp.seq ?_
      refine AWp.block ?_
      refine AWp.seq ?_
      refine AWp.region ?_
      refine AOps.sim okL rfl rfl ?_
      refine AOps.pln ?_; refine AOp.load okL rfl (.head _) rfl rfl rfl rfl ?_
      refine AOps.sim okL rfl rfl ?_
      refine AOps.sim okL (sOp_idxD rfl rfl rfl rfl rfl (by omega) (getC hy) rfl) rfl ?_
      refine AOps.sim okL rfl rfl ?_
      refine AOps.pln ?_; focus (refine AOp.callP (v := ?_) rfl rfl rfl ?_ ?_; rotate_left; exact (hc))
      refine AOps.sim okL rfl rfl ?_
      refine AOps.sim okL rfl rfl ?_
      refine AOps.sim okL rfl rfl ?_
      refine AOps.sim okL rfl rfl ?_
      refine AOps.sim okL rfl rfl ?_
      refine AOps.nil ?_
      refine AWp.seq ?_
      refine AWp.region ?_
      refine AOps.sim okL rfl rfl ?_
      refine AOps.sim okL rfl rfl ?_
      refine AOps.sim okL rfl rfl ?_
      refine AOps.sim okL rfl rfl ?_
      refine AOps.nil ?_
      refine AWp.seq ?_
      refine AWp.region ?_
      refine AOps.sim okL rfl rfl ?_
      refine AOps.sim okL rfl rfl ?_
      refine AOps.sim okL rfl rfl ?_
      refine AOps.guardCase rfl rfl rfl (fun h => ?_) (fun h => ?_)
      · refine AOps.unw rfl rfl rfl rfl ?_
        refine AOps.unw rfl rfl rfl rfl ?_
        refine AOps.sim okL rfl rfl ?_
        refine AOps.nil ?_
        refine AWp.condT rfl ?_
        refine AWp.region ?_
        refine AOps.sim okL rfl rfl ?_
        refine AOps.nil ?_
        refine AWp.region ?_
        refine AOps.sim okL rfl rfl ?_
        refine AOps.sim okL rfl rfl ?_
        refine AOps.sim okL rfl rfl ?_
        refine AOps.nil ?_
        refine seqQ_n ?_
        (refine AIn.nextN 0 (ih ((k + 1, catS m (spanP y))) (⟨by omega, hm⟩) (by first | omega | (simp only; omega))) ?_ rfl; repeat (first | exact trivial | refine ⟨rfl, ?_⟩ | refine ⟨congrArg some nx, ?_⟩ | refine ⟨congrArg (fun v => some (A.int .i64 v)) (by clear ih IH hc hm hP; simp_all [catS, w64] <;> omega), ?_⟩))
      · refine AOps.simW okL rfl rfl rfl rfl ?_
        refine AOps.simW okL rfl rfl rfl rfl ?_
        refine AOps.sim okL rfl rfl ?_
        refine AOps.nil ?_
        refine seqQ_n ?_
        refine AWp.condCase rfl (fun h => ?_) (fun h => ?_)
        · refine AWp.region ?_
          refine AOps.sim okL rfl rfl ?_
          refine AOps.nil ?_
          refine AWp.region ?_
          refine AOps.sim okL rfl rfl ?_
          refine AOps.sim okL rfl rfl ?_
          refine AOps.sim okL rfl rfl ?_
          refine AOps.nil ?_
          refine seqQ_n ?_
          (refine AIn.nextN 0 (ih ((k + 1, catS m (spanP y))) (⟨by omega, hm⟩) (by first | omega | (simp only; omega))) ?_ rfl; repeat (first | exact trivial | refine ⟨rfl, ?_⟩ | refine ⟨congrArg some nx, ?_⟩ | refine ⟨congrArg (fun v => some (A.int .i64 v)) (by clear ih IH hc hm hP; simp_all [catS, w64] <;> omega), ?_⟩))
        · refine AWp.region ?_
          refine AOps.sim okL rfl rfl ?_
          refine AOps.sim okL rfl rfl ?_
          refine AOps.sim okL rfl rfl ?_
          refine AOps.sim okL rfl rfl ?_
          refine AOps.nil ?_
          refine AWp.region ?_
          refine AOps.sim okL rfl rfl ?_
          refine AOps.sim okL rfl rfl ?_
          refine AOps.sim okL rfl rfl ?_
          refine AOps.nil ?_
          refine seqQ_n ?_
          (refine AIn.nextN 0 (ih ((k + 1, catS m (spanP y))) (⟨by omega, hm⟩) (by first | omega | (simp only; omega))) ?_ rfl; repeat (first | exact trivial | refine ⟨rfl, ?_⟩ | refine ⟨congrArg some nx, ?_⟩ | refine ⟨congrArg (fun v => some (A.int .i64 v)) (by clear ih IH hc hm hP; simp_all [catS, w64] <;> omega), ?_⟩))
    · have h := of_decide_eq_false h
      simp only [List.length_map, Pat.l] at h
      rw [List.drop_eq_nil_of_le (by omega), spanC4] at hm
      refine AWp.exit ?_
      refine AWp.seq ?_
      refine AWp.region ?_
      refine AOps.sim okL rfl rfl ?_
      refine AOps.sim okL rfl rfl ?_
      refine AOps.sim okL rfl rfl ?_
      refine AOps.sim okL rfl rfl ?_
      refine AOps.nil ?_
      refine AWp.ret ?_
      refine blockQ_r ?_
      refine seqQ_r ?_
      refine bodyQ_r (by first | exact ResOk.one rfl rfl | exact ResOk.two rfl rfl rfl | exact ResOk.three rfl rfl rfl rfl | exact ResOk.none rfl) ?_
      rw [← hm]
  by_cases h5 : x.op = 5
  · obtain ⟨op, n, mn, mx, nm, st, l⟩ := x
    simp only [Pat.op] at h5
    subst h5
    cases l with
    | nil => exact absurd rfl (hs.hd (by simp [Pat.op]))
    | cons y0 l0 =>
    have hP : spanP (.mk 5 n mn mx nm st (y0 :: l0)) = spanA l0 (spanP y0) := by rw [spanP_eq]; rfl
    simp only [Pat.l] at IH hlen
    have hc0 := IH y0 List.mem_cons_self (hs.tl y0 List.mem_cons_self)
    refine AWp.seq ?_
    refine AWp.region ?_
    refine AOps.pln ?_; refine AOp.box rfl rfl (isVal_or rfl) rfl rfl ?_; intro _ _
    refine AOps.sim okL rfl rfl ?_
    refine AOps.sim okL rfl rfl ?_
    refine AOps.nil ?_
    refine AWp.seq ?_
    refine AWp.seq ?_
    refine AWp.region ?_
    refine AOps.sim okL rfl rfl ?_
    refine AOps.pln ?_; refine AOp.load okL rfl (.head _) rfl rfl rfl rfl ?_
    refine AOps.nil ?_
    refine AWp.block ?_
    refine AWp.seq ?_
    refine AWp.seq ?_
    refine AWp.region ?_
    refine AOps.sim okL rfl rfl ?_
    refine AOps.sim okL rfl rfl ?_
    refine AOps.nil ?_
    refine AWp.condF rfl ?_
    refine AWp.seq ?_
    refine AWp.region ?_
    refine AOps.sim okL rfl rfl ?_
    refine AOps.sim okL rfl rfl ?_
    refine AOps.nil ?_
    refine AWp.condF rfl ?_
    refine AWp.region ?_
    refine AOps.sim okL rfl rfl ?_
    refine AOps.sim okL rfl rfl ?_
    refine AOps.nil ?_
    refine AWp.condF rfl ?_
    refine AWp.seq ?_
    refine AWp.seq ?_
    refine AWp.region ?_
    refine AOps.sim okL rfl rfl ?_
    refine AOps.sim okL rfl rfl ?_
    refine AOps.nil ?_
    refine AWp.condF rfl ?_
    refine AWp.region ?_
    refine AOps.sim okL rfl rfl ?_
    refine AOps.sim okL rfl rfl ?_
    refine AOps.nil ?_
    refine AWp.condF rfl ?_
    refine AWp.seq ?_
    refine AWp.seq ?_
    refine AWp.region ?_
    refine AOps.sim okL rfl rfl ?_
    refine AOps.sim okL rfl rfl ?_
    refine AOps.nil ?_
    refine AWp.condF rfl ?_
    refine AWp.region ?_
    refine AOps.sim okL rfl rfl ?_
    refine AOps.sim okL rfl rfl ?_
    refine AOps.nil ?_
    refine AWp.condF rfl ?_
    refine AWp.seq ?_
    refine AWp.region ?_
    refine AOps.sim okL rfl rfl ?_
    refine AOps.sim okL rfl rfl ?_
    refine AOps.nil ?_
    refine AWp.condF rfl ?_
    refine AWp.seq ?_
    refine AWp.region ?_
    refine AOps.sim okL rfl rfl ?_
    refine AOps.sim okL rfl rfl ?_
    refine AOps.nil ?_
    refine AWp.condF rfl ?_
    refine AWp.seq ?_
    refine AWp.seq ?_
    refine AWp.region ?_
    refine AOps.sim okL rfl rfl ?_
    refine AOps.sim okL rfl rfl ?_
    refine AOps.nil ?_
    refine AWp.condT rfl ?_
    refine AWp.skip ?_
    refine AWp.condT rfl ?_
    refine AWp.seq ?_
    refine AWp.region ?_
    refine AOps.sim okL rfl rfl ?_
    refine AOps.pln ?_; refine AOp.load okL rfl (.head _) rfl rfl rfl rfl ?_
    refine AOps.sim okL (sOp_idxD rfl rfl rfl rfl rfl (Int.le_refl _) (getC (l := y0 :: l0) (k := 0) rfl) rfl) rfl ?_
    refine AOps.sim okL rfl rfl ?_
    refine AOps.pln ?_; focus (refine AOp.callP (v := ?_) rfl rfl rfl ?_ ?_; rotate_left; exact (hc0))
    refine AOps.sim okL rfl rfl ?_
    refine AOps.sim okL rfl rfl ?_
    refine AOps.sim okL rfl rfl ?_
    refine AOps.sim okL rfl rfl ?_
    refine AOps.sim okL rfl rfl ?_
    refine AOps.nil ?_
    refine AWp.seq ?_
    refine AWp.seq ?_
    refine AWp.region ?_
    refine AOps.sim okL rfl rfl ?_
    refine AOps.nil ?_
    refine AWp.block ?_
    rename_i r _
    refine AWp.loopM (α := Nat × Int × Int) (fun a => (y0 :: l0).length - a.1) (fun a => [(1, .ptr r 7 0 0), (11, i64 a.2.1), (12, i64 a.2.2), (13, i64 a.1)]) (fun _ => _)
      (fun a => 1 ≤ a.1 ∧ a.1 ≤ (y0 :: l0).length ∧ spanA ((y0 :: l0).drop a.1) a.2 = spanP (.mk 5 n mn mx nm st (y0 :: l0))) (1, spanP y0) ⟨Nat.le_refl _, by simp, hP.symm⟩ ?_ (List.Perm.refl _) ?_
    · simp only [AllIn]
      refine ⟨rfl, rfl, rfl, rfl, trivial⟩
    rintro ⟨k, m⟩ ⟨hk1, hk, hm⟩ ih
    simp only at hk1 hk hm
    refine AWp.seq ?_
    refine AWp.seq ?_
    refine AWp.region ?_
    refine AOps.sim okL rfl rfl ?_
    refine AOps.sim okL rfl rfl ?_
    refine AOps.pln ?_; refine AOp.load okL rfl (.head _) rfl rfl rfl rfl ?_
    refine AOps.sim okL rfl rfl ?_
    refine AOps.sim okL rfl rfl ?_
    refine AOps.nil ?_
    refine seqQ_n ?_
    first | refine AWp.condCase rfl (fun h => ?_) (fun h => ?_) | refine AWp.cond rfl (fun h => ?_) (fun h => ?_)
    · have h := of_decide_eq_true h
      simp only [List.length_map, Pat.l] at h
      obtain ⟨y, hy⟩ : ∃ y, (y0 :: l0)[k]? = some y := ⟨(y0 :: l0)[k]'(by omega), by simp [show k < (y0 :: l0).length by omega]⟩
      have nx := nxt (k := k) (n := (y0 :: l0).length) (by omega) hlen
      rw [drop_get hy, spanA] at hm
      have hc := IH y (List.mem_of_getElem? hy) (hs.tl y (List.mem_of_getElem? hy))
      refine AWp.skip ?_
      refine AWp.seq ?_
      refine AWp.block ?_
      refine AWp.seq ?_
      refine AWp.region ?_
      refine AOps.sim okL rfl rfl ?_
      refine AOps.pln ?_; refine AOp.load okL rfl (.head _) rfl rfl rfl rfl ?_
      refine AOps.sim okL rfl rfl ?_
      refine AOps.sim okL (sOp_idxD rfl rfl rfl rfl rfl (by omega) (getC hy) rfl) rfl ?_
      refine AOps.sim okL rfl rfl ?_
      refine AOps.pln ?_; focus (refine AOp.callP (v := ?_) rfl rfl rfl ?_ ?_; rotate_left; exact (hc))
      refine AOps.sim okL rfl rfl ?_
      refine AOps.sim okL rfl rfl ?_
      refine AOps.sim okL rfl rfl ?_
      refine AOps.sim okL rfl rfl ?_
      refine AOps.sim okL rfl rfl ?_
      refine AOps.nil ?_
      refine AWp.seq ?_
      refine AWp.region ?_
      refine AOps.sim okL rfl rfl ?_
      refine AOps.sim okL rfl rfl ?_
      refine AOps.sim okL rfl rfl ?_
      refine AOps.sim okL rfl rfl ?_
      refine AOps.nil ?_
      refine AWp.seq ?_
      refine AWp.region ?_
      refine AOps.sim okL rfl rfl ?_
      refine AOps.sim okL rfl rfl ?_
      refine AOps.sim okL rfl rfl ?_
      refine AOps.guardCase rfl rfl rfl (fun h => ?_) (fun h => ?_)
      · refine AOps.unw rfl rfl rfl rfl ?_
        refine AOps.unw rfl rfl rfl rfl ?_
        refine AOps.sim okL rfl rfl ?_
        refine AOps.nil ?_
        refine AWp.condT rfl ?_
        refine AWp.region ?_
        refine AOps.sim okL rfl rfl ?_
        refine AOps.nil ?_
        refine AWp.region ?_
        refine AOps.sim okL rfl rfl ?_
        refine AOps.sim okL rfl rfl ?_
        refine AOps.sim okL rfl rfl ?_
        refine AOps.nil ?_
        refine seqQ_n ?_
        (refine AIn.nextN 0 (ih ((k + 1, altS m (spanP y))) (⟨by omega, by omega, hm⟩) (by first | omega | (simp only; omega))) ?_ rfl; repeat (first | exact trivial | refine ⟨rfl, ?_⟩ | refine ⟨congrArg some nx, ?_⟩ | refine ⟨congrArg (fun v => some (A.int .i64 v)) (by clear ih IH hc hc0 hm hP hy hs; simp_all [altS, w64] <;> omega), ?_⟩))
      · refine AOps.simW okL rfl rfl rfl rfl ?_
        refine AOps.simW okL rfl rfl rfl rfl ?_
        refine AOps.sim okL rfl rfl ?_
        refine AOps.nil ?_
        refine seqQ_n ?_
        refine AWp.condCase rfl (fun h => ?_) (fun h => ?_)
        · refine AWp.region ?_
          refine AOps.sim okL rfl rfl ?_
          refine AOps.nil ?_
          refine AWp.region ?_
          refine AOps.sim okL rfl rfl ?_
          refine AOps.sim okL rfl rfl ?_
          refine AOps.sim okL rfl rfl ?_
          refine AOps.nil ?_
          refine seqQ_n ?_
          (refine AIn.nextN 0 (ih ((k + 1, altS m (spanP y))) (⟨by omega, by omega, hm⟩) (by first | omega | (simp only; omega))) ?_ rfl; repeat (first | exact trivial | refine ⟨rfl, ?_⟩ | refine ⟨congrArg some nx, ?_⟩ | refine ⟨congrArg (fun v => some (A.int .i64 v)) (by clear ih IH hc hc0 hm hP hy hs; simp_all [altS, w64] <;> omega), ?_⟩))
        · refine AWp.region ?_
          refine AOps.sim okL rfl rfl ?_
          refine AOps.sim okL rfl rfl ?_
          refine AOps.sim okL rfl rfl ?_
          refine AOps.sim okL rfl rfl ?_
          refine AOps.nil ?_
          refine AWp.region ?_
          refine AOps.sim okL rfl rfl ?_
          refine AOps.sim okL rfl rfl ?_
          refine AOps.sim okL rfl rfl ?_
          refine AOps.nil ?_
          refine seqQ_n ?_
          (refine AIn.nextN 0 (ih ((k + 1, altS m (spanP y))) (⟨by omega, by omega, hm⟩) (by first | omega | (simp only; omega))) ?_ rfl; repeat (first | exact trivial | refine ⟨rfl, ?_⟩ | refine ⟨congrArg some nx, ?_⟩ | refine ⟨congrArg (fun v => some (A.int .i64 v)) (by clear ih IH hc hc0 hm hP hy hs; simp_all [altS, w64] <;> omega), ?_⟩))
    · have h := of_decide_eq_false h
      simp only [List.length_map, Pat.l] at h
      rw [List.drop_eq_nil_of_le (by omega), spanA] at hm
      refine AWp.exit ?_
      refine AWp.seq ?_
      refine AWp.region ?_
      refine AOps.sim okL rfl rfl ?_
      refine AOps.sim okL rfl rfl ?_
      refine AOps.sim okL rfl rfl ?_
      refine AOps.sim okL rfl rfl ?_
      refine AOps.nil ?_
      refine AWp.ret ?_
      refine blockQ_r ?_
      refine seqQ_r ?_
      refine bodyQ_r (by first | exact ResOk.one rfl rfl | exact ResOk.two rfl rfl rfl | exact ResOk.three rfl rfl rfl rfl | exact ResOk.none rfl) ?_
      rw [← hm]
  by_cases h5' : x.op = 15
  · obtain ⟨op, n, mn, mx, nm, st, l⟩ := x
    simp only [Pat.op] at h5'
    subst h5'
    cases l with
    | nil => exact absurd rfl (hs.hd (by simp [Pat.op]))
    | cons y0 l0 =>
    have hP : spanP (.mk 15 n mn mx nm st (y0 :: l0)) = spanA l0 (spanP y0) := by rw [spanP_eq]; rfl
    simp only [Pat.l] at IH hlen
    have hc0 := IH y0 List.mem_cons_self (hs.tl y0 List.mem_cons_self)
    refine AWp.seq ?_
    refine AWp.region ?_
    refine AOps.pln ?_; refine AOp.box rfl rfl (isVal_or rfl) rfl rfl ?_; intro _ _
    refine AOps.sim okL rfl rfl ?_
    refine AOps.sim okL rfl rfl ?_
    refine AOps.nil ?_
    refine AWp.seq ?_
    refine AWp.seq ?_
    refine AWp.region ?_
    refine AOps.sim okL rfl rfl ?_
    refine AOps.pln ?_; refine AOp.load okL rfl (.head _) rfl rfl rfl rfl ?_
    refine AOps.nil ?_
    refine AWp.block ?_
    refine AWp.seq ?_
    refine AWp.seq ?_
    refine AWp.region ?_
    refine AOps.sim okL rfl rfl ?_
    refine AOps.sim okL rfl rfl ?_
    refine AOps.nil ?_
    refine AWp.condF rfl ?_
    refine AWp.seq ?_
    refine AWp.region ?_
    refine AOps.sim okL rfl rfl ?_
    refine AOps.sim okL rfl rfl ?_
    refine AOps.nil ?_
    refine AWp.condF rfl ?_
    refine AWp.region ?_
    refine AOps.sim okL rfl rfl ?_
    refine AOps.sim okL rfl rfl ?_
    refine AOps.nil ?_
    refine AWp.condF rfl ?_
    refine AWp.seq ?_
    refine AWp.seq ?_
    refine AWp.region ?_
    refine AOps.sim okL rfl rfl ?_
    refine AOps.sim okL rfl rfl ?_
    refine AOps.nil ?_
    refine AWp.condF rfl ?_
    refine AWp.region ?_
    refine AOps.sim okL rfl rfl ?_
    refine AOps.sim okL rfl rfl ?_
    refine AOps.nil ?_
    refine AWp.condF rfl ?_
    refine AWp.seq ?_
    refine AWp.seq ?_
    refine AWp.region ?_
    refine AOps.sim okL rfl rfl ?_
    refine AOps.sim okL rfl rfl ?_
    refine AOps.nil ?_
    refine AWp.condF rfl ?_
    refine AWp.region ?_
    refine AOps.sim okL rfl rfl ?_
    refine AOps.sim okL rfl rfl ?_
    refine AOps.nil ?_
    refine AWp.condF rfl ?_
    refine AWp.seq ?_
    refine AWp.region ?_
    refine AOps.sim okL rfl rfl ?_
    refine AOps.sim okL rfl rfl ?_
    refine AOps.nil ?_
    refine AWp.condF rfl ?_
    refine AWp.seq ?_
    refine AWp.region ?_
    refine AOps.sim okL rfl rfl ?_
    refine AOps.sim okL rfl rfl ?_
    refine AOps.nil ?_
    refine AWp.condF rfl ?_
    refine AWp.seq ?_
    refine AWp.seq ?_
    refine AWp.region ?_
    refine AOps.sim okL rfl rfl ?_
    refine AOps.sim okL rfl rfl ?_
    refine AOps.nil ?_
    refine AWp.condF rfl ?_
    refine AWp.region ?_
    refine AOps.sim okL rfl rfl ?_
    refine AOps.sim okL rfl rfl ?_
    refine AOps.nil ?_
    refine AWp.condT rfl ?_
    refine AWp.seq ?_
    refine AWp.region ?_
    refine AOps.sim okL rfl rfl ?_
    refine AOps.pln ?_; refine AOp.load okL rfl (.head _) rfl rfl rfl rfl ?_
    refine AOps.sim okL (sOp_idxD rfl rfl rfl rfl rfl (Int.le_refl _) (getC (l := y0 :: l0) (k := 0) rfl) rfl) rfl ?_
    refine AOps.sim okL rfl rfl ?_
    refine AOps.pln ?_; focus (refine AOp.callP (v := ?_) rfl rfl rfl ?_ ?_; rotate_left; exact (hc0))
    refine AOps.sim okL rfl rfl ?_
    refine AOps.sim okL rfl rfl ?_
    refine AOps.sim okL rfl rfl ?_
    refine AOps.sim okL rfl rfl ?_
    refine AOps.sim okL rfl rfl ?_
    refine AOps.nil ?_
    refine AWp.seq ?_
    refine AWp.seq ?_
    refine AWp.region ?_
    refine AOps.sim okL rfl rfl ?_
    refine AOps.nil ?_
    refine AWp.block ?_
    rename_i r _
    refine AWp.loopM (α := Nat × Int × Int) (fun a => (y0 :: l0).length - a.1) (fun a => [(1, .ptr r 7 0 0), (11, i64 a.2.1), (12, i64 a.2.2), (13, i64 a.1)]) (fun _ => _)
      (fun a => 1 ≤ a.1 ∧ a.1 ≤ (y0 :: l0).length ∧ spanA ((y0 :: l0).drop a.1) a.2 = spanP (.mk 15 n mn mx nm st (y0 :: l0))) (1, spanP y0) ⟨Nat.le_refl _, by simp, hP.symm⟩ ?_ (List.Perm.refl _) ?_
    · simp only [AllIn]
      refine ⟨rfl, rfl, rfl, rfl, trivial⟩
    rintro ⟨k, m⟩ ⟨hk1, hk, hm⟩ ih
    simp only at hk1 hk hm
    refine AWp.seq ?_
    refine AWp.seq ?_
    refine AWp.region ?_
    refine AOps.sim okL rfl rfl ?_
    refine AOps.sim okL rfl rfl ?_
    refine AOps.pln ?_; refine AOp.load okL rfl (.head _) rfl rfl rfl rfl ?_
    refine AOps.sim okL rfl rfl ?_
    refine AOps.sim okL rfl rfl ?_
    refine AOps.nil ?_
    refine seqQ_n ?_
    first | refine AWp.condCase rfl (fun h => ?_) (fun h => ?_) | refine AWp.cond rfl (fun h => ?_) (fun h => ?_)
    · have h := of_decide_eq_true h
      simp only [List.length_map, Pat.l] at h
      obtain ⟨y, hy⟩ : ∃ y, (y0 :: l0)[k]? = some y := ⟨(y0 :: l0)[k]'(by omega), by simp [show k < (y0 :: l0).length by omega]⟩
      have nx := nxt (k := k) (n := (y0 :: l0).length) (by omega) hlen
      rw [drop_get hy, spanA] at hm
      have hc := IH y (List.mem_of_getElem? hy) (hs.tl y (List.mem_of_getElem? hy))
      refine AWp.skip ?_
      refine AWp.seq ?_
      refine AWp.block ?_
      refine AWp.seq ?_
      refine AWp.region ?_
      refine AOps.sim okL rfl rfl ?_
      refine AOps.pln ?_; refine AOp.load okL rfl (.head _) rfl rfl rfl rfl ?_
      refine AOps.sim okL rfl rfl ?_
      refine AOps.sim okL (sOp_idxD rfl rfl rfl rfl rfl (by omega) (getC hy) rfl) rfl ?_
      refine AOps.sim okL rfl rfl ?_
      refine AOps.pln ?_; focus (refine AOp.callP (v := ?_) rfl rfl rfl ?_ ?_; rotate_left; exact (hc))
      refine AOps.sim okL rfl rfl ?_
      refine AOps.sim okL rfl rfl ?_
      refine AOps.sim okL rfl rfl ?_
      refine AOps.sim okL rfl rfl ?_
      refine AOps.sim okL rfl rfl ?_
      refine AOps.nil ?_
      refine AWp.seq ?_
      refine AWp.region ?_
      refine AOps.sim okL rfl rfl ?_
      refine AOps.sim okL rfl rfl ?_
      refine AOps.sim okL rfl rfl ?_
      refine AOps.sim okL rfl rfl ?_
      refine AOps.nil ?_
      refine AWp.seq ?_
      refine AWp.region ?_
      refine AOps.sim okL rfl rfl ?_
      refine AOps.sim okL rfl rfl ?_
      refine AOps.sim okL rfl rfl ?_
      refine AOps.guardCase rfl rfl rfl (fun h => ?_) (fun h => ?_)
      · refine AOps.unw rfl rfl rfl rfl ?_
        refine AOps.unw rfl rfl rfl rfl ?_
        refine AOps.sim okL rfl rfl ?_
        refine AOps.nil ?_
        refine AWp.condT rfl ?_
        refine AWp.region ?_
        refine AOps.sim okL rfl rfl ?_
        refine AOps.nil ?_
        refine AWp.region ?_
        refine AOps.sim okL rfl rfl ?_
        refine AOps.sim okL rfl rfl ?_
        refine AOps.sim okL rfl rfl ?_
        refine AOps.nil ?_
        refine seqQ_n ?_
        (refine AIn.nextN 0 (ih ((k + 1, altS m (spanP y))) (⟨by omega, by omega, hm⟩) (by first | omega | (simp only; omega))) ?_ rfl; repeat (first | exact trivial | refine ⟨rfl, ?_⟩ | refine ⟨congrArg some nx, ?_⟩ | refine ⟨congrArg (fun v => some (A.int .i64 v)) (by clear ih IH hc hc0 hm hP hy hs; simp_all [altS, w64] <;> omega), ?_⟩))
      · refine AOps.simW okL rfl rfl rfl rfl ?_
        refine AOps.simW okL rfl rfl rfl rfl ?_
        refine AOps.sim okL rfl rfl ?_
        refine AOps.nil ?_
        refine seqQ_n ?_
        refine AWp.condCase rfl (fun h => ?_) (fun h => ?_)
        · refine AWp.region ?_
          refine AOps.sim okL rfl rfl ?_
          refine AOps.nil ?_
          refine AWp.region ?_
          refine AOps.sim okL rfl rfl ?_
          refine AOps.sim okL rfl rfl ?_
          refine AOps.sim okL rfl rfl ?_
          refine AOps.nil ?_
          refine seqQ_n ?_
          (refine AIn.nextN 0 (ih ((k + 1, altS m (spanP y))) (⟨by omega, by omega, hm⟩) (by first | omega | (simp only; omega))) ?_ rfl; repeat (first | exact trivial | refine ⟨rfl, ?_⟩ | refine ⟨congrArg some nx, ?_⟩ | refine ⟨congrArg (fun v => some (A.int .i64 v)) (by clear ih IH hc hc0 hm hP hy hs; simp_all [altS, w64] <;> omega), ?_⟩))
        · refine AWp.region ?_
          refine AOps.sim okL rfl rfl ?_
          refine AOps.sim okL rfl rfl ?_
          refine AOps.sim okL rfl rfl ?_
          refine AOps.sim okL rfl rfl ?_
          refine AOps.nil ?_
          refine AWp.region ?_
          refine AOps.sim okL rfl rfl ?_
          refine AOps.sim okL rfl rfl ?_
          refine AOps.sim okL rfl rfl ?_
          refine AOps.nil ?_
          refine seqQ_n ?_
          (refine AIn.nextN 0 (ih ((k + 1, altS m (spanP y))) (⟨by omega, by omega, hm⟩) (by first | omega | (simp only; omega))) ?_ rfl; repeat (first | exact trivial | refine ⟨rfl, ?_⟩ | refine ⟨congrArg some nx, ?_⟩ | refine ⟨congrArg (fun v => some (A.int .i64 v)) (by clear ih IH hc hc0 hm hP hy hs; simp_all [altS, w64] <;> omega), ?_⟩))
    · have h := of_decide_eq_false h
      simp only [List.length_map, Pat.l] at h
      rw [List.drop_eq_nil_of_le (by omega), spanA] at hm
      refine AWp.exit ?_
      refine AWp.seq ?_
      refine AWp.region ?_
      refine AOps.sim okL rfl rfl ?_
      refine AOps.sim okL rfl rfl ?_
      refine AOps.sim okL rfl rfl ?_
      refine AOps.sim okL rfl rfl ?_
      refine AOps.nil ?_
      refine AWp.ret ?_
      refine blockQ_r ?_
      refine seqQ_r ?_
      refine bodyQ_r (by first | exact ResOk.one rfl rfl | exact ResOk.two rfl rfl rfl | exact ResOk.three rfl rfl rfl rfl | exact ResOk.none rfl) ?_
      rw [← hm]
  cases hxl : x.l with
  | nil =>
    refine AWp.seq ?_
    refine AWp.region ?_
    refine AOps.pln ?_; refine AOp.box rfl rfl (isVal_or rfl) rfl rfl ?_; intro _ _
    refine AOps.sim okL rfl rfl ?_
    refine AOps.sim okL rfl rfl ?_
    refine AOps.nil ?_
    refine AWp.seq ?_
    refine AWp.seq ?_
    refine AWp.region ?_
    refine AOps.sim okL rfl rfl ?_
    refine AOps.pln ?_; refine AOp.load okL rfl (.head _) rfl rfl rfl rfl ?_
    refine AOps.nil ?_
    refine AWp.block ?_
    refine AWp.seq ?_
    refine AWp.seq ?_
    refine AWp.region ?_
    refine AOps.sim okL rfl rfl ?_
    refine AOps.sim okL rfl rfl ?_
    refine AOps.nil ?_
    refine seqQ_n ?_
    refine AWp.condCase rfl (fun h => ?_) (fun h => ?_)
    · refine AWp.skip ?_
      refine AWp.condT rfl ?_
      refine AWp.seq ?_
      refine AWp.region ?_
      refine AOps.sim okL rfl rfl ?_
      refine AOps.sim okL rfl rfl ?_
      refine AOps.nil ?_
      refine AWp.ret ?_
      refine blockQ_r ?_
      refine seqQ_r ?_
      first | (refine bodyQ_r (by first | exact ResOk.one rfl rfl | exact ResOk.two rfl rfl rfl | exact ResOk.three rfl rfl rfl rfl | exact ResOk.none rfl) ?_; clear IH; rw [spanP_eq x]; simp_all; done) | (exfalso; exact hs.hd (by simp_all) hxl) | (exfalso; clear IH; simp_all; done)
    · refine AWp.seq ?_
      refine AWp.region ?_
      refine AOps.sim okL rfl rfl ?_
      refine AOps.sim okL rfl rfl ?_
      refine AOps.nil ?_
      refine seqQ_n ?_
      refine AWp.condCase rfl (fun h => ?_) (fun h => ?_)
      · refine AWp.skip ?_
        refine AWp.condT rfl ?_
        refine AWp.seq ?_
        refine AWp.region ?_
        refine AOps.sim okL rfl rfl ?_
        refine AOps.sim okL rfl rfl ?_
        refine AOps.nil ?_
        refine AWp.ret ?_
        refine blockQ_r ?_
        refine seqQ_r ?_
        first | (refine bodyQ_r (by first | exact ResOk.one rfl rfl | exact ResOk.two rfl rfl rfl | exact ResOk.three rfl rfl rfl rfl | exact ResOk.none rfl) ?_; clear IH; rw [spanP_eq x]; simp_all; done) | (exfalso; exact hs.hd (by simp_all) hxl) | (exfalso; clear IH; simp_all; done)
      · refine AWp.region ?_
        refine AOps.sim okL rfl rfl ?_
        refine AOps.sim okL rfl rfl ?_
        refine AOps.nil ?_
        refine seqQ_n ?_
        refine AWp.condCase rfl (fun h => ?_) (fun h => ?_)
        · refine AWp.seq ?_
          refine AWp.region ?_
          refine AOps.sim okL rfl rfl ?_
          refine AOps.sim okL rfl rfl ?_
          refine AOps.nil ?_
          refine AWp.ret ?_
          refine blockQ_r ?_
          refine seqQ_r ?_
          first | (refine bodyQ_r (by first | exact ResOk.one rfl rfl | exact ResOk.two rfl rfl rfl | exact ResOk.three rfl rfl rfl rfl | exact ResOk.none rfl) ?_; clear IH; rw [spanP_eq x]; simp_all; done) | (exfalso; exact hs.hd (by simp_all) hxl) | (exfalso; clear IH; simp_all; done)
        · refine AWp.seq ?_
          refine AWp.seq ?_
          refine AWp.region ?_
          refine AOps.sim okL rfl rfl ?_
          refine AOps.sim okL rfl rfl ?_
          refine AOps.nil ?_
          refine seqQ_n ?_
          refine AWp.condCase rfl (fun h => ?_) (fun h => ?_)
          · refine AWp.skip ?_
            refine AWp.condT rfl ?_
            refine AWp.seq ?_
            refine AWp.region ?_
            refine AOps.sim okL rfl rfl ?_
            refine AOps.pln ?_; refine AOp.load okL rfl (.head _) rfl rfl rfl rfl ?_
            first | (refine bodyQ_r (by first | exact ResOk.one rfl rfl | exact ResOk.two rfl rfl rfl | exact ResOk.three rfl rfl rfl rfl | exact ResOk.none rfl) ?_; clear IH; rw [spanP_eq x]; simp_all; done) | (exfalso; exact hs.hd (by simp_all) hxl) | (exfalso; clear IH; simp_all; done)
          · refine AWp.region ?_
            refine AOps.sim okL rfl rfl ?_
            refine AOps.sim okL rfl rfl ?_
            refine AOps.nil ?_
            refine seqQ_n ?_
            refine AWp.condCase rfl (fun h => ?_) (fun h => ?_)
            · refine AWp.seq ?_
              refine AWp.region ?_
              refine AOps.sim okL rfl rfl ?_
              refine AOps.pln ?_; refine AOp.load okL rfl (.head _) rfl rfl rfl rfl ?_
              first | (refine bodyQ_r (by first | exact ResOk.one rfl rfl | exact ResOk.two rfl rfl rfl | exact ResOk.three rfl rfl rfl rfl | exact ResOk.none rfl) ?_; clear IH; rw [spanP_eq x]; simp_all; done) | (exfalso; exact hs.hd (by simp_all) hxl) | (exfalso; clear IH; simp_all; done)
            · refine AWp.seq ?_
              refine AWp.seq ?_
              refine AWp.region ?_
              refine AOps.sim okL rfl rfl ?_
              refine AOps.sim okL rfl rfl ?_
              refine AOps.nil ?_
              refine seqQ_n ?_
              refine AWp.condCase rfl (fun h => ?_) (fun h => ?_)
              · refine AWp.skip ?_
                refine AWp.condT rfl ?_
                refine AWp.seq ?_
                refine AWp.region ?_
                refine AOps.sim okL rfl rfl ?_
                refine AOps.sim okL rfl rfl ?_
                refine AOps.nil ?_
                refine AWp.ret ?_
                refine blockQ_r ?_
                refine seqQ_r ?_
                first | (refine bodyQ_r (by first | exact ResOk.one rfl rfl | exact ResOk.two rfl rfl rfl | exact ResOk.three rfl rfl rfl rfl | exact ResOk.none rfl) ?_; clear IH; rw [spanP_eq x]; simp_all; done) | (exfalso; exact hs.hd (by simp_all) hxl) | (exfalso; clear IH; simp_all; done)
              · refine AWp.region ?_
                refine AOps.sim okL rfl rfl ?_
                refine AOps.sim okL rfl rfl ?_
                refine AOps.nil ?_
                refine seqQ_n ?_
                refine AWp.condCase rfl (fun h => ?_) (fun h => ?_)
                · refine AWp.seq ?_
                  refine AWp.region ?_
                  refine AOps.sim okL rfl rfl ?_
                  refine AOps.sim okL rfl rfl ?_
                  refine AOps.nil ?_
                  refine AWp.ret ?_
                  refine blockQ_r ?_
                  refine seqQ_r ?_
                  first | (refine bodyQ_r (by first | exact ResOk.one rfl rfl | exact ResOk.two rfl rfl rfl | exact ResOk.three rfl rfl rfl rfl | exact ResOk.none rfl) ?_; clear IH; rw [spanP_eq x]; simp_all; done) | (exfalso; exact hs.hd (by simp_all) hxl) | (exfalso; clear IH; simp_all; done)
                · refine AWp.seq ?_
                  refine AWp.region ?_
                  refine AOps.sim okL rfl rfl ?_
                  refine AOps.sim okL rfl rfl ?_
                  refine AOps.nil ?_
                  refine seqQ_n ?_
                  refine AWp.condCase rfl (fun h => ?_) (fun h => ?_)
                  · refine AWp.seq ?_
                    refine AWp.region ?_
                    refine AOps.sim okL rfl rfl ?_
                    refine AOps.pln ?_; refine AOp.load okL rfl (.head _) rfl rfl rfl rfl ?_
                    first | (refine bodyQ_r (by first | exact ResOk.one rfl rfl | exact ResOk.two rfl rfl rfl | exact ResOk.three rfl rfl rfl rfl | exact ResOk.none rfl) ?_; clear IH; rw [spanP_eq x]; simp_all; done) | (exfalso; exact hs.hd (by simp_all) hxl) | (exfalso; clear IH; simp_all; done)
                  · refine AWp.seq ?_
                    refine AWp.region ?_
                    refine AOps.sim okL rfl rfl ?_
                    refine AOps.sim okL rfl rfl ?_
                    refine AOps.nil ?_
                    refine seqQ_n ?_
                    refine AWp.condCase rfl (fun h => ?_) (fun h => ?_)
                    · refine AWp.seq ?_
                      refine AWp.region ?_
                      refine AOps.sim okL rfl rfl ?_
                      refine AOps.sim okL rfl rfl ?_
                      refine AOps.nil ?_
                      refine AWp.seq ?_
                      refine AWp.seq ?_
                      refine AWp.region ?_
                      refine AOps.sim okL rfl rfl ?_
                      refine AOps.nil ?_
                      refine AWp.block ?_
                      first | (refine bodyQ_r (by first | exact ResOk.one rfl rfl | exact ResOk.two rfl rfl rfl | exact ResOk.three rfl rfl rfl rfl | exact ResOk.none rfl) ?_; clear IH; rw [spanP_eq x]; simp_all; done) | (exfalso; exact hs.hd (by simp_all) hxl) | (exfalso; clear IH; simp_all; done)
                    · refine AWp.seq ?_
                      refine AWp.seq ?_
                      refine AWp.region ?_
                      refine AOps.sim okL rfl rfl ?_
                      refine AOps.sim okL rfl rfl ?_
                      refine AOps.nil ?_
                      refine seqQ_n ?_
                      refine AWp.condCase rfl (fun h => ?_) (fun h => ?_)
                      · refine AWp.skip ?_
                        refine AWp.condT rfl ?_
                        refine AWp.seq ?_
                        refine AWp.region ?_
                        refine AOps.sim okL rfl rfl ?_
                        refine AOps.pln ?_; refine AOp.load okL rfl (.head _) rfl rfl rfl rfl ?_
                        first | (refine bodyQ_r (by first | exact ResOk.one rfl rfl | exact ResOk.two rfl rfl rfl | exact ResOk.three rfl rfl rfl rfl | exact ResOk.none rfl) ?_; clear IH; rw [spanP_eq x]; simp_all; done) | (exfalso; exact hs.hd (by simp_all) hxl) | (exfalso; clear IH; simp_all; done)
                      · refine AWp.region ?_
                        refine AOps.sim okL rfl rfl ?_
                        refine AOps.sim okL rfl rfl ?_
                        refine AOps.nil ?_
                        refine seqQ_n ?_
                        refine AWp.condCase rfl (fun h => ?_) (fun h => ?_)
                        · refine AWp.seq ?_
                          refine AWp.region ?_
                          refine AOps.sim okL rfl rfl ?_
                          refine AOps.pln ?_; refine AOp.load okL rfl (.head _) rfl rfl rfl rfl ?_
                          first | (refine bodyQ_r (by first | exact ResOk.one rfl rfl | exact ResOk.two rfl rfl rfl | exact ResOk.three rfl rfl rfl rfl | exact ResOk.none rfl) ?_; clear IH; rw [spanP_eq x]; simp_all; done) | (exfalso; exact hs.hd (by simp_all) hxl) | (exfalso; clear IH; simp_all; done)
                        · refine AWp.skip ?_
                          refine AWp.seq ?_
                          refine AWp.region ?_
                          refine AOps.sim okL rfl rfl ?_
                          refine AOps.sim okL rfl rfl ?_
                          refine AOps.nil ?_
                          refine AWp.ret ?_
                          first | (refine bodyQ_r (by first | exact ResOk.one rfl rfl | exact ResOk.two rfl rfl rfl | exact ResOk.three rfl rfl rfl rfl | exact ResOk.none rfl) ?_; clear IH; rw [spanP_eq x]; simp_all; done) | (exfalso; exact hs.hd (by simp_all) hxl) | (exfalso; clear IH; simp_all; done)
  | cons y0 l0 =>
    have hy0 : y0 ∈ x.l := by rw [hxl]; exact List.mem_cons_self
    have hc := IH y0 hy0 (hs.tl y0 hy0)
    have hH : spanH x.l = spanP y0 := by rw [hxl]; rfl
    have hg : x.l[0]? = some y0 := by rw [hxl]; rfl
    refine AWp.seq ?_
    refine AWp.region ?_
    refine AOps.pln ?_; refine AOp.box rfl rfl (isVal_or rfl) rfl rfl ?_; intro _ _
    refine AOps.sim okL rfl rfl ?_
    refine AOps.sim okL rfl rfl ?_
    refine AOps.nil ?_
    refine AWp.seq ?_
    refine AWp.seq ?_
    refine AWp.region ?_
    refine AOps.sim okL rfl rfl ?_
    refine AOps.pln ?_; refine AOp.load okL rfl (.head _) rfl rfl rfl rfl ?_
    refine AOps.nil ?_
    refine AWp.block ?_
    refine AWp.seq ?_
    refine AWp.seq ?_
    refine AWp.region ?_
    refine AOps.sim okL rfl rfl ?_
    refine AOps.sim okL rfl rfl ?_
    refine AOps.nil ?_
    refine seqQ_n ?_
    refine AWp.condCase rfl (fun h => ?_) (fun h => ?_)
    · refine AWp.skip ?_
      refine AWp.condT rfl ?_
      refine AWp.seq ?_
      refine AWp.region ?_
      refine AOps.sim okL rfl rfl ?_
      refine AOps.sim okL rfl rfl ?_
      refine AOps.nil ?_
      refine AWp.ret ?_
      refine blockQ_r ?_
      refine seqQ_r ?_
      first | (refine bodyQ_r (by first | exact ResOk.one rfl rfl | exact ResOk.two rfl rfl rfl | exact ResOk.three rfl rfl rfl rfl | exact ResOk.none rfl) ?_; rw [spanP_eq x, hH]; clear IH hc hy0 hg hs hH hxl hlen; simp_all [w64]; done) | (refine bodyQ_r (by first | exact ResOk.one rfl rfl | exact ResOk.two rfl rfl rfl | exact ResOk.three rfl rfl rfl rfl | exact ResOk.none rfl) ?_; have hsp := @span6 x y0; clear IH hc hy0 hg hs hxl hlen; simp_all [w64]; done) | (exfalso; clear IH hc hy0 hg hs hH hxl hlen; simp_all; done)
    · refine AWp.seq ?_
      refine AWp.region ?_
      refine AOps.sim okL rfl rfl ?_
      refine AOps.sim okL rfl rfl ?_
      refine AOps.nil ?_
      refine seqQ_n ?_
      refine AWp.condCase rfl (fun h => ?_) (fun h => ?_)
      · refine AWp.skip ?_
        refine AWp.condT rfl ?_
        refine AWp.seq ?_
        refine AWp.region ?_
        refine AOps.sim okL rfl rfl ?_
        refine AOps.sim okL rfl rfl ?_
        refine AOps.nil ?_
        refine AWp.ret ?_
        refine blockQ_r ?_
        refine seqQ_r ?_
        first | (refine bodyQ_r (by first | exact ResOk.one rfl rfl | exact ResOk.two rfl rfl rfl | exact ResOk.three rfl rfl rfl rfl | exact ResOk.none rfl) ?_; rw [spanP_eq x, hH]; clear IH hc hy0 hg hs hH hxl hlen; simp_all [w64]; done) | (refine bodyQ_r (by first | exact ResOk.one rfl rfl | exact ResOk.two rfl rfl rfl | exact ResOk.three rfl rfl rfl rfl | exact ResOk.none rfl) ?_; have hsp := @span6 x y0; clear IH hc hy0 hg hs hxl hlen; simp_all [w64]; done) | (exfalso; clear IH hc hy0 hg hs hH hxl hlen; simp_all; done)
      · refine AWp.region ?_
        refine AOps.sim okL rfl rfl ?_
        refine AOps.sim okL rfl rfl ?_
        refine AOps.nil ?_
        refine seqQ_n ?_
        refine AWp.condCase rfl (fun h => ?_) (fun h => ?_)
        · refine AWp.seq ?_
          refine AWp.region ?_
          refine AOps.sim okL rfl rfl ?_
          refine AOps.sim okL rfl rfl ?_
          refine AOps.nil ?_
          refine AWp.ret ?_
          refine blockQ_r ?_
          refine seqQ_r ?_
          first | (refine bodyQ_r (by first | exact ResOk.one rfl rfl | exact ResOk.two rfl rfl rfl | exact ResOk.three rfl rfl rfl rfl | exact ResOk.none rfl) ?_; rw [spanP_eq x, hH]; clear IH hc hy0 hg hs hH hxl hlen; simp_all [w64]; done) | (refine bodyQ_r (by first | exact ResOk.one rfl rfl | exact ResOk.two rfl rfl rfl | exact ResOk.three rfl rfl rfl rfl | exact ResOk.none rfl) ?_; have hsp := @span6 x y0; clear IH hc hy0 hg hs hxl hlen; simp_all [w64]; done) | (exfalso; clear IH hc hy0 hg hs hH hxl hlen; simp_all; done)
        · refine AWp.seq ?_
          refine AWp.seq ?_
          refine AWp.region ?_
          refine AOps.sim okL rfl rfl ?_
          refine AOps.sim okL rfl rfl ?_
          refine AOps.nil ?_
          refine seqQ_n ?_
          refine AWp.condCase rfl (fun h => ?_) (fun h => ?_)
          · refine AWp.skip ?_
            refine AWp.condT rfl ?_
            refine AWp.seq ?_
            refine AWp.region ?_
            refine AOps.sim okL rfl rfl ?_
            refine AOps.pln ?_; refine AOp.load okL rfl (.head _) rfl rfl rfl rfl ?_
            refine AOps.sim okL (sOp_idxD rfl rfl rfl rfl rfl (Int.le_refl _) (getC hg) rfl) rfl ?_
            refine AOps.sim okL rfl rfl ?_
            refine AOps.pln ?_; focus (refine AOp.callP (v := ?_) rfl rfl rfl ?_ ?_; rotate_left; exact (hc))
            refine AOps.sim okL rfl rfl ?_
            refine AOps.sim okL rfl rfl ?_
            refine AOps.sim okL rfl rfl ?_
            refine AOps.sim okL rfl rfl ?_
            refine AOps.nil ?_
            refine AWp.ret ?_
            refine blockQ_r ?_
            refine seqQ_r ?_
            first | (refine bodyQ_r (by first | exact ResOk.one rfl rfl | exact ResOk.two rfl rfl rfl | exact ResOk.three rfl rfl rfl rfl | exact ResOk.none rfl) ?_; rw [spanP_eq x, hH]; clear IH hc hy0 hg hs hH hxl hlen; simp_all [w64]; done) | (refine bodyQ_r (by first | exact ResOk.one rfl rfl | exact ResOk.two rfl rfl rfl | exact ResOk.three rfl rfl rfl rfl | exact ResOk.none rfl) ?_; have hsp := @span6 x y0; clear IH hc hy0 hg hs hxl hlen; simp_all [w64]; done) | (exfalso; clear IH hc hy0 hg hs hH hxl hlen; simp_all; done)
          · refine AWp.region ?_
            refine AOps.sim okL rfl rfl ?_
            refine AOps.sim okL rfl rfl ?_
            refine AOps.nil ?_
            refine seqQ_n ?_
            refine AWp.condCase rfl (fun h => ?_) (fun h => ?_)
            · refine AWp.seq ?_
              refine AWp.region ?_
              refine AOps.sim okL rfl rfl ?_
              refine AOps.pln ?_; refine AOp.load okL rfl (.head _) rfl rfl rfl rfl ?_
              refine AOps.sim okL (sOp_idxD rfl rfl rfl rfl rfl (Int.le_refl _) (getC hg) rfl) rfl ?_
              refine AOps.sim okL rfl rfl ?_
              refine AOps.pln ?_; focus (refine AOp.callP (v := ?_) rfl rfl rfl ?_ ?_; rotate_left; exact (hc))
              refine AOps.sim okL rfl rfl ?_
              refine AOps.sim okL rfl rfl ?_
              refine AOps.sim okL rfl rfl ?_
              refine AOps.sim okL rfl rfl ?_
              refine AOps.nil ?_
              refine AWp.ret ?_
              refine blockQ_r ?_
              refine seqQ_r ?_
              first | (refine bodyQ_r (by first | exact ResOk.one rfl rfl | exact ResOk.two rfl rfl rfl | exact ResOk.three rfl rfl rfl rfl | exact ResOk.none rfl) ?_; rw [spanP_eq x, hH]; clear IH hc hy0 hg hs hH hxl hlen; simp_all [w64]; done) | (refine bodyQ_r (by first | exact ResOk.one rfl rfl | exact ResOk.two rfl rfl rfl | exact ResOk.three rfl rfl rfl rfl | exact ResOk.none rfl) ?_; have hsp := @span6 x y0; clear IH hc hy0 hg hs hxl hlen; simp_all [w64]; done) | (exfalso; clear IH hc hy0 hg hs hH hxl hlen; simp_all; done)
            · refine AWp.seq ?_
              refine AWp.seq ?_
              refine AWp.region ?_
              refine AOps.sim okL rfl rfl ?_
              refine AOps.sim okL rfl rfl ?_
              refine AOps.nil ?_
              refine seqQ_n ?_
              refine AWp.condCase rfl (fun h => ?_) (fun h => ?_)
              · refine AWp.skip ?_
                refine AWp.condT rfl ?_
                refine AWp.seq ?_
                refine AWp.region ?_
                refine AOps.sim okL rfl rfl ?_
                refine AOps.sim okL rfl rfl ?_
                refine AOps.nil ?_
                refine AWp.ret ?_
                refine blockQ_r ?_
                refine seqQ_r ?_
                first | (refine bodyQ_r (by first | exact ResOk.one rfl rfl | exact ResOk.two rfl rfl rfl | exact ResOk.three rfl rfl rfl rfl | exact ResOk.none rfl) ?_; rw [spanP_eq x, hH]; clear IH hc hy0 hg hs hH hxl hlen; simp_all [w64]; done) | (refine bodyQ_r (by first | exact ResOk.one rfl rfl | exact ResOk.two rfl rfl rfl | exact ResOk.three rfl rfl rfl rfl | exact ResOk.none rfl) ?_; have hsp := @span6 x y0; clear IH hc hy0 hg hs hxl hlen; simp_all [w64]; done) | (exfalso; clear IH hc hy0 hg hs hH hxl hlen; simp_all; done)
              · refine AWp.region ?_
                refine AOps.sim okL rfl rfl ?_
                refine AOps.sim okL rfl rfl ?_
                refine AOps.nil ?_
                refine seqQ_n ?_
                refine AWp.condCase rfl (fun h => ?_) (fun h => ?_)
                · refine AWp.seq ?_
                  refine AWp.region ?_
                  refine AOps.sim okL rfl rfl ?_
                  refine AOps.sim okL rfl rfl ?_
                  refine AOps.nil ?_
                  refine AWp.ret ?_
                  refine blockQ_r ?_
                  refine seqQ_r ?_
                  first | (refine bodyQ_r (by first | exact ResOk.one rfl rfl | exact ResOk.two rfl rfl rfl | exact ResOk.three rfl rfl rfl rfl | exact ResOk.none rfl) ?_; rw [spanP_eq x, hH]; clear IH hc hy0 hg hs hH hxl hlen; simp_all [w64]; done) | (refine bodyQ_r (by first | exact ResOk.one rfl rfl | exact ResOk.two rfl rfl rfl | exact ResOk.three rfl rfl rfl rfl | exact ResOk.none rfl) ?_; have hsp := @span6 x y0; clear IH hc hy0 hg hs hxl hlen; simp_all [w64]; done) | (exfalso; clear IH hc hy0 hg hs hH hxl hlen; simp_all; done)
                · refine AWp.seq ?_
                  refine AWp.region ?_
                  refine AOps.sim okL rfl rfl ?_
                  refine AOps.sim okL rfl rfl ?_
                  refine AOps.nil ?_
                  refine seqQ_n ?_
                  refine AWp.condCase rfl (fun h => ?_) (fun h => ?_)
                  · refine AWp.seq ?_
                    refine AWp.region ?_
                    refine AOps.sim okL rfl rfl ?_
                    refine AOps.pln ?_; refine AOp.load okL rfl (.head _) rfl rfl rfl rfl ?_
                    refine AOps.sim okL (sOp_idxD rfl rfl rfl rfl rfl (Int.le_refl _) (getC hg) rfl) rfl ?_
                    refine AOps.sim okL rfl rfl ?_
                    refine AOps.pln ?_; focus (refine AOp.callP (v := ?_) rfl rfl rfl ?_ ?_; rotate_left; exact (hc))
                    refine AOps.sim okL rfl rfl ?_
                    refine AOps.sim okL rfl rfl ?_
                    refine AOps.sim okL rfl rfl ?_
                    refine AOps.sim okL rfl rfl ?_
                    refine AOps.sim okL rfl rfl ?_
                    refine AOps.nil ?_
                    refine AWp.seq ?_
                    refine AWp.block ?_
                    refine AWp.seq ?_
                    refine AWp.region ?_
                    refine AOps.sim okL rfl rfl ?_
                    refine AOps.sim okL rfl rfl ?_
                    refine AOps.sim okL rfl rfl ?_
                    refine AOps.nil ?_
                    refine seqQ_n ?_
                    refine AWp.condCase rfl (fun h => ?_) (fun h => ?_)
                    · refine AWp.seq ?_
                      refine AWp.region ?_
                      refine AOps.sim okL rfl rfl ?_
                      refine AOps.sim okL rfl rfl ?_
                      refine AOps.nil ?_
                      refine AWp.ret ?_
                      refine blockQ_r ?_
                      refine seqQ_r ?_
                      refine blockQ_r ?_
                      refine seqQ_r ?_
                      first | (refine bodyQ_r (by first | exact ResOk.one rfl rfl | exact ResOk.two rfl rfl rfl | exact ResOk.three rfl rfl rfl rfl | exact ResOk.none rfl) ?_; rw [spanP_eq x, hH]; clear IH hc hy0 hg hs hH hxl hlen; simp_all [w64]; done) | (refine bodyQ_r (by first | exact ResOk.one rfl rfl | exact ResOk.two rfl rfl rfl | exact ResOk.three rfl rfl rfl rfl | exact ResOk.none rfl) ?_; have hsp := @span6 x y0; clear IH hc hy0 hg hs hxl hlen; simp_all [w64]; done) | (exfalso; clear IH hc hy0 hg hs hH hxl hlen; simp_all; done)
                    · refine AWp.seq ?_
                      refine AWp.region ?_
                      refine AOps.sim okL rfl rfl ?_
                      refine AOps.sim okL rfl rfl ?_
                      refine AOps.sim okL rfl rfl ?_
                      refine AOps.guardCase rfl rfl rfl (fun h => ?_) (fun h => ?_)
                      · refine AOps.unw rfl rfl rfl rfl ?_
                        refine AOps.unw rfl rfl rfl rfl ?_
                        refine AOps.unw rfl rfl rfl rfl ?_
                        refine AOps.sim okL rfl rfl ?_
                        refine AOps.sim okL rfl rfl ?_
                        refine AOps.nil ?_
                        refine AWp.condT rfl ?_
                        refine AWp.seq ?_
                        refine AWp.region ?_
                        refine AOps.sim okL rfl rfl ?_
                        refine AOps.sim okL rfl rfl ?_
                        refine AOps.pln ?_; refine AOp.load okL rfl (.head _) rfl rfl rfl rfl ?_
                        refine AOps.sim okL rfl rfl ?_
                        refine AOps.sim okL rfl rfl ?_
                        refine AOps.sim okL rfl rfl ?_
                        refine AOps.nil ?_
                        refine AWp.ret ?_
                        refine blockQ_r ?_
                        refine seqQ_r ?_
                        refine blockQ_r ?_
                        refine seqQ_r ?_
                        first | (refine bodyQ_r (by first | exact ResOk.one rfl rfl | exact ResOk.two rfl rfl rfl | exact ResOk.three rfl rfl rfl rfl | exact ResOk.none rfl) ?_; rw [spanP_eq x, hH]; clear IH hc hy0 hg hs hH hxl hlen; simp_all [w64]; done) | (refine bodyQ_r (by first | exact ResOk.one rfl rfl | exact ResOk.two rfl rfl rfl | exact ResOk.three rfl rfl rfl rfl | exact ResOk.none rfl) ?_; have hsp := @span6 x y0; clear IH hc hy0 hg hs hxl hlen; simp_all [w64]; done) | (exfalso; clear IH hc hy0 hg hs hH hxl hlen; simp_all; done)
                      · refine AOps.simW okL rfl rfl rfl rfl ?_
                        refine AOps.wtd rfl rfl rfl ?_; refine AOp.load okL rfl (.head _) rfl rfl rfl rfl ?_
                        refine AOps.simW okL rfl rfl rfl rfl ?_
                        refine AOps.sim okL rfl rfl ?_
                        refine AOps.sim okL rfl rfl ?_
                        refine AOps.nil ?_
                        refine seqQ_n ?_
                        refine AWp.condCase rfl (fun h => ?_) (fun h => ?_)
                        · refine AWp.seq ?_
                          refine AWp.region ?_
                          refine AOps.sim okL rfl rfl ?_
                          refine AOps.sim okL rfl rfl ?_
                          refine AOps.pln ?_; refine AOp.load okL rfl (.head _) rfl rfl rfl rfl ?_
                          refine AOps.sim okL rfl rfl ?_
                          refine AOps.sim okL rfl rfl ?_
                          refine AOps.sim okL rfl rfl ?_
                          refine AOps.nil ?_
                          refine AWp.ret ?_
                          refine blockQ_r ?_
                          refine seqQ_r ?_
                          refine blockQ_r ?_
                          refine seqQ_r ?_
                          first | (refine bodyQ_r (by first | exact ResOk.one rfl rfl | exact ResOk.two rfl rfl rfl | exact ResOk.three rfl rfl rfl rfl | exact ResOk.none rfl) ?_; rw [spanP_eq x, hH]; clear IH hc hy0 hg hs hH hxl hlen; simp_all [w64]; done) | (refine bodyQ_r (by first | exact ResOk.one rfl rfl | exact ResOk.two rfl rfl rfl | exact ResOk.three rfl rfl rfl rfl | exact ResOk.none rfl) ?_; have hsp := @span6 x y0; clear IH hc hy0 hg hs hxl hlen; simp_all [w64]; done) | (exfalso; clear IH hc hy0 hg hs hH hxl hlen; simp_all; done)
                        · refine AWp.skip ?_
                          refine AWp.seq ?_
                          refine AWp.drawn okL hmix (by kernel_rfl) ?_
                          refine Pl.pure rfl rfl ?_
                          refine Pl.pure rfl rfl ?_
                          refine Pl.quiet rfl rfl rfl (AOp.load okL rfl (.head _) rfl rfl rfl rfl (AOps.nil (Qn_n ⟨rfl, rfl⟩))) ?_
                          refine Pl.pure rfl rfl ?_
                          refine Pl.pure rfl rfl ?_
                          refine Pl.pure rfl rfl ?_
                          refine Pl.quiet rfl rfl rfl (AOp.load okL rfl (.head _) rfl rfl rfl rfl (AOps.nil (Qn_n ⟨rfl, rfl⟩))) ?_
                          refine Pl.pure rfl rfl ?_
                          refine Pl.pure rfl rfl ?_
                          refine Pl.pure rfl rfl ?_
                          refine Pl.nil ?_
                          refine AWp.ret ?_
                          refine blockQ_r ?_
                          refine seqQ_r ?_
                          first | (refine bodyQ_r (by first | exact ResOk.one rfl rfl | exact ResOk.two rfl rfl rfl | exact ResOk.three rfl rfl rfl rfl | exact ResOk.none rfl) ?_; rw [spanP_eq x, hH]; clear IH hc hy0 hg hs hH hxl hlen; simp_all [w64]; done) | (refine bodyQ_r (by first | exact ResOk.one rfl rfl | exact ResOk.two rfl rfl rfl | exact ResOk.three rfl rfl rfl rfl | exact ResOk.none rfl) ?_; have hsp := @span6 x y0; clear IH hc hy0 hg hs hxl hlen; simp_all [w64]; done) | (exfalso; clear IH hc hy0 hg hs hH hxl hlen; simp_all; done)
                  · refine AWp.seq ?_
                    refine AWp.region ?_
                    refine AOps.sim okL rfl rfl ?_
                    refine AOps.sim okL rfl rfl ?_
                    refine AOps.nil ?_
                    refine seqQ_n ?_
                    refine AWp.condCase rfl (fun h => ?_) (fun h => ?_)
                    · refine AWp.seq ?_
                      refine AWp.region ?_
                      refine AOps.sim okL rfl rfl ?_
                      refine AOps.sim okL rfl rfl ?_
                      refine AOps.nil ?_
                      refine AWp.seq ?_
                      refine AWp.seq ?_
                      refine AWp.region ?_
                      refine AOps.sim okL rfl rfl ?_
                      refine AOps.nil ?_
                      refine AWp.block ?_
                      first | (refine bodyQ_r (by first | exact ResOk.one rfl rfl | exact ResOk.two rfl rfl rfl | exact ResOk.three rfl rfl rfl rfl | exact ResOk.none rfl) ?_; rw [spanP_eq x, hH]; clear IH hc hy0 hg hs hH hxl hlen; simp_all [w64]; done) | (refine bodyQ_r (by first | exact ResOk.one rfl rfl | exact ResOk.two rfl rfl rfl | exact ResOk.three rfl rfl rfl rfl | exact ResOk.none rfl) ?_; have hsp := @span6 x y0; clear IH hc hy0 hg hs hxl hlen; simp_all [w64]; done) | (exfalso; clear IH hc hy0 hg hs hH hxl hlen; simp_all; done)
                    · refine AWp.seq ?_
                      refine AWp.seq ?_
                      refine AWp.region ?_
                      refine AOps.sim okL rfl rfl ?_
                      refine AOps.sim okL rfl rfl ?_
                      refine AOps.nil ?_
                      refine seqQ_n ?_
                      refine AWp.condCase rfl (fun h => ?_) (fun h => ?_)
                      · refine AWp.skip ?_
                        refine AWp.condT rfl ?_
                        refine AWp.seq ?_
                        refine AWp.region ?_
                        refine AOps.sim okL rfl rfl ?_
                        refine AOps.pln ?_; refine AOp.load okL rfl (.head _) rfl rfl rfl rfl ?_
                        refine AOps.sim okL (sOp_idxD rfl rfl rfl rfl rfl (Int.le_refl _) (getC hg) rfl) rfl ?_
                        refine AOps.sim okL rfl rfl ?_
                        refine AOps.pln ?_; focus (refine AOp.callP (v := ?_) rfl rfl rfl ?_ ?_; rotate_left; exact (hc))
                        refine AOps.sim okL rfl rfl ?_
                        refine AOps.sim okL rfl rfl ?_
                        refine AOps.sim okL rfl rfl ?_
                        refine AOps.sim okL rfl rfl ?_
                        refine AOps.sim okL rfl rfl ?_
                        refine AOps.nil ?_
                        refine AWp.seq ?_
                        refine AWp.seq ?_
                        refine AWp.region ?_
                        refine AOps.sim okL rfl rfl ?_
                        refine AOps.nil ?_
                        refine AWp.block ?_
                        first | (refine bodyQ_r (by first | exact ResOk.one rfl rfl | exact ResOk.two rfl rfl rfl | exact ResOk.three rfl rfl rfl rfl | exact ResOk.none rfl) ?_; rw [spanP_eq x, hH]; clear IH hc hy0 hg hs hH hxl hlen; simp_all [w64]; done) | (refine bodyQ_r (by first | exact ResOk.one rfl rfl | exact ResOk.two rfl rfl rfl | exact ResOk.three rfl rfl rfl rfl | exact ResOk.none rfl) ?_; have hsp := @span6 x y0; clear IH hc hy0 hg hs hxl hlen; simp_all [w64]; done) | (exfalso; clear IH hc hy0 hg hs hH hxl hlen; simp_all; done)
                      · refine AWp.region ?_
                        refine AOps.sim okL rfl rfl ?_
                        refine AOps.sim okL rfl rfl ?_
                        refine AOps.nil ?_
                        refine seqQ_n ?_
                        refine AWp.condCase rfl (fun h => ?_) (fun h => ?_)
                        · refine AWp.seq ?_
                          refine AWp.region ?_
                          refine AOps.sim okL rfl rfl ?_
                          refine AOps.pln ?_; refine AOp.load okL rfl (.head _) rfl rfl rfl rfl ?_
                          refine AOps.sim okL (sOp_idxD rfl rfl rfl rfl rfl (Int.le_refl _) (getC hg) rfl) rfl ?_
                          refine AOps.sim okL rfl rfl ?_
                          refine AOps.pln ?_; focus (refine AOp.callP (v := ?_) rfl rfl rfl ?_ ?_; rotate_left; exact (hc))
                          refine AOps.sim okL rfl rfl ?_
                          refine AOps.sim okL rfl rfl ?_
                          refine AOps.sim okL rfl rfl ?_
                          refine AOps.sim okL rfl rfl ?_
                          refine AOps.sim okL rfl rfl ?_
                          refine AOps.nil ?_
                          refine AWp.seq ?_
                          refine AWp.seq ?_
                          refine AWp.region ?_
                          refine AOps.sim okL rfl rfl ?_
                          refine AOps.nil ?_
                          refine AWp.block ?_
                          first | (refine bodyQ_r (by first | exact ResOk.one rfl rfl | exact ResOk.two rfl rfl rfl | exact ResOk.three rfl rfl rfl rfl | exact ResOk.none rfl) ?_; rw [spanP_eq x, hH]; clear IH hc hy0 hg hs hH hxl hlen; simp_all [w64]; done) | (refine bodyQ_r (by first | exact ResOk.one rfl rfl | exact ResOk.two rfl rfl rfl | exact ResOk.three rfl rfl rfl rfl | exact ResOk.none rfl) ?_; have hsp := @span6 x y0; clear IH hc hy0 hg hs hxl hlen; simp_all [w64]; done) | (exfalso; clear IH hc hy0 hg hs hH hxl hlen; simp_all; done)
                        · refine AWp.skip ?_
                          refine AWp.seq ?_
                          refine AWp.region ?_
                          refine AOps.sim okL rfl rfl ?_
                          refine AOps.sim okL rfl rfl ?_
                          refine AOps.nil ?_
                          refine AWp.ret ?_
                          first | (refine bodyQ_r (by first | exact ResOk.one rfl rfl | exact ResOk.two rfl rfl rfl | exact ResOk.three rfl rfl rfl rfl | exact ResOk.none rfl) ?_; rw [spanP_eq x, hH]; clear IH hc hy0 hg hs hH hxl hlen; simp_all [w64]; done) | (refine bodyQ_r (by first | exact ResOk.one rfl rfl | exact ResOk.two rfl rfl rfl | exact ResOk.three rfl rfl rfl rfl | exact ResOk.none rfl) ?_; have hsp := @span6 x y0; clear IH hc hy0 hg hs hxl hlen; simp_all [w64]; done) | (exfalso; clear IH hc hy0 hg hs hH hxl hlen; simp_all; done)
end Go.Proofs.Ytiaogfkkfoakpaa

namespace Go.Proofs.Ytiaogfkkfoakpaa
open Go Go.Abs
set_option linter.unusedVariables false
set_option maxRecDepth 100000
set_option linter.unusedSimpArgs false
def fixM (x : Pat) : Bool := decide ((spanP x).1 = (spanP x).2)
theorem isFixed_tr (x : Pat) (hs : Sh x) : PTr Try.prog 43 [.agg x.C] (.bool (fixM x)) := by
  refine PTr.of_body (N := 13) Try.func43 rfl rfl rfl ?_
  refine AWp.seq ?_
  refine AWp.region ?_
  refine AOps.pln ?_; refine AOp.box rfl rfl (isVal_or rfl) rfl rfl ?_; intro _ _
  refine AOps.sim okL rfl rfl ?_
  refine AOps.nil ?_
  refine AWp.seq ?_
  refine AWp.region ?_
  refine AOps.pln ?_; refine AOp.load okL rfl (.head _) rfl rfl rfl rfl ?_
  refine AOps.pln ?_; focus (refine AOp.callP (v := ?_) rfl rfl rfl ?_ ?_; rotate_left; exact (refSpan_tr x hs))
  refine AOps.sim okL rfl rfl ?_
  refine AOps.sim okL rfl rfl ?_
  refine AOps.sim okL rfl rfl ?_
  refine AOps.sim okL rfl rfl ?_
  refine AOps.sim okL rfl rfl ?_
  refine AOps.nil ?_
  refine AWp.seq ?_
  refine AWp.region ?_
  refine AOps.sim okL rfl rfl ?_
  refine AOps.sim okL rfl rfl ?_
  refine AOps.sim okL rfl rfl ?_
  refine AOps.sim okL rfl rfl ?_
  refine AOps.nil ?_
  refine AWp.ret ?_
  refine bodyQ_r (by first | exact ResOk.one rfl rfl | exact ResOk.two rfl rfl rfl | exact ResOk.three rfl rfl rfl rfl | exact ResOk.none rfl) ?_
  rfl
end Go.Proofs.Ytiaogfkkfoakpaa

namespace Go.Proofs.Ytiaogfkkfoakpaa
open Go Go.Abs
set_option linter.unusedVariables false
set_option maxRecDepth 100000
set_option linter.unusedSimpArgs false

/-- What a node must be by itself: its operation, its numbers. -/
def nodeA (x : Pat) (g : Int) : Bool :=
  inM x.op 0 18 && (inM x.l.length (partsM x.op).1 (partsM x.op).2 && (numM x g &&
    (if x.op = 6 then inM x.min 0 20 && (decide (x.max = -1) || inM x.max (if 1 > x.min then 1 else x.min) 20) else decide (x.min = 0) && decide (x.max = 0))))
/-- .. its name and set, and where it stands. -/
def nodeB (x : Pat) (look : Bool) : Bool :=
  !((!decide (x.op = 7) && !decide (x.name = [])) || (decide (x.op = 7) && (!decide (x.name = []) && !nameM x.name)) || (decide (x.op = 3) && !setM x.set) || (!decide (x.op = 3) && decide ((x.set.length : Int) > 0)) || (decide (x.op = 18) && look))
def sideM (op op' : Int) : Bool := !((decide (op = 4) && (decide (op' = 4) || decide (op' = 0))) || (decide (op = 5) && decide (op' = 5)))
def nodeE (fx : Pat → Bool) (x : Pat) : Bool := !decide (x.op = 9) || (decide (x.n < 2) || (match x.l with | [] => false | y :: _ => fx y))
mutual
def nodeV (fx : Pat → Bool) : Pat → Int → Bool → Bool
  | .mk op n mn mx nm st l, g, k => nodeA (.mk op n mn mx nm st l) g && (nodeB (.mk op n mn mx nm st l) k && (nodeL fx op l g (k || decide (op = 9)) && nodeE fx (.mk op n mn mx nm st l)))
def nodeL (fx : Pat → Bool) (op : Int) : List Pat → Int → Bool → Bool
  | [], _, _ => true
  | y :: l, g, k => (nodeV fx y g k && sideM op y.op) && nodeL fx op l g k
end
theorem nodeV_eq (fx : Pat → Bool) (x : Pat) (g : Int) (k : Bool) : nodeV fx x g k = (nodeA x g && (nodeB x k && (nodeL fx x.op x.l g (k || decide (x.op = 9)) && nodeE fx x))) := by cases x; rw [nodeV]; rfl
theorem nodeL_mem {fx : Pat → Bool} {op g : Int} {k : Bool} : ∀ {l : List Pat}, nodeL fx op l g k = true → ∀ y ∈ l, nodeV fx y g k = true ∧ sideM op y.op = true
  | [], _, y, hy => by cases hy
  | x :: l, h, y, hy => by
    simp only [nodeL, Bool.and_eq_true] at h
    rcases List.mem_cons.1 hy with rfl | hy
    · exact h.1
    · exact nodeL_mem h.2 y hy
/-- A right node has what it must have where one goes into the first part. -/
theorem nodeV_Sh {fx : Pat → Bool} (x : Pat) : ∀ {g : Int} {k : Bool}, nodeV fx x g k = true → Sh x := by
  induction x using Pat.ind with | h x IH => _
  intro g k h
  rw [nodeV_eq] at h
  simp only [Bool.and_eq_true] at h
  obtain ⟨hA, _, hL, _⟩ := h
  refine .mk x (fun hop hnil => ?_) fun y hy => IH y hy (nodeL_mem hL y hy).1
  simp only [nodeA, Bool.and_eq_true] at hA
  have := hA.2.1
  rw [hnil] at this
  rcases hop with h | h | h | h | h <;> rw [h] at this <;> simp [partsM, inM] at this
end Go.Proofs.Ytiaogfkkfoakpaa

namespace Go.Proofs.Ytiaogfkkfoakpaa
open Go Go.Abs
set_option linter.unusedVariables false
set_option maxRecDepth 100000
set_option linter.unusedSimpArgs false

mutual
def opnP : Pat → List Pat
  | .mk op n mn mx nm st l => (if op = 7 then [.mk op n mn mx nm st l] else []) ++ opnL l
def opnL : List Pat → List Pat
  | [] => []
  | y :: l => opnP y ++ opnL l
end
theorem opnP_eq (x : Pat) : opnP x = (if x.op = 7 then [x] else []) ++ opnL x.l := by cases x; rw [opnP]; rfl
mutual
def nodesN : Pat → Nat
  | .mk _ _ _ _ _ _ l => 1 + nodesL l
def nodesL : List Pat → Nat
  | [] => 0
  | y :: l => nodesN y + nodesL l
end
theorem nodesN_eq (x : Pat) : nodesN x = 1 + nodesL x.l := by cases x; rw [nodesN]; rfl
theorem opnL_app (a b : List Pat) : opnL (a ++ b) = opnL a ++ opnL b := by
  induction a with
  | nil => rfl
  | cons y l ih => simp only [List.cons_append, opnL, ih, List.append_assoc]
mutual
theorem opn_le : ∀ x : Pat, (opnP x).length ≤ nodesN x
  | .mk op n mn mx nm st l => by
    rw [opnP, nodesN, List.length_append]
    have := opnL_le l
    split <;> simp <;> omega
theorem opnL_le : ∀ l : List Pat, (opnL l).length ≤ nodesL l
  | [] => by simp [opnL]
  | y :: l => by
    rw [opnL, nodesL, List.length_append]
    have := opn_le y
    have := opnL_le l
    omega
end
theorem nodesL_mem {y : Pat} : ∀ {l : List Pat}, y ∈ l → nodesN y ≤ nodesL l
  | [], h => by cases h
  | x :: l, h => by
    rw [nodesL]
    rcases List.mem_cons.1 h with rfl | h
    · omega
    · have := nodesL_mem h; omega
theorem nodesL_take (k : Nat) : ∀ l : List Pat, nodesL (l.take k) ≤ nodesL l := by
  induction k with
  | zero => intro l; simp [nodesL]
  | succ k ih =>
    intro l
    cases l with
    | nil => simp [nodesL]
    | cons y l => simp only [List.take_succ_cons, nodesL]; have := ih l; omega
theorem cells_leaf (x : Pat) : allLeaf x.C = true := rfl
theorem cells_mem {l : List Pat} {c : List A} (h : c ∈ l.map Pat.cells) : c.length = 7 ∧ allLeaf c = true := by
  obtain ⟨y, _, rfl⟩ := List.mem_map.1 h
  rw [Pat.cells_eq]; exact ⟨rfl, rfl⟩
theorem openings_tr (x : Pat) : nodesN x ≤ 1000000 → PTr Try.prog 22 [.agg x.C] (.ds ((opnP x).map Pat.cells)) := by
  induction x using Pat.ind with | h x IH => _
  intro hb
  refine PTr.of_body (N := 28) Try.func22 rfl rfl rfl ?_
  refine AWp.know (t := 0) rfl (Known.agg mem_C (Known.ds _)) fun hlen => ?_
  rw [List.length_map] at hlen
  refine AWp.seq ?_
  refine AWp.region ?_
  refine AOps.pln ?_; refine AOp.box rfl rfl (isVal_or rfl) rfl rfl ?_; intro _ _
  refine AOps.sim okL rfl rfl ?_
  refine AOps.nil ?_
  refine AWp.seq ?_
  refine AWp.region ?_
  refine AOps.sim okL rfl rfl ?_
  refine AOps.nil ?_
  refine AWp.seq ?_
  refine AWp.seq ?_
  refine AWp.region ?_
  refine AOps.sim okL rfl rfl ?_
  refine AOps.pln ?_; refine AOp.load okL rfl (.head _) rfl rfl rfl rfl ?_
  refine AOps.sim okL rfl rfl ?_
  refine AOps.nil ?_
  refine seqQ_n ?_
  rename_i r _
  refine AWp.join (α := Option Nat × List Pat) (fun a => [(1, .ptr r 7 0 0), (3, outV 7 a.1 (a.2.map Pat.cells).length)]) (fun a => [(r, .row 25 7 [x.C])] ++ outH 25 7 a.1 (a.2.map Pat.cells)) (fun a => (a.1 = none → a.2 = []) ∧ a.2 = if x.op = 7 then [x] else []) ?_ fun R K hR => ?_
  · rintro ⟨g0, l0⟩ ⟨hg0, hl0⟩
    simp only at hg0 hl0 ⊢
    refine AWp.seq ?_
    refine AWp.seq ?_
    refine AWp.region ?_
    refine AOps.sim okL rfl rfl ?_
    refine AOps.nil ?_
    refine AWp.block ?_
    refine AWp.loopM (α := Nat × Option Nat × List Pat) (fun a => x.l.length - a.1) (fun a => [(1, .ptr r 7 0 0), (3, outV 7 a.2.1 (a.2.2.map Pat.cells).length), (4, i64 a.1)]) (fun a => [(r, .row 25 7 [x.C])] ++ outH 25 7 a.2.1 (a.2.2.map Pat.cells))
      (fun a => a.1 ≤ x.l.length ∧ (a.2.1 = none → a.2.2 = []) ∧ a.2.2 = (if x.op = 7 then [x] else []) ++ opnL (x.l.take a.1)) (0, g0, l0) ⟨Nat.zero_le _, hg0, by simp [hl0, opnL]⟩ ?_ (List.Perm.refl _) ?_
    · simp only [AllIn]
      refine ⟨rfl, rfl, rfl, trivial⟩
    rintro ⟨k, g, o⟩ ⟨hk, hg, ho⟩ ih
    simp only at hk hg ho
    refine AWp.seq ?_
    refine AWp.seq ?_
    refine AWp.region ?_
    refine AOps.sim okL rfl rfl ?_
    refine AOps.sim okL rfl rfl ?_
    refine AOps.pln ?_; refine AOp.load okL rfl (.head _) rfl rfl rfl rfl ?_
    refine AOps.sim okL rfl rfl ?_
    refine AOps.sim okL rfl rfl ?_
    refine AOps.nil ?_
    refine seqQ_n ?_
    first | refine AWp.condCase rfl (fun h => ?_) (fun h => ?_) | refine AWp.cond rfl (fun h => ?_) (fun h => ?_)
    · have h := of_decide_eq_true h
      simp only [List.length_map] at h
      obtain ⟨y, hy⟩ : ∃ y, x.l[k]? = some y := ⟨x.l[k], by simp [show k < x.l.length by omega]⟩
      have nx := nxt (k := k) (n := x.l.length) (by omega) hlen
      have hym := List.mem_of_getElem? hy
      have hyn := nodesL_mem hym
      rw [nodesN_eq] at hb
      have hc := IH y hym (by omega)
      have htk : x.l.take (k + 1) = x.l.take k ++ [y] := by rw [List.take_add_one, hy]; rfl
      have hol : o.length + (opnP y).length ≤ 2000001 := by
        have h1 := opnL_le (x.l.take k)
        have h2 := nodesL_take k x.l
        have h3 := opn_le y
        rw [ho, List.length_append]
        split <;> simp <;> omega
      refine AWp.skip ?_
      refine AWp.seq ?_
      refine AWp.block ?_
      refine AWp.region ?_
      refine AOps.sim okL rfl rfl ?_
      refine AOps.sim okL rfl rfl ?_
      refine AOps.pln ?_; refine AOp.load okL rfl (.head _) rfl rfl rfl rfl ?_
      refine AOps.sim okL rfl rfl ?_
      refine AOps.sim okL (sOp_idxD rfl rfl rfl rfl rfl (by omega) (getC hy) rfl) rfl ?_
      refine AOps.sim okL rfl rfl ?_
      refine AOps.pln ?_; focus (refine AOp.callP (v := ?_) rfl rfl rfl ?_ ?_; rotate_left; exact (hc))
      refine AOps.pln (AOp.appendG (g := g) (elems := o.map Pat.cells) (news := (opnP y).map Pat.cells) (pre := [(r, .row 25 7 [x.C])]) okL rfl (fun h => by rw [hg h]; rfl) rfl rfl (.ds _) rfl rfl rfl rfl (fun c hc => (cells_mem hc).1) (fun c hc => (cells_mem hc).2) (by simp only [List.length_map, maxLen]; omega) (by simp only [List.length_map]; omega) rfl fun g' hg' => ?_)
      rw [← List.map_append]
      refine AOps.sim okL rfl rfl ?_
      refine AOps.nil ?_
      refine AWp.region ?_
      refine AOps.sim okL rfl rfl ?_
      refine AOps.sim okL rfl rfl ?_
      refine AOps.sim okL rfl rfl ?_
      refine AOps.nil ?_
      refine seqQ_n ?_
      (refine AIn.nextN 0 (ih ((k + 1, g', o ++ opnP y)) (⟨by omega, fun h => by have := hg' h; simpa using this, by rw [htk, opnL_app, ho, List.append_assoc]; simp [opnL]⟩) (by first | omega | (simp only; omega))) ?_ rfl; repeat (first | exact trivial | refine ⟨rfl, ?_⟩ | refine ⟨congrArg some nx, ?_⟩ | refine ⟨congrArg (fun v => some (A.int .i64 v)) (by skip), ?_⟩))
    · have h := of_decide_eq_false h
      simp only [List.length_map] at h
      rw [List.take_of_length_le (by omega)] at ho
      refine AWp.freezeG (t := 3) (g := g) (elems := o.map Pat.cells) (pre := [(r, .row 25 7 [x.C])]) rfl (fun h => by rw [hg h]; rfl) rfl ?_
      refine AWp.exit ?_
      refine AWp.seq ?_
      refine AWp.region ?_
      refine AOps.sim okL rfl rfl ?_
      refine AOps.sim okL rfl rfl ?_
      refine AOps.nil ?_
      refine AWp.ret ?_
      refine bodyQ_r (by first | exact ResOk.one rfl rfl | exact ResOk.two rfl rfl rfl | exact ResOk.three rfl rfl rfl rfl | exact ResOk.none rfl) ?_
      rw [opnP_eq, ho]
  · skip
    first | refine AWp.condCase rfl (fun h => ?_) (fun h => ?_) | refine AWp.cond rfl (fun h => ?_) (fun h => ?_)
    · refine AWp.region ?_
      refine AOps.sim okL rfl rfl ?_
      refine AOps.pln ?_; refine AOp.load okL rfl (.head _) rfl rfl rfl rfl ?_
      refine AOps.pln ?_; refine AOp.buildSlice okL rfl rfl rfl rfl rfl rfl rfl rfl rfl rfl rfl ?_; intro _ _
      rename_i rb _
      refine AOps.pln (AOp.appendG (g := none) (elems := []) (news := [x.C]) (pre := [(rb, .row 25 7 [x.C]), (r, .row 25 7 [x.C])]) okL rfl (fun _ => rfl) rfl rfl (.os List.mem_cons_self (Nat.le_refl _)) rfl rfl rfl rfl (fun c hc => by rw [List.mem_singleton.1 hc]; rfl) (fun c hc => by rw [List.mem_singleton.1 hc]; rfl) (by simp [maxLen]) (by simp) rfl fun g' hg' => ?_)
      rw [show ([] ++ [x.C] : List (List A)) = [x].map Pat.cells from by simp [Pat.cells_eq]]
      refine AOps.sim okL rfl rfl ?_
      refine AOps.nil ?_
      refine K (g', [x]) ⟨fun h => by have := hg' h; simp at this, by simp at h; simp [h]⟩ 1 _ _ ⟨rfl, rfl, trivial⟩ rfl
    · refine AWp.skip ?_
      refine K (none, []) ⟨fun _ => rfl, by simp at h; simp [h]⟩ 0 _ _ ⟨rfl, rfl, trivial⟩ rfl
end Go.Proofs.Ytiaogfkkfoakpaa

namespace Go.Proofs.Ytiaogfkkfoakpaa
open Go Go.Abs
set_option linter.unusedVariables false
set_option maxRecDepth 100000
set_option linter.unusedSimpArgs false

def sameN (y z : Pat) : Bool := !decide (y.name = []) && decide (y.name = z.name)
def grpGo (pre : List Pat) : List Pat → Bool
  | [] => true
  | y :: l => (decide (y.n = ((pre.length + 1 : Nat) : Int)) && !pre.any (sameN y)) && grpGo (pre ++ [y]) l
def validR (fx : Pat → Bool) (x : Pat) : Int :=
  if largeM x then 3 else if nodeV fx x (opnP x).length false && grpGo [] (opnP x) then 0 else 1
theorem take_get {l : List Pat} {k : Nat} {y : Pat} (h : l[k]? = some y) : l.take (k + 1) = l.take k ++ [y] := by rw [List.take_add_one, h]; rfl
set_option maxHeartbeats 4000000 in
theorem refValidate_tr (fx : Pat → Bool) (hN : ∀ (x : Pat) (g : Int) (k : Bool), PTr Try.prog 23 [.agg x.C, i64 g, .bool k] (.bool (nodeV fx x g k))) (x : Pat) (hb : nodesN x ≤ 1000000) : PTr Try.prog 8 [.agg x.C] (i64 (validR fx x)) := by
  refine PTr.of_body (N := 53) Try.func8 rfl rfl rfl ?_
  have ho := openings_tr x hb
  have hlen : (opnP x).length ≤ 1000000 := Nat.le_trans (opn_le x) hb
  have hlm : (opnP x).length ≤ maxLen := by unfold maxLen; omega
  refine AWp.seq ?_
  refine AWp.region ?_
  refine AOps.pln ?_; refine AOp.box rfl rfl (isVal_or rfl) rfl rfl ?_; intro _ _
  refine AOps.sim okL rfl rfl ?_
  refine AOps.nil ?_
  refine AWp.seq ?_
  refine AWp.seq ?_
  refine AWp.region ?_
  refine AOps.pln ?_; refine AOp.load okL rfl (.head _) rfl rfl rfl rfl ?_
  refine AOps.pln ?_; focus (refine AOp.callP (v := ?_) rfl rfl rfl ?_ ?_; rotate_left; exact (isLarge_tr x))
  refine AOps.nil ?_
  refine seqQ_n ?_
  first | refine AWp.condCase rfl (fun hlg => ?_) (fun hlg => ?_) | refine AWp.cond rfl (fun hlg => ?_) (fun hlg => ?_)
  · refine AWp.seq ?_
    refine AWp.region ?_
    refine AOps.sim okL rfl rfl ?_
    refine AOps.nil ?_
    refine AWp.ret ?_
    refine seqQ_r ?_
    refine bodyQ_r (by first | exact ResOk.one rfl rfl | exact ResOk.two rfl rfl rfl | exact ResOk.three rfl rfl rfl rfl | exact ResOk.none rfl) ?_
    simp only [validR, hlg, if_true]
  refine AWp.skip ?_
  refine AWp.seq ?_
  refine AWp.region ?_
  refine AOps.pln ?_; refine AOp.load okL rfl (.head _) rfl rfl rfl rfl ?_
  refine AOps.pln ?_; focus (refine AOp.callP (v := ?_) rfl rfl rfl ?_ ?_; rotate_left; exact (ho))
  refine AOps.sim okL rfl rfl ?_
  refine AOps.nil ?_
  refine AWp.seq ?_
  refine AWp.seq ?_
  refine AWp.region ?_
  refine AOps.pln ?_; refine AOp.load okL rfl (.head _) rfl rfl rfl rfl ?_
  refine AOps.sim okL rfl rfl ?_
  refine AOps.sim okL rfl rfl ?_
  refine AOps.pln ?_; focus (refine AOp.callP (v := ?_) rfl rfl rfl ?_ ?_; rotate_left; exact (hN x ((opnP x).map Pat.cells).length false))
  refine AOps.sim okL rfl rfl ?_
  refine AOps.nil ?_
  refine seqQ_n ?_
  first | refine AWp.condCase rfl (fun hnd => ?_) (fun hnd => ?_) | refine AWp.cond rfl (fun hnd => ?_) (fun hnd => ?_)
  · refine AWp.seq ?_
    refine AWp.region ?_
    refine AOps.sim okL rfl rfl ?_
    refine AOps.nil ?_
    refine AWp.ret ?_
    refine seqQ_r ?_
    refine bodyQ_r (by first | exact ResOk.one rfl rfl | exact ResOk.two rfl rfl rfl | exact ResOk.three rfl rfl rfl rfl | exact ResOk.none rfl) ?_
    simp at hnd
    simp [validR, hlg, hnd]
  simp at hnd
  refine AWp.skip ?_
  refine AWp.seq ?_
  refine AWp.seq ?_
  refine AWp.region ?_
  refine AOps.sim okL rfl rfl ?_
  refine AOps.nil ?_
  refine AWp.block ?_
  rename_i r _
  refine AWp.loopM (α := Nat) (fun a => (opnP x).length - a) (fun a => [(3, .ds ((opnP x).map Pat.cells)), (4, i64 a)]) (fun _ => [(r, .row 25 7 [x.C])])
    (fun a => a ≤ (opnP x).length ∧ grpGo ((opnP x).take a) ((opnP x).drop a) = grpGo [] (opnP x)) 0 ⟨Nat.zero_le _, rfl⟩ ?_ (List.Perm.refl _) ?_
  · simp only [AllIn]
    refine ⟨rfl, rfl, trivial⟩
  rintro i ⟨hi, hm⟩ ih
  refine AWp.seq ?_
  refine AWp.seq ?_
  refine AWp.region ?_
  refine AOps.sim okL rfl rfl ?_
  refine AOps.sim okL rfl rfl ?_
  refine AOps.sim okL rfl rfl ?_
  refine AOps.sim okL rfl rfl ?_
  refine AOps.nil ?_
  refine seqQ_n ?_
  first | refine AWp.condCase rfl (fun h => ?_) (fun h => ?_) | refine AWp.cond rfl (fun h => ?_) (fun h => ?_)
  · have h := of_decide_eq_true h
    simp only [List.length_map] at h
    obtain ⟨y, hy⟩ : ∃ y, (opnP x)[i]? = some y := ⟨(opnP x)[i], by simp [show i < (opnP x).length by omega]⟩
    have nx := nxt (k := i) (n := (opnP x).length) (by omega) hlm
    have nxw : IntKind.i64.wrap ((i : Int) + 1) = ((i + 1 : Nat) : Int) := (A.int.inj nx).2
    have htl : ((opnP x).take i).length = i := by simp; omega
    rw [drop_get hy, grpGo, htl] at hm
    refine AWp.skip ?_
    refine AWp.seq ?_
    refine AWp.block ?_
    refine AWp.seq ?_
    refine AWp.seq ?_
    refine AWp.region ?_
    refine AOps.sim okL rfl rfl ?_
    refine AOps.sim okL rfl rfl ?_
    refine AOps.sim okL (sOp_idxD rfl rfl rfl rfl rfl (by omega) (getC hy) rfl) rfl ?_
    refine AOps.sim okL rfl rfl ?_
    refine AOps.sim okL rfl rfl ?_
    refine AOps.sim okL rfl rfl ?_
    refine AOps.sim okL rfl rfl ?_
    refine AOps.sim okL rfl rfl ?_
    refine AOps.nil ?_
    refine seqQ_n ?_
    first | refine AWp.condCase rfl (fun h1 => ?_) (fun h1 => ?_) | refine AWp.cond rfl (fun h1 => ?_) (fun h1 => ?_)
    · refine AWp.seq ?_
      refine AWp.region ?_
      refine AOps.sim okL rfl rfl ?_
      refine AOps.nil ?_
      refine AWp.ret ?_
      refine seqQ_r ?_
      refine blockQ_r ?_
      refine seqQ_r ?_
      refine seqQ_r ?_
      refine blockQ_r ?_
      refine seqQ_r ?_
      refine bodyQ_r (by first | exact ResOk.one rfl rfl | exact ResOk.two rfl rfl rfl | exact ResOk.three rfl rfl rfl rfl | exact ResOk.none rfl) ?_
      have hg : grpGo [] (opnP x) = false := by
        rw [← hm]
        rw [nxw] at h1
        simp at h1
        simp [h1]
      simp [validR, hlg, hnd, hg]
    rw [nxw] at h1
    have h1 : y.n = ((i + 1 : Nat) : Int) := by simpa using h1
    have h1d : decide (y.n = ((i + 1 : Nat) : Int)) = true := decide_eq_true h1
    rw [h1d, Bool.true_and] at hm
    refine AWp.skip ?_
    refine AWp.seq ?_
    refine AWp.region ?_
    refine AOps.sim okL rfl rfl ?_
    refine AOps.nil ?_
    refine AWp.block ?_
    have iho := ih; clear ih
    refine AWp.loopM (α := Nat) (fun a => i - a) (fun a => [(3, .ds ((opnP x).map Pat.cells)), (4, i64 i), (5, i64 a)]) (fun _ => [(r, .row 25 7 [x.C])])
      (fun a => a ≤ i ∧ ((opnP x).take a).any (sameN y) = false) 0 ⟨Nat.zero_le _, by simp⟩ ?_ (List.Perm.refl _) ?_
    · simp only [AllIn]
      refine ⟨rfl, rfl, rfl, trivial⟩
    rintro k ⟨hk, hn⟩ ih
    refine AWp.seq ?_
    refine AWp.seq ?_
    refine AWp.region ?_
    refine AOps.sim okL rfl rfl ?_
    refine AOps.sim okL rfl rfl ?_
    refine AOps.sim okL rfl rfl ?_
    refine AOps.nil ?_
    refine seqQ_n ?_
    first | refine AWp.condCase rfl (fun h2 => ?_) (fun h2 => ?_) | refine AWp.cond rfl (fun h2 => ?_) (fun h2 => ?_)
    · have h2 := of_decide_eq_true h2
      obtain ⟨z, hz⟩ : ∃ z, (opnP x)[k]? = some z := ⟨(opnP x)[k]'(by omega), by simp [show k < (opnP x).length by omega]⟩
      have nx := nxt (k := k) (n := (opnP x).length) (by omega) hlm
      have hzm : z ∈ (opnP x).take i := by
        have : ((opnP x).take i)[k]? = some z := by rw [List.getElem?_take, if_pos (by omega)]; exact hz
        exact List.mem_of_getElem? this
      have hany : sameN y z = true → ((opnP x).take i).any (sameN y) = true := fun hs => List.any_eq_true.2 ⟨z, hzm, hs⟩
      have htk := take_get hz
      refine AWp.skip ?_
      refine AWp.seq ?_
      refine AWp.block ?_
      refine AWp.seq ?_
      refine AWp.drawn okL hmix (by kernel_rfl) ?_
      refine Pl.pure rfl rfl ?_
      refine Pl.pure rfl rfl ?_
      refine Pl.pure rfl (sOp_idxD rfl rfl rfl rfl rfl (by omega) (getC hy) rfl) ?_
      refine Pl.pure rfl rfl ?_
      refine Pl.pure rfl rfl ?_
      refine Pl.pure rfl rfl ?_
      refine Pl.pure rfl rfl ?_
      refine Pl.guardCase rfl rfl (fun h => ?_) (fun h => ?_)
      · refine Pl.pureW rfl rfl rfl ?_
        refine Pl.pureW rfl rfl rfl ?_
        refine Pl.pureW rfl rfl (sOp_idxD rfl rfl rfl rfl rfl (by omega) (getC hy) rfl) ?_
        refine Pl.pureW rfl rfl rfl ?_
        refine Pl.pureW rfl rfl rfl ?_
        refine Pl.pureW rfl rfl rfl ?_
        refine Pl.pureW rfl rfl rfl ?_
        refine Pl.pureW rfl rfl (sOp_idxD rfl rfl rfl rfl rfl (by omega) (getC hz) rfl) ?_
        refine Pl.pureW rfl rfl rfl ?_
        refine Pl.pureW rfl rfl rfl ?_
        refine Pl.pureW rfl rfl rfl ?_
        refine Pl.pure rfl rfl ?_
        refine Pl.nil ?_
        refine seqQ_n ?_
        refine AWp.condCase rfl (fun h => ?_) (fun h => ?_)
        · refine AWp.seq ?_
          refine AWp.region ?_
          refine AOps.sim okL rfl rfl ?_
          refine AOps.nil ?_
          refine AWp.ret ?_
          refine blockQ_r ?_
          refine seqQ_r ?_
          refine seqQ_r ?_
          refine blockQ_r ?_
          refine blockQ_r ?_
          refine seqQ_r ?_
          refine seqQ_r ?_
          refine blockQ_r ?_
          refine seqQ_r ?_
          first | (refine bodyQ_r (by first | exact ResOk.one rfl rfl | exact ResOk.two rfl rfl rfl | exact ResOk.three rfl rfl rfl rfl | exact ResOk.none rfl) ?_; have hs : sameN y z = true := (by clear ih iho hany hm; simp_all [sameN]; done); have hgf : grpGo [] (opnP x) = false := (by rw [← hm, hany hs]; rfl); clear ih iho; simp [validR, hlg, hnd, hgf]; done) | (refine AIn.nextN 0 (ih (k + 1) (⟨by omega, by rw [htk, List.any_append, hn]; clear ih iho hany hm; simp_all [sameN]⟩) (by first | omega | (simp only; omega))) ?_ rfl; repeat (first | exact trivial | refine ⟨rfl, ?_⟩ | refine ⟨congrArg some nx, ?_⟩ | refine ⟨congrArg (fun v => some (A.int .i64 v)) (by skip), ?_⟩))
        · refine AWp.skip ?_
          refine AWp.region ?_
          refine AOps.sim okL rfl rfl ?_
          refine AOps.sim okL rfl rfl ?_
          refine AOps.sim okL rfl rfl ?_
          refine AOps.nil ?_
          refine seqQ_n ?_
          first | (refine bodyQ_r (by first | exact ResOk.one rfl rfl | exact ResOk.two rfl rfl rfl | exact ResOk.three rfl rfl rfl rfl | exact ResOk.none rfl) ?_; have hs : sameN y z = true := (by clear ih iho hany hm; simp_all [sameN]; done); have hgf : grpGo [] (opnP x) = false := (by rw [← hm, hany hs]; rfl); clear ih iho; simp [validR, hlg, hnd, hgf]; done) | (refine AIn.nextN 0 (ih (k + 1) (⟨by omega, by rw [htk, List.any_append, hn]; clear ih iho hany hm; simp_all [sameN]⟩) (by first | omega | (simp only; omega))) ?_ rfl; repeat (first | exact trivial | refine ⟨rfl, ?_⟩ | refine ⟨congrArg some nx, ?_⟩ | refine ⟨congrArg (fun v => some (A.int .i64 v)) (by skip), ?_⟩))
      · refine Pl.skip rfl rfl ?_
        refine Pl.skip rfl rfl ?_
        refine Pl.skip rfl rfl ?_
        refine Pl.skip rfl rfl ?_
        refine Pl.skip rfl rfl ?_
        refine Pl.skip rfl rfl ?_
        refine Pl.skip rfl rfl ?_
        refine Pl.skip rfl rfl ?_
        refine Pl.skip rfl rfl ?_
        refine Pl.skip rfl rfl ?_
        refine Pl.skip rfl rfl ?_
        refine Pl.pure rfl rfl ?_
        refine Pl.nil ?_
        refine AWp.condF rfl ?_
        refine AWp.skip ?_
        refine AWp.region ?_
        refine AOps.sim okL rfl rfl ?_
        refine AOps.sim okL rfl rfl ?_
        refine AOps.sim okL rfl rfl ?_
        refine AOps.nil ?_
        refine seqQ_n ?_
        first | (refine bodyQ_r (by first | exact ResOk.one rfl rfl | exact ResOk.two rfl rfl rfl | exact ResOk.three rfl rfl rfl rfl | exact ResOk.none rfl) ?_; have hs : sameN y z = true := (by clear ih iho hany hm; simp_all [sameN]; done); have hgf : grpGo [] (opnP x) = false := (by rw [← hm, hany hs]; rfl); clear ih iho; simp [validR, hlg, hnd, hgf]; done) | (refine AIn.nextN 0 (ih (k + 1) (⟨by omega, by rw [htk, List.any_append, hn]; clear ih iho hany hm; simp_all [sameN]⟩) (by first | omega | (simp only; omega))) ?_ rfl; repeat (first | exact trivial | refine ⟨rfl, ?_⟩ | refine ⟨congrArg some nx, ?_⟩ | refine ⟨congrArg (fun v => some (A.int .i64 v)) (by skip), ?_⟩))
    · have h2 := of_decide_eq_false h2
      have hki : k = i := by omega
      subst hki
      rw [hn, Bool.not_false, Bool.true_and] at hm
      have ih := iho
      refine AWp.exit ?_
      refine AWp.region ?_
      refine AOps.sim okL rfl rfl ?_
      refine AOps.sim okL rfl rfl ?_
      refine AOps.sim okL rfl rfl ?_
      refine AOps.nil ?_
      refine seqQ_n ?_
      (refine AIn.nextN 0 (ih (k + 1) (⟨by omega, by rw [take_get hy]; exact hm⟩) (by first | omega | (simp only; omega))) ?_ rfl; repeat (first | exact trivial | refine ⟨rfl, ?_⟩ | refine ⟨congrArg some nx, ?_⟩ | refine ⟨congrArg (fun v => some (A.int .i64 v)) (by skip), ?_⟩))
  · have h := of_decide_eq_false h
    simp only [List.length_map] at h
    rw [List.drop_eq_nil_of_le (by omega), grpGo] at hm
    refine AWp.exit ?_
    refine AWp.seq ?_
    refine AWp.region ?_
    refine AOps.sim okL rfl rfl ?_
    refine AOps.nil ?_
    refine AWp.ret ?_
    refine bodyQ_r (by first | exact ResOk.one rfl rfl | exact ResOk.two rfl rfl rfl | exact ResOk.three rfl rfl rfl rfl | exact ResOk.none rfl) ?_
    simp [validR, hlg, hnd, ← hm]
end Go.Proofs.Ytiaogfkkfoakpaa

