/- Walks of small functions. -/
import Derived.Test.YtiaogfkkfoakpaaDatA
set_option linter.unusedVariables false
set_option linter.unusedSimpArgs false
namespace Go.Proofs.Ytiaogfkkfoakpaa
open Go Go.Abs
set_option linter.unusedVariables false

mutual
def countP : Pat → Int → Int
  | .mk _ _ _ _ nm st l, deep => if deep > 100 then 1048576 else countL l deep (IntKind.i64.wrap (IntKind.i64.wrap (1 + st.length) + nm.length))
def countL : List Pat → Int → Int → Int
  | [], _, n => n
  | y :: l, deep, n => if n < 1048576 then countL l deep (IntKind.i64.wrap (n + countP y (IntKind.i64.wrap (deep + 1)))) else n
end
theorem countP_eq (x : Pat) (deep : Int) : countP x deep = if deep > 100 then 1048576 else countL x.l deep (IntKind.i64.wrap (IntKind.i64.wrap (1 + x.set.length) + x.name.length)) := by
  cases x; simp [countP, Pat.l, Pat.set, Pat.name]

set_option maxRecDepth 100000 in
theorem count_tr (x : Pat) : ∀ (deep : Int), PTr Try.prog 17 [.agg x.C, i64 deep] (i64 (countP x deep)) := by
  induction x using Pat.ind with | h x IH => _
  intro deep
  refine PTr.of_body (N := 39) Try.func17 rfl rfl rfl ?_
  refine AWp.know (t := 0) rfl (Known.agg (x := .ds (x.l.map Pat.cells)) (by simp [Pat.C]) (Known.ds _)) fun hlen => ?_
  rw [List.length_map] at hlen
  refine AWp.seq ?_
  refine AWp.region ?_
  refine AOps.pln ?_; refine AOp.box rfl rfl (isVal_or rfl) rfl rfl ?_; intro _ _
  refine AOps.sim okL rfl rfl ?_
  refine AOps.nil ?_
  refine AWp.seq ?_
  refine AWp.region ?_
  refine AOps.sim okL rfl rfl ?_
  refine AOps.pln ?_; refine AOp.load okL rfl (.head _) rfl rfl rfl rfl ?_
  refine AOps.sim okL rfl rfl ?_
  refine AOps.sim okL rfl rfl ?_
  refine AOps.sim okL rfl rfl ?_
  refine AOps.pln ?_; refine AOp.load okL rfl (.head _) rfl rfl rfl rfl ?_
  refine AOps.sim okL rfl rfl ?_
  refine AOps.sim okL rfl rfl ?_
  refine AOps.sim okL rfl rfl ?_
  refine AOps.nil ?_
  refine AWp.seq ?_
  refine AWp.seq ?_
  refine AWp.region ?_
  refine AOps.sim okL rfl rfl ?_
  refine AOps.sim okL rfl rfl ?_
  refine AOps.nil ?_
  refine seqQ_n ?_
  rename_i r _
  refine AWp.cond rfl (fun hd => ?_) (fun hd => ?_)
  · refine AWp.seq ?_
    refine AWp.region ?_
    refine AOps.sim okL rfl rfl ?_
    refine AOps.nil ?_
    refine AWp.ret ?_
    refine seqQ_r ?_
    refine bodyQ_r (ResOk.one rfl rfl) ?_
    rw [countP_eq, if_pos (of_decide_eq_true hd)]
  · refine AWp.skip ?_
    refine AWp.seq ?_
    refine AWp.seq ?_
    refine AWp.region ?_
    refine AOps.sim okL rfl rfl ?_
    refine AOps.nil ?_
    refine AWp.block ?_
    have hd := of_decide_eq_false hd
    refine AWp.loopM (α := Nat × Int) (fun a => x.l.length - a.1) (fun a => [(1, i64 deep), (2, .ptr r 7 0 0), (4, i64 0), (5, i64 a.2), (6, i64 a.1)]) (fun _ => _)
      (fun a => a.1 ≤ x.l.length ∧ countL (x.l.drop a.1) deep a.2 = countP x deep) (0, IntKind.i64.wrap (IntKind.i64.wrap (1 + x.set.length) + x.name.length)) ?_ ?_ (List.Perm.refl _) ?_
    · refine ⟨Nat.zero_le _, ?_⟩
      rw [countP_eq, if_neg hd]; rfl
    · simp only [AllIn]
      refine ⟨rfl, rfl, rfl, ?_, rfl, trivial⟩
      simp [Abs.get, put]
    rintro ⟨k, m⟩ ⟨hk, hm⟩ ih
    simp only at hk hm
    refine AWp.seq ?_
    refine AWp.seq ?_
    refine AWp.region ?_
    refine AOps.sim okL rfl rfl ?_
    refine AOps.sim okL rfl rfl ?_
    refine AOps.pln ?_; refine AOp.load okL rfl (.head _) rfl rfl rfl rfl ?_
    refine AOps.sim okL rfl rfl ?_
    refine AOps.sim okL rfl rfl ?_
    refine AOps.sim okL rfl rfl ?_
    (first | refine AOps.guardCase rfl rfl rfl (fun h => ?_) (fun h => ?_) | refine Pl.guardCase rfl rfl (fun h => ?_) (fun h => ?_))
    · have h := of_decide_eq_true h
      simp only [List.length_map] at h
      obtain ⟨y, hy⟩ : ∃ y, x.l[k]? = some y := ⟨x.l[k], by simp [show k < x.l.length by omega]⟩
      rw [drop_get hy, countL] at hm
      refine AOps.simW okL rfl rfl rfl rfl ?_
      refine AOps.simW okL rfl rfl rfl rfl ?_
      refine AOps.sim okL rfl rfl ?_
      refine AOps.nil ?_
      refine seqQ_n ?_
      first | refine AWp.condCase rfl (fun h2 => ?_) (fun h2 => ?_) | refine AWp.cond rfl (fun h2 => ?_) (fun h2 => ?_)
      · have h2 := of_decide_eq_true h2
        simp only at h2
        rw [if_pos h2] at hm
        refine AWp.skip ?_
        refine AWp.seq ?_
        refine AWp.block ?_
        refine AWp.region ?_
        refine AOps.sim okL rfl rfl ?_
        refine AOps.sim okL rfl rfl ?_
        refine AOps.pln ?_; refine AOp.load okL rfl (.head _) rfl rfl rfl rfl ?_
        refine AOps.sim okL rfl rfl ?_
        (first | refine AOps.simple okL rfl (sOp_idxD rfl rfl rfl rfl rfl ((by omega)) (getC hy) rfl) rfl ?_ | refine AOps.simpleW okL rfl rfl rfl (sOp_idxD rfl rfl rfl rfl rfl ((by omega)) (getC hy) rfl) rfl ?_ | refine Pl.pure rfl (sOp_idxD rfl rfl rfl rfl rfl ((by omega)) (getC hy) rfl) ?_ | refine Pl.pureW rfl rfl (sOp_idxD rfl rfl rfl rfl rfl ((by omega)) (getC hy) rfl) ?_)
        refine AOps.sim okL rfl rfl ?_
        refine AOps.sim okL rfl rfl ?_
        refine AOps.sim okL rfl rfl ?_
        refine AOps.pln ?_; focus (refine AOp.callP (v := ?_) rfl rfl rfl ?_ ?_; rotate_left; exact (IH y (List.mem_of_getElem? hy) _))
        refine AOps.sim okL rfl rfl ?_
        refine AOps.sim okL rfl rfl ?_
        refine AOps.nil ?_
        refine AWp.region ?_
        refine AOps.sim okL rfl rfl ?_
        refine AOps.sim okL rfl rfl ?_
        refine AOps.sim okL rfl rfl ?_
        refine AOps.nil ?_
        refine seqQ_n ?_
        refine AIn.next (ih (k + 1, _) ⟨by omega, hm⟩ (by simp only; omega)) ?_ (List.Perm.refl _)
        simp only [AllIn]
        refine ⟨rfl, rfl, rfl, rfl, ?_, trivial⟩
        exact congrArg some (nxt (by omega) hlen)
      · have h2 := of_decide_eq_false h2
        simp only at h2
        rw [if_neg h2] at hm
        refine AWp.exit ?_
        refine AWp.seq ?_
        refine AWp.region ?_
        refine AOps.sim okL rfl rfl ?_
        refine AOps.sim okL rfl rfl ?_
        refine AOps.nil ?_
        refine AWp.ret ?_
        refine bodyQ_r (ResOk.one rfl rfl) ?_
        rw [← hm]
    · have h := of_decide_eq_false h
      simp only [List.length_map] at h
      refine AOps.unw rfl rfl rfl rfl ?_
      refine AOps.unw rfl rfl rfl rfl ?_
      refine AOps.sim okL rfl rfl ?_
      refine AOps.nil ?_
      refine AWp.condF rfl ?_
      refine AWp.exit ?_
      refine AWp.seq ?_
      refine AWp.region ?_
      refine AOps.sim okL rfl rfl ?_
      refine AOps.sim okL rfl rfl ?_
      refine AOps.nil ?_
      refine AWp.ret ?_
      refine bodyQ_r (ResOk.one rfl rfl) ?_
      rw [← hm, List.drop_eq_nil_of_le (by omega)]; rfl
end Go.Proofs.Ytiaogfkkfoakpaa

namespace Go.Proofs.Ytiaogfkkfoakpaa
open Go Go.Abs
set_option linter.unusedVariables false

def w64 (n : Int) : Int := IntKind.i64.wrap n
def mxI (a b : Int) : Int := if b > a then b else a
mutual
/-- Nodes, groups and depth of a pattern. -/
def szP : Pat → Int × Int × Int
  | .mk op _ _ _ _ _ l => let a := szL l (1, if op = 7 then 1 else 0, 0); (a.1, a.2.1, w64 (a.2.2 + 1))
def szL : List Pat → Int × Int × Int → Int × Int × Int
  | [], a => a
  | y :: l, a => szL l (w64 (a.1 + (szP y).1), w64 (a.2.1 + (szP y).2.1), mxI a.2.2 (szP y).2.2)
end
theorem szP_eq (x : Pat) : szP x = ((szL x.l (1, if x.op = 7 then 1 else 0, 0)).1, (szL x.l (1, if x.op = 7 then 1 else 0, 0)).2.1, w64 ((szL x.l (1, if x.op = 7 then 1 else 0, 0)).2.2 + 1)) := by
  cases x; rw [szP]; rfl
/-- Their first two parts do not hang on the groups. -/
theorem Over_tr (x : Pat) : PTr Try.prog 5 [.agg x.C] (.bool (decide (countP x 0 > 1200))) := by
  refine PTr.of_body (N := 6) Try.func5 rfl rfl rfl ?_
  refine AWp.seq ?_
  refine AWp.region ?_
  refine AOps.pln ?_; refine AOp.box rfl rfl (isVal_or rfl) rfl rfl ?_; intro _ _
  refine AOps.sim okL rfl rfl ?_
  refine AOps.nil ?_
  refine AWp.seq ?_
  refine AWp.region ?_
  refine AOps.pln ?_; refine AOp.load okL rfl (.head _) rfl rfl rfl rfl ?_
  refine AOps.pln ?_; focus (refine AOp.callP (v := ?_) rfl rfl rfl ?_ ?_; rotate_left; exact (count_tr x 0))
  refine AOps.sim okL rfl rfl ?_
  refine AOps.sim okL rfl rfl ?_
  refine AOps.nil ?_
  refine AWp.ret ?_
  refine bodyQ_r (by first | exact ResOk.one rfl rfl | exact ResOk.two rfl rfl rfl | exact ResOk.three rfl rfl rfl rfl | exact ResOk.none rfl) ?_
  rfl

set_option maxRecDepth 100000 in
theorem ref14Size_tr (x : Pat) : PTr Try.prog 9 [.agg x.C] (.tup [i64 (szP x).1, i64 (szP x).2.2]) := by
  induction x using Pat.ind with | h x IH => _
  refine PTr.of_body (N := 34) Try.func9 rfl rfl rfl ?_
  refine AWp.know (t := 0) rfl (Known.agg (x := .ds (x.l.map Pat.cells)) (by simp [Pat.C]) (Known.ds _)) fun hlen => ?_
  rw [List.length_map] at hlen
  refine AWp.seq ?_
  refine AWp.region ?_
  refine AOps.pln ?_; refine AOp.box rfl rfl (isVal_or rfl) rfl rfl ?_; intro _ _
  refine AOps.sim okL rfl rfl ?_
  refine AOps.sim okL rfl rfl ?_
  refine AOps.nil ?_
  refine AWp.seq ?_
  refine AWp.region ?_
  refine AOps.sim okL rfl rfl ?_
  refine AOps.sim okL rfl rfl ?_
  refine AOps.nil ?_
  refine AWp.seq ?_
  refine AWp.seq ?_
  refine AWp.region ?_
  refine AOps.sim okL rfl rfl ?_
  refine AOps.nil ?_
  refine AWp.block ?_
  rename_i r _
  refine AWp.loopM (α := Nat × Int × Int × Int) (fun a => x.l.length - a.1) (fun a => [(1, .ptr r 7 0 0), (4, i64 a.2.1), (5, i64 a.2.2.2), (6, i64 a.1)]) (fun _ => _)
    (fun a => a.1 ≤ x.l.length ∧ szL (x.l.drop a.1) a.2 = szL x.l (1, if x.op = 7 then 1 else 0, 0)) (0, 1, if x.op = 7 then 1 else 0, 0) ⟨Nat.zero_le _, rfl⟩ ?_ (List.Perm.refl _) ?_
  · simp only [AllIn]
    refine ⟨rfl, rfl, rfl, rfl, trivial⟩
  rintro ⟨k, m⟩ ⟨hk, hm⟩ ih
  simp only at hk hm
  refine AWp.seq ?_
  refine AWp.seq ?_
  refine AWp.region ?_
  refine AOps.sim okL rfl rfl ?_
  refine AOps.sim okL rfl rfl ?_
  refine AOps.pln ?_; refine AOp.load okL rfl (.head _) rfl rfl rfl rfl ?_
  refine AOps.sim okL rfl rfl ?_
  refine AOps.sim okL rfl rfl ?_
  refine AOps.nil ?_
  refine seqQ_n ?_
  first | refine AWp.condCase rfl (fun h => ?_) (fun h => ?_) | refine AWp.cond rfl (fun h => ?_) (fun h => ?_)
  · have h := of_decide_eq_true h
    simp only [List.length_map] at h
    obtain ⟨y, hy⟩ : ∃ y, x.l[k]? = some y := ⟨x.l[k], by simp [show k < x.l.length by omega]⟩
    rw [drop_get hy, szL] at hm
    refine AWp.skip ?_
    refine AWp.seq ?_
    refine AWp.block ?_
    refine AWp.seq ?_
    refine AWp.region ?_
    refine AOps.sim okL rfl rfl ?_
    refine AOps.pln ?_; refine AOp.load okL rfl (.head _) rfl rfl rfl rfl ?_
    refine AOps.sim okL rfl rfl ?_
    (first | refine AOps.simple okL rfl (sOp_idxD rfl rfl rfl rfl rfl ((by omega)) (getC hy) rfl) rfl ?_ | refine AOps.simpleW okL rfl rfl rfl (sOp_idxD rfl rfl rfl rfl rfl ((by omega)) (getC hy) rfl) rfl ?_ | refine Pl.pure rfl (sOp_idxD rfl rfl rfl rfl rfl ((by omega)) (getC hy) rfl) ?_ | refine Pl.pureW rfl rfl (sOp_idxD rfl rfl rfl rfl rfl ((by omega)) (getC hy) rfl) ?_)
    refine AOps.sim okL rfl rfl ?_
    refine AOps.pln ?_; focus (refine AOp.callP (v := ?_) rfl rfl rfl ?_ ?_; rotate_left; exact (IH y (List.mem_of_getElem? hy)))
    refine AOps.sim okL rfl rfl ?_
    refine AOps.sim okL rfl rfl ?_
    refine AOps.sim okL rfl rfl ?_
    refine AOps.sim okL rfl rfl ?_
    refine AOps.sim okL rfl rfl ?_
    refine AOps.nil ?_
    refine AWp.region ?_
    refine AOps.sim okL rfl rfl ?_
    refine AOps.sim okL rfl rfl ?_
    refine AOps.sim okL rfl rfl ?_
    refine AOps.sim okL rfl rfl ?_
    refine AOps.sim okL rfl rfl ?_
    refine AOps.sim okL rfl rfl ?_
    refine AOps.sim okL rfl rfl ?_
    refine AOps.sim okL rfl rfl ?_
    refine AOps.nil ?_
    refine AWp.region ?_
    refine AOps.sim okL rfl rfl ?_
    refine AOps.sim okL rfl rfl ?_
    refine AOps.sim okL rfl rfl ?_
    refine AOps.nil ?_
    refine seqQ_n ?_
    refine AIn.next (ih (k + 1, _) ⟨by omega, hm⟩ (by simp only; omega)) ?_ (List.Perm.refl _)
    simp only [AllIn]
    refine ⟨rfl, rfl, rfl, ?_, trivial⟩
    exact congrArg some (nxt (by omega) hlen)
  · have h := of_decide_eq_false h
    simp only [List.length_map] at h
    rw [List.drop_eq_nil_of_le (by omega), szL] at hm
    refine AWp.exit ?_
    refine AWp.seq ?_
    refine AWp.region ?_
    refine AOps.sim okL rfl rfl ?_
    refine AOps.sim okL rfl rfl ?_
    refine AOps.sim okL rfl rfl ?_
    refine AOps.sim okL rfl rfl ?_
    refine AOps.sim okL rfl rfl ?_
    refine AOps.nil ?_
    refine AWp.ret ?_
    refine bodyQ_r (by first | exact ResOk.one rfl rfl | exact ResOk.two rfl rfl rfl | exact ResOk.three rfl rfl rfl rfl | exact ResOk.none rfl) ?_
    rw [szP_eq, ← hm]; rfl


set_option maxRecDepth 100000 in
theorem optsize_tr (x : Pat) : PTr Try.prog 20 [.agg x.C] (.tup [i64 (szP x).1, i64 (szP x).2.2]) := by
  induction x using Pat.ind with | h x IH => _
  refine PTr.of_body (N := 32) Try.func20 rfl rfl rfl ?_
  refine AWp.know (t := 0) rfl (Known.agg (x := .ds (x.l.map Pat.cells)) (by simp [Pat.C]) (Known.ds _)) fun hlen => ?_
  rw [List.length_map] at hlen
  refine AWp.seq ?_
  refine AWp.region ?_
  refine AOps.pln ?_; refine AOp.box rfl rfl (isVal_or rfl) rfl rfl ?_; intro _ _
  refine AOps.sim okL rfl rfl ?_
  refine AOps.sim okL rfl rfl ?_
  refine AOps.nil ?_
  refine AWp.seq ?_
  refine AWp.region ?_
  refine AOps.sim okL rfl rfl ?_
  refine AOps.sim okL rfl rfl ?_
  refine AOps.nil ?_
  refine AWp.seq ?_
  refine AWp.seq ?_
  refine AWp.region ?_
  refine AOps.sim okL rfl rfl ?_
  refine AOps.pln ?_; refine AOp.load okL rfl (.head _) rfl rfl rfl rfl ?_
  refine AOps.sim okL rfl rfl ?_
  refine AOps.sim okL rfl rfl ?_
  refine AOps.nil ?_
  refine AWp.block ?_
  rename_i r _
  refine AWp.loopM (α := Nat × Int × Int × Int) (fun a => x.l.length - a.1) (fun a => [(1, .ptr r 7 0 0), (4, i64 a.2.1), (5, i64 a.2.2.2), (11, .ds (x.l.map Pat.cells)), (12, i64 (x.l.map Pat.cells).length), (13, i64 a.1)]) (fun _ => _)
    (fun a => a.1 ≤ x.l.length ∧ szL (x.l.drop a.1) a.2 = szL x.l (1, if x.op = 7 then 1 else 0, 0)) (0, 1, if x.op = 7 then 1 else 0, 0) ⟨Nat.zero_le _, rfl⟩ ?_ (List.Perm.refl _) ?_
  · simp only [AllIn]
    refine ⟨rfl, rfl, rfl, rfl, rfl, rfl, trivial⟩
  rintro ⟨k, m⟩ ⟨hk, hm⟩ ih
  simp only at hk hm
  refine AWp.seq ?_
  refine AWp.region ?_
  refine AOps.sim okL rfl rfl ?_
  refine AOps.nil ?_
  refine AWp.seq ?_
  first | refine AWp.condCase rfl (fun h => ?_) (fun h => ?_) | refine AWp.cond rfl (fun h => ?_) (fun h => ?_)
  · have h := of_decide_eq_true h
    simp only [List.length_map] at h
    obtain ⟨y, hy⟩ : ∃ y, x.l[k]? = some y := ⟨x.l[k], by simp [show k < x.l.length by omega]⟩
    rw [drop_get hy, szL] at hm
    refine AWp.skip ?_
    refine AWp.seq ?_
    refine AWp.block ?_
    refine AWp.seq ?_
    refine AWp.region ?_
    (first | refine AOps.simple okL rfl (sOp_idxD rfl rfl rfl rfl rfl ((by omega)) (getC hy) rfl) rfl ?_ | refine AOps.simpleW okL rfl rfl rfl (sOp_idxD rfl rfl rfl rfl rfl ((by omega)) (getC hy) rfl) rfl ?_ | refine Pl.pure rfl (sOp_idxD rfl rfl rfl rfl rfl ((by omega)) (getC hy) rfl) ?_ | refine Pl.pureW rfl rfl (sOp_idxD rfl rfl rfl rfl rfl ((by omega)) (getC hy) rfl) ?_)
    refine AOps.sim okL rfl rfl ?_
    refine AOps.pln ?_; refine AOp.alloc okL rfl rfl rfl ?_; intro _ _
    refine AOps.pln ?_; refine AOp.store okL rfl rfl rfl (isVal_or rfl) rfl rfl rfl .here rfl rfl rfl ?_
    refine AOps.nil ?_
    refine AWp.seq ?_
    refine AWp.region ?_
    refine AOps.pln ?_; refine AOp.load okL rfl (.head _) rfl rfl rfl rfl ?_
    refine AOps.pln ?_; focus (refine AOp.callP (v := ?_) rfl rfl rfl ?_ ?_; rotate_left; exact (IH y (List.mem_of_getElem? hy)))
    refine AOps.sim okL rfl rfl ?_
    refine AOps.sim okL rfl rfl ?_
    refine AOps.sim okL rfl rfl ?_
    refine AOps.sim okL rfl rfl ?_
    refine AOps.sim okL rfl rfl ?_
    refine AOps.nil ?_
    refine AWp.region ?_
    refine AOps.sim okL rfl rfl ?_
    refine AOps.sim okL rfl rfl ?_
    refine AOps.sim okL rfl rfl ?_
    refine AOps.sim okL rfl rfl ?_
    refine AOps.sim okL rfl rfl ?_
    refine AOps.sim okL rfl rfl ?_
    refine AOps.sim okL rfl rfl ?_
    refine AOps.sim okL rfl rfl ?_
    refine AOps.nil ?_
    refine AWp.region ?_
    refine AOps.sim okL rfl rfl ?_
    refine AOps.sim okL rfl rfl ?_
    refine AOps.nil ?_
    refine seqQ_n ?_
    refine AIn.nextN 1 (ih (k + 1, _) ⟨by omega, hm⟩ (by simp only; omega)) ?_ rfl
    simp only [AllIn]
    refine ⟨rfl, rfl, rfl, rfl, rfl, ?_, trivial⟩
    exact congrArg some (nxt (by omega) hlen)
  · have h := of_decide_eq_false h
    simp only [List.length_map] at h
    rw [List.drop_eq_nil_of_le (by omega), szL] at hm
    refine AWp.exit ?_
    refine AWp.seq ?_
    refine AWp.region ?_
    refine AOps.sim okL rfl rfl ?_
    refine AOps.sim okL rfl rfl ?_
    refine AOps.sim okL rfl rfl ?_
    refine AOps.sim okL rfl rfl ?_
    refine AOps.sim okL rfl rfl ?_
    refine AOps.nil ?_
    refine AWp.ret ?_
    refine bodyQ_r (by first | exact ResOk.one rfl rfl | exact ResOk.two rfl rfl rfl | exact ResOk.three rfl rfl rfl rfl | exact ResOk.none rfl) ?_
    rw [szP_eq, ← hm]; rfl


set_option maxRecDepth 100000 in
theorem ref12Size_tr (x : Pat) : PTr Try.prog 37 [.agg x.C] (.agg [i64 (szP x).1, i64 (szP x).2.2, i64 (szP x).2.1]) := by
  induction x using Pat.ind with | h x IH => _
  refine PTr.of_body (N := 47) Try.func37 rfl rfl rfl ?_
  refine AWp.know (t := 0) rfl (Known.agg (x := .ds (x.l.map Pat.cells)) (by simp [Pat.C]) (Known.ds _)) fun hlen => ?_
  rw [List.length_map] at hlen
  refine AWp.seq ?_
  refine AWp.region ?_
  refine AOps.pln ?_; refine AOp.box rfl rfl (isVal_or rfl) rfl rfl ?_; intro _ _
  refine AOps.pln ?_; refine AOp.alloc okL rfl rfl rfl ?_; intro _ _
  refine AOps.nil ?_
  refine AWp.seq ?_
  refine AWp.region ?_
  refine AOps.sim okL rfl rfl ?_
  refine AOps.pln ?_; refine AOp.alloc okL rfl rfl rfl ?_; intro _ _
  refine AOps.pln ?_; refine AOp.store okL rfl rfl rfl (isVal_or rfl) rfl rfl rfl .here rfl rfl rfl ?_
  refine AOps.nil ?_
  refine AWp.seq ?_
  refine AWp.seq ?_
  refine AWp.region ?_
  refine AOps.sim okL rfl rfl ?_
  refine AOps.pln ?_; refine AOp.load okL rfl (.tail _ (.tail _ (.head _))) rfl rfl rfl rfl ?_
  refine AOps.sim okL rfl rfl ?_
  refine AOps.nil ?_
  refine seqQ_n ?_
  rename_i r1 _ r2 _ r3 _
  refine AWp.join (α := Int) (fun _ => [(1, .ptr r1 7 0 0), (2, .ptr r2 3 0 0), (3, .ptr r3 3 0 0)])
    (fun g => [(r3, .row 62 3 [[i64 1, i64 0, i64 g]]), (r2, .row 62 3 [[i64 0, i64 0, i64 0]]), (r1, .row 25 7 [x.C])])
    (fun g => g = if x.op = 7 then 1 else 0) ?_ fun R K hR => ?_
  · intro g hg
    refine AWp.seq ?_
    refine AWp.seq ?_
    refine AWp.region ?_
    refine AOps.sim okL rfl rfl ?_
    refine AOps.nil ?_
    refine AWp.block ?_
    refine AWp.loopM (α := Nat × Int × Int × Int) (fun a => x.l.length - a.1) (fun a => [(1, .ptr r1 7 0 0), (2, .ptr r2 3 0 0), (3, .ptr r3 3 0 0), (4, i64 a.1)])
      (fun a => [(r3, .row 62 3 [[i64 a.2.1, i64 a.2.2.2, i64 a.2.2.1]]), (r2, .row 62 3 [[i64 0, i64 0, i64 0]]), (r1, .row 25 7 [x.C])])
      (fun a => a.1 ≤ x.l.length ∧ szL (x.l.drop a.1) a.2 = szL x.l (1, if x.op = 7 then 1 else 0, 0)) (0, 1, g, 0) ⟨Nat.zero_le _, by rw [← hg]; rfl⟩ ?_ (List.Perm.refl _) ?_
    · simp only [AllIn]
      refine ⟨rfl, rfl, rfl, rfl, trivial⟩
    rintro ⟨k, m⟩ ⟨hk, hm⟩ ih
    simp only at hk hm
    refine AWp.seq ?_
    refine AWp.seq ?_
    refine AWp.region ?_
    refine AOps.sim okL rfl rfl ?_
    refine AOps.sim okL rfl rfl ?_
    refine AOps.pln ?_; refine AOp.load okL rfl (.tail _ (.tail _ (.head _))) rfl rfl rfl rfl ?_
    refine AOps.sim okL rfl rfl ?_
    refine AOps.sim okL rfl rfl ?_
    refine AOps.nil ?_
    refine seqQ_n ?_
    first | refine AWp.condCase rfl (fun h => ?_) (fun h => ?_) | refine AWp.cond rfl (fun h => ?_) (fun h => ?_)
    · have h := of_decide_eq_true h
      simp only [List.length_map] at h
      obtain ⟨y, hy⟩ : ∃ y, x.l[k]? = some y := ⟨x.l[k], by simp [show k < x.l.length by omega]⟩
      rw [drop_get hy, szL] at hm
      refine AWp.skip ?_
      refine AWp.seq ?_
      refine AWp.block ?_
      refine AWp.seq ?_
      refine AWp.region ?_
      refine AOps.sim okL rfl rfl ?_
      refine AOps.pln ?_; refine AOp.load okL rfl (.tail _ (.tail _ (.head _))) rfl rfl rfl rfl ?_
      refine AOps.sim okL rfl rfl ?_
      (first | refine AOps.simple okL rfl (sOp_idxD rfl rfl rfl rfl rfl ((by omega)) (getC hy) rfl) rfl ?_ | refine AOps.simpleW okL rfl rfl rfl (sOp_idxD rfl rfl rfl rfl rfl ((by omega)) (getC hy) rfl) rfl ?_ | refine Pl.pure rfl (sOp_idxD rfl rfl rfl rfl rfl ((by omega)) (getC hy) rfl) ?_ | refine Pl.pureW rfl rfl (sOp_idxD rfl rfl rfl rfl rfl ((by omega)) (getC hy) rfl) ?_)
      refine AOps.sim okL rfl rfl ?_
      refine AOps.pln ?_; focus (refine AOp.callP (v := ?_) rfl rfl rfl ?_ ?_; rotate_left; exact (IH y (List.mem_of_getElem? hy)))
      refine AOps.pln ?_; refine AOp.alloc okL rfl rfl rfl ?_; intro _ _
      refine AOps.pln ?_; refine AOp.store okL rfl rfl rfl (isVal_or rfl) rfl rfl rfl .here rfl rfl rfl ?_
      refine AOps.nil ?_
      refine AWp.seq ?_
      refine AWp.region ?_
      refine AOps.sim okL rfl rfl ?_
      refine AOps.pln ?_; refine AOp.load okL rfl (.tail _ (.head _)) rfl rfl rfl rfl ?_
      refine AOps.sim okL rfl rfl ?_
      refine AOps.pln ?_; refine AOp.load okL rfl (.head _) rfl rfl rfl rfl ?_
      refine AOps.sim okL rfl rfl ?_
      refine AOps.sim okL rfl rfl ?_
      refine AOps.pln ?_; refine AOp.store okL rfl rfl rfl (isVal_or rfl) rfl rfl rfl (.there .here) rfl rfl rfl ?_
      refine AOps.nil ?_
      refine AWp.seq ?_
      refine AWp.region ?_
      refine AOps.sim okL rfl rfl ?_
      refine AOps.pln ?_; refine AOp.load okL rfl (.tail _ (.head _)) rfl rfl rfl rfl ?_
      refine AOps.sim okL rfl rfl ?_
      refine AOps.pln ?_; refine AOp.load okL rfl (.head _) rfl rfl rfl rfl ?_
      refine AOps.sim okL rfl rfl ?_
      refine AOps.sim okL rfl rfl ?_
      refine AOps.pln ?_; refine AOp.store okL rfl rfl rfl (isVal_or rfl) rfl rfl rfl (.there .here) rfl rfl rfl ?_
      refine AOps.nil ?_
      refine AWp.region ?_
      refine AOps.sim okL rfl rfl ?_
      refine AOps.pln ?_; refine AOp.load okL rfl (.tail _ (.head _)) rfl rfl rfl rfl ?_
      refine AOps.sim okL rfl rfl ?_
      refine AOps.pln ?_; refine AOp.load okL rfl (.head _) rfl rfl rfl rfl ?_
      refine AOps.sim okL rfl rfl ?_
      refine AOps.sim okL rfl rfl ?_
      refine AOps.pln ?_; refine AOp.store okL rfl rfl rfl (isVal_or rfl) rfl rfl rfl (.there .here) rfl rfl rfl ?_
      refine AOps.nil ?_
      refine AWp.region ?_
      refine AOps.sim okL rfl rfl ?_
      refine AOps.sim okL rfl rfl ?_
      refine AOps.sim okL rfl rfl ?_
      refine AOps.nil ?_
      refine seqQ_n ?_
      refine AIn.nextN 1 (ih (k + 1, _) ⟨by omega, hm⟩ (by simp only; omega)) ?_ rfl
      simp only [AllIn]
      refine ⟨rfl, rfl, rfl, ?_, trivial⟩
      exact congrArg some (nxt (by omega) hlen)
    · have h := of_decide_eq_false h
      simp only [List.length_map] at h
      rw [List.drop_eq_nil_of_le (by omega), szL] at hm
      refine AWp.exit ?_
      refine AWp.seq ?_
      refine AWp.region ?_
      refine AOps.sim okL rfl rfl ?_
      refine AOps.pln ?_; refine AOp.load okL rfl (.head _) rfl rfl rfl rfl ?_
      refine AOps.sim okL rfl rfl ?_
      refine AOps.sim okL rfl rfl ?_
      refine AOps.pln ?_; refine AOp.store okL rfl rfl rfl (isVal_or rfl) rfl rfl rfl .here rfl rfl rfl ?_
      refine AOps.nil ?_
      refine AWp.seq ?_
      refine AWp.region ?_
      refine AOps.pln ?_; refine AOp.load okL rfl (.head _) rfl rfl rfl rfl ?_
      refine AOps.pln ?_; refine AOp.store okL rfl rfl rfl (isVal_or rfl) rfl rfl rfl (.there .here) rfl rfl rfl ?_
      refine AOps.nil ?_
      refine AWp.ret ?_
      refine bodyQ_r (ResOk.cell okL rfl rfl (.tail _ (.head _)) rfl rfl rfl) ?_
      rw [szP_eq, ← hm]; rfl
  first | refine AWp.condCase rfl (fun h => ?_) (fun h => ?_) | refine AWp.cond rfl (fun h => ?_) (fun h => ?_)
  · refine AWp.region ?_
    refine AOps.sim okL rfl rfl ?_
    refine AOps.pln ?_; refine AOp.store okL rfl rfl rfl (isVal_or rfl) rfl rfl rfl .here rfl rfl rfl ?_
    refine AOps.nil ?_
    (refine K (1) (by rw [if_pos (of_decide_eq_true h)]) 0 _ _ ?_ rfl; repeat (first | exact trivial | refine ⟨rfl, ?_⟩))
  · refine AWp.skip ?_
    (refine K (0) (by rw [if_neg (of_decide_eq_false h)]) 0 _ _ ?_ rfl; repeat (first | exact trivial | refine ⟨rfl, ?_⟩))

set_option maxRecDepth 100000 in
theorem measure_tr (x : Pat) : PTr Try.prog 35 [.agg x.C] (.agg [i64 (szP x).1, i64 (szP x).2.1, i64 (szP x).2.2]) := by
  induction x using Pat.ind with | h x IH => _
  refine PTr.of_body (N := 43) Try.func35 rfl rfl rfl ?_
  refine AWp.know (t := 0) rfl (Known.agg (x := .ds (x.l.map Pat.cells)) (by simp [Pat.C]) (Known.ds _)) fun hlen => ?_
  rw [List.length_map] at hlen
  refine AWp.seq ?_
  refine AWp.region ?_
  refine AOps.pln ?_; refine AOp.box rfl rfl (isVal_or rfl) rfl rfl ?_; intro _ _
  refine AOps.pln ?_; refine AOp.alloc okL rfl rfl rfl ?_; intro _ _
  refine AOps.nil ?_
  refine AWp.seq ?_
  refine AWp.region ?_
  refine AOps.sim okL rfl rfl ?_
  refine AOps.pln ?_; refine AOp.alloc okL rfl rfl rfl ?_; intro _ _
  refine AOps.pln ?_; refine AOp.store okL rfl rfl rfl (isVal_or rfl) rfl rfl rfl .here rfl rfl rfl ?_
  refine AOps.nil ?_
  refine AWp.seq ?_
  refine AWp.seq ?_
  refine AWp.region ?_
  refine AOps.sim okL rfl rfl ?_
  refine AOps.pln ?_; refine AOp.load okL rfl (.tail _ (.tail _ (.head _))) rfl rfl rfl rfl ?_
  refine AOps.sim okL rfl rfl ?_
  refine AOps.nil ?_
  refine seqQ_n ?_
  rename_i r1 _ r2 _ r3 _
  refine AWp.join (α := Int) (fun _ => [(1, .ptr r1 7 0 0), (2, .ptr r2 3 0 0), (3, .ptr r3 3 0 0)])
    (fun g => [(r3, .row 59 3 [[i64 1, i64 g, i64 0]]), (r2, .row 59 3 [[i64 0, i64 0, i64 0]]), (r1, .row 25 7 [x.C])])
    (fun g => g = if x.op = 7 then 1 else 0) ?_ fun R K hR => ?_
  · intro g hg
    refine AWp.seq ?_
    refine AWp.seq ?_
    refine AWp.region ?_
    refine AOps.sim okL rfl rfl ?_
    refine AOps.pln ?_; refine AOp.load okL rfl (.tail _ (.tail _ (.head _))) rfl rfl rfl rfl ?_
    refine AOps.sim okL rfl rfl ?_
    refine AOps.sim okL rfl rfl ?_
    refine AOps.nil ?_
    refine AWp.block ?_
    refine AWp.loopM (α := Nat × Int × Int × Int) (fun a => x.l.length - a.1) (fun a => [(1, .ptr r1 7 0 0), (2, .ptr r2 3 0 0), (3, .ptr r3 3 0 0), (13, .ds (x.l.map Pat.cells)), (14, i64 (x.l.map Pat.cells).length), (15, i64 a.1)])
      (fun a => [(r3, .row 59 3 [[i64 a.2.1, i64 a.2.2.1, i64 a.2.2.2]]), (r2, .row 59 3 [[i64 0, i64 0, i64 0]]), (r1, .row 25 7 [x.C])])
      (fun a => a.1 ≤ x.l.length ∧ szL (x.l.drop a.1) a.2 = szL x.l (1, if x.op = 7 then 1 else 0, 0)) (0, 1, g, 0) ⟨Nat.zero_le _, by rw [← hg]; rfl⟩ ?_ (List.Perm.refl _) ?_
    · simp only [AllIn]
      refine ⟨rfl, rfl, rfl, rfl, rfl, rfl, trivial⟩
    rintro ⟨k, m⟩ ⟨hk, hm⟩ ih
    simp only at hk hm
    refine AWp.seq ?_
    refine AWp.region ?_
    refine AOps.sim okL rfl rfl ?_
    refine AOps.nil ?_
    refine AWp.seq ?_
    first | refine AWp.condCase rfl (fun h => ?_) (fun h => ?_) | refine AWp.cond rfl (fun h => ?_) (fun h => ?_)
    · have h := of_decide_eq_true h
      simp only [List.length_map] at h
      obtain ⟨y, hy⟩ : ∃ y, x.l[k]? = some y := ⟨x.l[k], by simp [show k < x.l.length by omega]⟩
      rw [drop_get hy, szL] at hm
      refine AWp.skip ?_
      refine AWp.seq ?_
      refine AWp.block ?_
      refine AWp.seq ?_
      refine AWp.region ?_
      (first | refine AOps.simple okL rfl (sOp_idxD rfl rfl rfl rfl rfl ((by omega)) (getC hy) rfl) rfl ?_ | refine AOps.simpleW okL rfl rfl rfl (sOp_idxD rfl rfl rfl rfl rfl ((by omega)) (getC hy) rfl) rfl ?_ | refine Pl.pure rfl (sOp_idxD rfl rfl rfl rfl rfl ((by omega)) (getC hy) rfl) ?_ | refine Pl.pureW rfl rfl (sOp_idxD rfl rfl rfl rfl rfl ((by omega)) (getC hy) rfl) ?_)
      refine AOps.sim okL rfl rfl ?_
      refine AOps.pln ?_; refine AOp.alloc okL rfl rfl rfl ?_; intro _ _
      refine AOps.pln ?_; refine AOp.store okL rfl rfl rfl (isVal_or rfl) rfl rfl rfl .here rfl rfl rfl ?_
      refine AOps.nil ?_
      refine AWp.seq ?_
      refine AWp.region ?_
      refine AOps.pln ?_; refine AOp.load okL rfl (.head _) rfl rfl rfl rfl ?_
      refine AOps.pln ?_; focus (refine AOp.callP (v := ?_) rfl rfl rfl ?_ ?_; rotate_left; exact (IH y (List.mem_of_getElem? hy)))
      refine AOps.pln ?_; refine AOp.alloc okL rfl rfl rfl ?_; intro _ _
      refine AOps.pln ?_; refine AOp.store okL rfl rfl rfl (isVal_or rfl) rfl rfl rfl .here rfl rfl rfl ?_
      refine AOps.nil ?_
      refine AWp.region ?_
      refine AOps.sim okL rfl rfl ?_
      refine AOps.pln ?_; refine AOp.load okL rfl (.tail _ (.tail _ (.head _))) rfl rfl rfl rfl ?_
      refine AOps.sim okL rfl rfl ?_
      refine AOps.pln ?_; refine AOp.load okL rfl (.head _) rfl rfl rfl rfl ?_
      refine AOps.sim okL rfl rfl ?_
      refine AOps.sim okL rfl rfl ?_
      refine AOps.pln ?_; refine AOp.load okL rfl (.tail _ (.tail _ (.head _))) rfl rfl rfl rfl ?_
      refine AOps.sim okL rfl rfl ?_
      refine AOps.pln ?_; refine AOp.load okL rfl (.head _) rfl rfl rfl rfl ?_
      refine AOps.sim okL rfl rfl ?_
      refine AOps.sim okL rfl rfl ?_
      refine AOps.pln ?_; refine AOp.load okL rfl (.tail _ (.tail _ (.head _))) rfl rfl rfl rfl ?_
      refine AOps.sim okL rfl rfl ?_
      refine AOps.pln ?_; refine AOp.load okL rfl (.head _) rfl rfl rfl rfl ?_
      refine AOps.sim okL rfl rfl ?_
      refine AOps.sim okL rfl rfl ?_
      refine AOps.pln ?_; refine AOp.store okL rfl rfl rfl (isVal_or rfl) rfl rfl rfl (.there (.there .here)) rfl rfl rfl ?_
      refine AOps.nil ?_
      refine AWp.region ?_
      refine AOps.sim okL rfl rfl ?_
      refine AOps.sim okL rfl rfl ?_
      refine AOps.nil ?_
      refine seqQ_n ?_
      refine AIn.nextN 2 (ih (k + 1, _) ⟨by omega, hm⟩ (by simp only; omega)) ?_ rfl
      simp only [AllIn]
      refine ⟨rfl, rfl, rfl, rfl, rfl, ?_, trivial⟩
      exact congrArg some (nxt (by omega) hlen)
    · have h := of_decide_eq_false h
      simp only [List.length_map] at h
      rw [List.drop_eq_nil_of_le (by omega), szL] at hm
      refine AWp.exit ?_
      refine AWp.seq ?_
      refine AWp.region ?_
      refine AOps.sim okL rfl rfl ?_
      refine AOps.pln ?_; refine AOp.load okL rfl (.head _) rfl rfl rfl rfl ?_
      refine AOps.sim okL rfl rfl ?_
      refine AOps.sim okL rfl rfl ?_
      refine AOps.pln ?_; refine AOp.store okL rfl rfl rfl (isVal_or rfl) rfl rfl rfl .here rfl rfl rfl ?_
      refine AOps.nil ?_
      refine AWp.seq ?_
      refine AWp.region ?_
      refine AOps.pln ?_; refine AOp.load okL rfl (.head _) rfl rfl rfl rfl ?_
      refine AOps.pln ?_; refine AOp.store okL rfl rfl rfl (isVal_or rfl) rfl rfl rfl (.there .here) rfl rfl rfl ?_
      refine AOps.nil ?_
      refine AWp.ret ?_
      refine bodyQ_r (ResOk.cell okL rfl rfl (.tail _ (.head _)) rfl rfl rfl) ?_
      rw [szP_eq, ← hm]; rfl
  first | refine AWp.condCase rfl (fun h => ?_) (fun h => ?_) | refine AWp.cond rfl (fun h => ?_) (fun h => ?_)
  · refine AWp.region ?_
    refine AOps.sim okL rfl rfl ?_
    refine AOps.pln ?_; refine AOp.store okL rfl rfl rfl (isVal_or rfl) rfl rfl rfl .here rfl rfl rfl ?_
    refine AOps.nil ?_
    (refine K (1) (by rw [if_pos (of_decide_eq_true h)]) 0 _ _ ?_ rfl; repeat (first | exact trivial | refine ⟨rfl, ?_⟩))
  · refine AWp.skip ?_
    (refine K (0) (by rw [if_neg (of_decide_eq_false h)]) 0 _ _ ?_ rfl; repeat (first | exact trivial | refine ⟨rfl, ?_⟩))
end Go.Proofs.Ytiaogfkkfoakpaa

namespace Go.Proofs.Ytiaogfkkfoakpaa
open Go Go.Abs
set_option linter.unusedVariables false
set_option maxRecDepth 100000
set_option linter.unusedSimpArgs false

def chM (c : Int) : Bool := decide (c ≥ 0) && (decide (c ≤ 1114111) && (decide (c < 55296) || decide (c > 57343)))
theorem patIsChar_tr (c : Int) : PTr Try.prog 79 [i64 c] (.bool (chM c)) := by
  refine PTr.of_body (N := 17) Try.func79 rfl rfl rfl ?_
  refine AWp.seq ?_
  refine AWp.region ?_
  refine AOps.sim okL rfl rfl ?_
  refine AOps.nil ?_
  refine AWp.seq ?_
  refine AWp.region ?_
  refine AOps.sim okL rfl rfl ?_
  refine AOps.sim okL rfl rfl ?_
  refine AOps.sim okL rfl rfl ?_
  refine AOps.guardCase rfl rfl rfl (fun h => ?_) (fun h => ?_)
  · refine AOps.simW okL rfl rfl rfl rfl ?_
    refine AOps.simW okL rfl rfl rfl rfl ?_
    refine AOps.sim okL rfl rfl ?_
    refine AOps.sim okL rfl rfl ?_
    refine AOps.guardCase rfl rfl rfl (fun h => ?_) (fun h => ?_)
    · refine AOps.simW okL rfl rfl rfl rfl ?_
      refine AOps.simW okL rfl rfl rfl rfl ?_
      refine AOps.simW okL rfl rfl rfl rfl ?_
      refine AOps.guardCase rfl rfl rfl (fun h => ?_) (fun h => ?_)
      · refine AOps.unw rfl rfl rfl rfl ?_
        refine AOps.unw rfl rfl rfl rfl ?_
        refine AOps.simW okL rfl rfl rfl rfl ?_
        refine AOps.sim okL rfl rfl ?_
        refine AOps.sim okL rfl rfl ?_
        refine AOps.nil ?_
        refine AWp.ret ?_
        refine bodyQ_r (by first | exact ResOk.one rfl rfl | exact ResOk.two rfl rfl rfl | exact ResOk.three rfl rfl rfl rfl | exact ResOk.none rfl) ?_; (simp_all [chM] <;> first | omega | (rw [Bool.eq_iff_iff]; simp <;> omega))
      · refine AOps.simW okL rfl rfl rfl rfl ?_
        refine AOps.simW okL rfl rfl rfl rfl ?_
        refine AOps.simW okL rfl rfl rfl rfl ?_
        refine AOps.sim okL rfl rfl ?_
        refine AOps.sim okL rfl rfl ?_
        refine AOps.nil ?_
        refine AWp.ret ?_
        refine bodyQ_r (by first | exact ResOk.one rfl rfl | exact ResOk.two rfl rfl rfl | exact ResOk.three rfl rfl rfl rfl | exact ResOk.none rfl) ?_; (simp_all [chM] <;> first | omega | (rw [Bool.eq_iff_iff]; simp <;> omega))
    · refine AOps.unw rfl rfl rfl rfl ?_
      refine AOps.unw rfl rfl rfl rfl ?_
      refine AOps.unw rfl rfl rfl rfl ?_
      refine AOps.unwU rfl rfl rfl ?_
      refine AOps.unwU rfl rfl rfl ?_
      refine AOps.unw rfl rfl rfl rfl ?_
      refine AOps.sim okL rfl rfl ?_
      refine AOps.sim okL rfl rfl ?_
      refine AOps.nil ?_
      refine AWp.ret ?_
      refine bodyQ_r (by first | exact ResOk.one rfl rfl | exact ResOk.two rfl rfl rfl | exact ResOk.three rfl rfl rfl rfl | exact ResOk.none rfl) ?_; (simp_all [chM] <;> first | omega | (rw [Bool.eq_iff_iff]; simp <;> omega))
  · refine AOps.unw rfl rfl rfl rfl ?_
    refine AOps.unw rfl rfl rfl rfl ?_
    refine AOps.sim okL rfl rfl ?_
    refine AOps.sim okL rfl rfl ?_
    refine AOps.unw rfl rfl rfl rfl ?_
    refine AOps.unw rfl rfl rfl rfl ?_
    refine AOps.unw rfl rfl rfl rfl ?_
    refine AOps.unwU rfl rfl rfl ?_
    refine AOps.unwU rfl rfl rfl ?_
    refine AOps.unw rfl rfl rfl rfl ?_
    refine AOps.sim okL rfl rfl ?_
    refine AOps.sim okL rfl rfl ?_
    refine AOps.nil ?_
    refine AWp.ret ?_
    refine bodyQ_r (by first | exact ResOk.one rfl rfl | exact ResOk.two rfl rfl rfl | exact ResOk.three rfl rfl rfl rfl | exact ResOk.none rfl) ?_; (simp_all [chM] <;> first | omega | (rw [Bool.eq_iff_iff]; simp <;> omega))
theorem charsIsChar_tr (c : Int) : PTr Try.prog 75 [i64 c] (.bool (chM c)) := by
  refine PTr.of_body (N := 17) Try.func75 rfl rfl rfl ?_
  refine AWp.seq ?_
  refine AWp.region ?_
  refine AOps.sim okL rfl rfl ?_
  refine AOps.nil ?_
  refine AWp.seq ?_
  refine AWp.region ?_
  refine AOps.sim okL rfl rfl ?_
  refine AOps.sim okL rfl rfl ?_
  refine AOps.sim okL rfl rfl ?_
  refine AOps.guardCase rfl rfl rfl (fun h => ?_) (fun h => ?_)
  · refine AOps.simW okL rfl rfl rfl rfl ?_
    refine AOps.simW okL rfl rfl rfl rfl ?_
    refine AOps.sim okL rfl rfl ?_
    refine AOps.sim okL rfl rfl ?_
    refine AOps.guardCase rfl rfl rfl (fun h => ?_) (fun h => ?_)
    · refine AOps.simW okL rfl rfl rfl rfl ?_
      refine AOps.simW okL rfl rfl rfl rfl ?_
      refine AOps.simW okL rfl rfl rfl rfl ?_
      refine AOps.guardCase rfl rfl rfl (fun h => ?_) (fun h => ?_)
      · refine AOps.unw rfl rfl rfl rfl ?_
        refine AOps.unw rfl rfl rfl rfl ?_
        refine AOps.simW okL rfl rfl rfl rfl ?_
        refine AOps.sim okL rfl rfl ?_
        refine AOps.sim okL rfl rfl ?_
        refine AOps.nil ?_
        refine AWp.ret ?_
        refine bodyQ_r (by first | exact ResOk.one rfl rfl | exact ResOk.two rfl rfl rfl | exact ResOk.three rfl rfl rfl rfl | exact ResOk.none rfl) ?_; (simp_all [chM] <;> first | omega | (rw [Bool.eq_iff_iff]; simp <;> omega))
      · refine AOps.simW okL rfl rfl rfl rfl ?_
        refine AOps.simW okL rfl rfl rfl rfl ?_
        refine AOps.simW okL rfl rfl rfl rfl ?_
        refine AOps.sim okL rfl rfl ?_
        refine AOps.sim okL rfl rfl ?_
        refine AOps.nil ?_
        refine AWp.ret ?_
        refine bodyQ_r (by first | exact ResOk.one rfl rfl | exact ResOk.two rfl rfl rfl | exact ResOk.three rfl rfl rfl rfl | exact ResOk.none rfl) ?_; (simp_all [chM] <;> first | omega | (rw [Bool.eq_iff_iff]; simp <;> omega))
    · refine AOps.unw rfl rfl rfl rfl ?_
      refine AOps.unw rfl rfl rfl rfl ?_
      refine AOps.unw rfl rfl rfl rfl ?_
      refine AOps.unwU rfl rfl rfl ?_
      refine AOps.unwU rfl rfl rfl ?_
      refine AOps.unw rfl rfl rfl rfl ?_
      refine AOps.sim okL rfl rfl ?_
      refine AOps.sim okL rfl rfl ?_
      refine AOps.nil ?_
      refine AWp.ret ?_
      refine bodyQ_r (by first | exact ResOk.one rfl rfl | exact ResOk.two rfl rfl rfl | exact ResOk.three rfl rfl rfl rfl | exact ResOk.none rfl) ?_; (simp_all [chM] <;> first | omega | (rw [Bool.eq_iff_iff]; simp <;> omega))
  · refine AOps.unw rfl rfl rfl rfl ?_
    refine AOps.unw rfl rfl rfl rfl ?_
    refine AOps.sim okL rfl rfl ?_
    refine AOps.sim okL rfl rfl ?_
    refine AOps.unw rfl rfl rfl rfl ?_
    refine AOps.unw rfl rfl rfl rfl ?_
    refine AOps.unw rfl rfl rfl rfl ?_
    refine AOps.unwU rfl rfl rfl ?_
    refine AOps.unwU rfl rfl rfl ?_
    refine AOps.unw rfl rfl rfl rfl ?_
    refine AOps.sim okL rfl rfl ?_
    refine AOps.sim okL rfl rfl ?_
    refine AOps.nil ?_
    refine AWp.ret ?_
    refine bodyQ_r (by first | exact ResOk.one rfl rfl | exact ResOk.two rfl rfl rfl | exact ResOk.three rfl rfl rfl rfl | exact ResOk.none rfl) ?_; (simp_all [chM] <;> first | omega | (rw [Bool.eq_iff_iff]; simp <;> omega))
theorem refIsChar_tr (c : Int) : PTr Try.prog 63 [i64 c] (.bool (chM c)) := by
  refine PTr.of_body (N := 18) Try.func63 rfl rfl rfl ?_
  refine AWp.seq ?_
  refine AWp.region ?_
  refine AOps.sim okL rfl rfl ?_
  refine AOps.nil ?_
  refine AWp.seq ?_
  refine AWp.region ?_
  refine AOps.sim okL rfl rfl ?_
  refine AOps.sim okL rfl rfl ?_
  refine AOps.sim okL rfl rfl ?_
  refine AOps.guardCase rfl rfl rfl (fun h => ?_) (fun h => ?_)
  · refine AOps.simW okL rfl rfl rfl rfl ?_
    refine AOps.simW okL rfl rfl rfl rfl ?_
    refine AOps.sim okL rfl rfl ?_
    refine AOps.sim okL rfl rfl ?_
    refine AOps.guardCase rfl rfl rfl (fun h => ?_) (fun h => ?_)
    · refine AOps.simW okL rfl rfl rfl rfl ?_
      refine AOps.simW okL rfl rfl rfl rfl ?_
      refine AOps.simW okL rfl rfl rfl rfl ?_
      refine AOps.guardCase rfl rfl rfl (fun h => ?_) (fun h => ?_)
      · refine AOps.simW okL rfl rfl rfl rfl ?_
        refine AOps.simW okL rfl rfl rfl rfl ?_
        refine AOps.simW okL rfl rfl rfl rfl ?_
        refine AOps.simW okL rfl rfl rfl rfl ?_
        refine AOps.sim okL rfl rfl ?_
        refine AOps.sim okL rfl rfl ?_
        refine AOps.nil ?_
        refine AWp.ret ?_
        refine bodyQ_r (by first | exact ResOk.one rfl rfl | exact ResOk.two rfl rfl rfl | exact ResOk.three rfl rfl rfl rfl | exact ResOk.none rfl) ?_; (simp_all [chM] <;> first | omega | (rw [Bool.eq_iff_iff]; simp <;> omega))
      · refine AOps.unw rfl rfl rfl rfl ?_
        refine AOps.unw rfl rfl rfl rfl ?_
        refine AOps.simW okL rfl rfl rfl rfl ?_
        refine AOps.simW okL rfl rfl rfl rfl ?_
        refine AOps.sim okL rfl rfl ?_
        refine AOps.sim okL rfl rfl ?_
        refine AOps.nil ?_
        refine AWp.ret ?_
        refine bodyQ_r (by first | exact ResOk.one rfl rfl | exact ResOk.two rfl rfl rfl | exact ResOk.three rfl rfl rfl rfl | exact ResOk.none rfl) ?_; (simp_all [chM] <;> first | omega | (rw [Bool.eq_iff_iff]; simp <;> omega))
    · refine AOps.unw rfl rfl rfl rfl ?_
      refine AOps.unw rfl rfl rfl rfl ?_
      refine AOps.unw rfl rfl rfl rfl ?_
      refine AOps.unwU rfl rfl rfl ?_
      refine AOps.unwU rfl rfl rfl ?_
      refine AOps.unw rfl rfl rfl rfl ?_
      refine AOps.unw rfl rfl rfl rfl ?_
      refine AOps.sim okL rfl rfl ?_
      refine AOps.sim okL rfl rfl ?_
      refine AOps.nil ?_
      refine AWp.ret ?_
      refine bodyQ_r (by first | exact ResOk.one rfl rfl | exact ResOk.two rfl rfl rfl | exact ResOk.three rfl rfl rfl rfl | exact ResOk.none rfl) ?_; (simp_all [chM] <;> first | omega | (rw [Bool.eq_iff_iff]; simp <;> omega))
  · refine AOps.unw rfl rfl rfl rfl ?_
    refine AOps.unw rfl rfl rfl rfl ?_
    refine AOps.sim okL rfl rfl ?_
    refine AOps.sim okL rfl rfl ?_
    refine AOps.unw rfl rfl rfl rfl ?_
    refine AOps.unw rfl rfl rfl rfl ?_
    refine AOps.unw rfl rfl rfl rfl ?_
    refine AOps.unwU rfl rfl rfl ?_
    refine AOps.unwU rfl rfl rfl ?_
    refine AOps.unw rfl rfl rfl rfl ?_
    refine AOps.unw rfl rfl rfl rfl ?_
    refine AOps.sim okL rfl rfl ?_
    refine AOps.sim okL rfl rfl ?_
    refine AOps.nil ?_
    refine AWp.ret ?_
    refine bodyQ_r (by first | exact ResOk.one rfl rfl | exact ResOk.two rfl rfl rfl | exact ResOk.three rfl rfl rfl rfl | exact ResOk.none rfl) ?_; (simp_all [chM] <;> first | omega | (rw [Bool.eq_iff_iff]; simp <;> omega))
def inM (n lo hi : Int) : Bool := decide (n ≥ lo) && decide (n ≤ hi)
theorem patWithin_tr (n lo hi : Int) : PTr Try.prog 80 [i64 n, i64 lo, i64 hi] (.bool (inM n lo hi)) := by
  refine PTr.of_body (N := 15) Try.func80 rfl rfl rfl ?_
  refine AWp.seq ?_
  refine AWp.region ?_
  refine AOps.sim okL rfl rfl ?_
  refine AOps.nil ?_
  refine AWp.seq ?_
  refine AWp.region ?_
  refine AOps.sim okL rfl rfl ?_
  refine AOps.sim okL rfl rfl ?_
  refine AOps.sim okL rfl rfl ?_
  refine AOps.sim okL rfl rfl ?_
  refine AOps.guardCase rfl rfl rfl (fun h => ?_) (fun h => ?_)
  · refine AOps.simW okL rfl rfl rfl rfl ?_
    refine AOps.simW okL rfl rfl rfl rfl ?_
    refine AOps.simW okL rfl rfl rfl rfl ?_
    refine AOps.sim okL rfl rfl ?_
    refine AOps.sim okL rfl rfl ?_
    refine AOps.nil ?_
    refine AWp.ret ?_
    refine bodyQ_r (by first | exact ResOk.one rfl rfl | exact ResOk.two rfl rfl rfl | exact ResOk.three rfl rfl rfl rfl | exact ResOk.none rfl) ?_; (simp_all [inM] <;> first | omega | (rw [Bool.eq_iff_iff]; simp <;> omega))
  · refine AOps.unw rfl rfl rfl rfl ?_
    refine AOps.unw rfl rfl rfl rfl ?_
    refine AOps.unw rfl rfl rfl rfl ?_
    refine AOps.sim okL rfl rfl ?_
    refine AOps.sim okL rfl rfl ?_
    refine AOps.nil ?_
    refine AWp.ret ?_
    refine bodyQ_r (by first | exact ResOk.one rfl rfl | exact ResOk.two rfl rfl rfl | exact ResOk.three rfl rfl rfl rfl | exact ResOk.none rfl) ?_; (simp_all [inM] <;> first | omega | (rw [Bool.eq_iff_iff]; simp <;> omega))
theorem refWithin_tr (n lo hi : Int) : PTr Try.prog 39 [i64 n, i64 lo, i64 hi] (.bool (inM n lo hi)) := by
  refine PTr.of_body (N := 15) Try.func39 rfl rfl rfl ?_
  refine AWp.seq ?_
  refine AWp.region ?_
  refine AOps.sim okL rfl rfl ?_
  refine AOps.nil ?_
  refine AWp.seq ?_
  refine AWp.region ?_
  refine AOps.sim okL rfl rfl ?_
  refine AOps.sim okL rfl rfl ?_
  refine AOps.sim okL rfl rfl ?_
  refine AOps.sim okL rfl rfl ?_
  refine AOps.guardCase rfl rfl rfl (fun h => ?_) (fun h => ?_)
  · refine AOps.simW okL rfl rfl rfl rfl ?_
    refine AOps.simW okL rfl rfl rfl rfl ?_
    refine AOps.simW okL rfl rfl rfl rfl ?_
    refine AOps.sim okL rfl rfl ?_
    refine AOps.sim okL rfl rfl ?_
    refine AOps.nil ?_
    refine AWp.ret ?_
    refine bodyQ_r (by first | exact ResOk.one rfl rfl | exact ResOk.two rfl rfl rfl | exact ResOk.three rfl rfl rfl rfl | exact ResOk.none rfl) ?_; (simp_all [inM] <;> first | omega | (rw [Bool.eq_iff_iff]; simp <;> omega))
  · refine AOps.unw rfl rfl rfl rfl ?_
    refine AOps.unw rfl rfl rfl rfl ?_
    refine AOps.unw rfl rfl rfl rfl ?_
    refine AOps.sim okL rfl rfl ?_
    refine AOps.sim okL rfl rfl ?_
    refine AOps.nil ?_
    refine AWp.ret ?_
    refine bodyQ_r (by first | exact ResOk.one rfl rfl | exact ResOk.two rfl rfl rfl | exact ResOk.three rfl rfl rfl rfl | exact ResOk.none rfl) ?_; (simp_all [inM] <;> first | omega | (rw [Bool.eq_iff_iff]; simp <;> omega))
def ltM (c : Int) : Bool := decide (c ≥ 97) && decide (c ≤ 122) || decide (c ≥ 65) && decide (c ≤ 90)
theorem patIsLetter_tr (c : Int) : PTr Try.prog 101 [.int .u8 c] (.bool (ltM c)) := by
  refine PTr.of_body (N := 17) Try.func101 rfl rfl rfl ?_
  refine AWp.seq ?_
  refine AWp.region ?_
  refine AOps.sim okL rfl rfl ?_
  refine AOps.nil ?_
  refine AWp.seq ?_
  refine AWp.region ?_
  refine AOps.sim okL rfl rfl ?_
  refine AOps.sim okL rfl rfl ?_
  refine AOps.sim okL rfl rfl ?_
  refine AOps.guardCase rfl rfl rfl (fun h => ?_) (fun h => ?_)
  · refine AOps.simW okL rfl rfl rfl rfl ?_
    refine AOps.simW okL rfl rfl rfl rfl ?_
    refine AOps.sim okL rfl rfl ?_
    refine AOps.sim okL rfl rfl ?_
    refine AOps.guardCase rfl rfl rfl (fun h => ?_) (fun h => ?_)
    · refine AOps.unw rfl rfl rfl rfl ?_
      refine AOps.unw rfl rfl rfl rfl ?_
      refine AOps.unw rfl rfl rfl rfl ?_
      refine AOps.unwU rfl rfl rfl ?_
      refine AOps.unwU rfl rfl rfl ?_
      refine AOps.unw rfl rfl rfl rfl ?_
      refine AOps.sim okL rfl rfl ?_
      refine AOps.sim okL rfl rfl ?_
      refine AOps.nil ?_
      refine AWp.ret ?_
      refine bodyQ_r (by first | exact ResOk.one rfl rfl | exact ResOk.two rfl rfl rfl | exact ResOk.three rfl rfl rfl rfl | exact ResOk.none rfl) ?_; (simp_all [ltM] <;> first | omega | (rw [Bool.eq_iff_iff]; simp <;> omega))
    · refine AOps.simW okL rfl rfl rfl rfl ?_
      refine AOps.simW okL rfl rfl rfl rfl ?_
      refine AOps.simW okL rfl rfl rfl rfl ?_
      refine AOps.guardCase rfl rfl rfl (fun h => ?_) (fun h => ?_)
      · refine AOps.simW okL rfl rfl rfl rfl ?_
        refine AOps.simW okL rfl rfl rfl rfl ?_
        refine AOps.simW okL rfl rfl rfl rfl ?_
        refine AOps.sim okL rfl rfl ?_
        refine AOps.sim okL rfl rfl ?_
        refine AOps.nil ?_
        refine AWp.ret ?_
        refine bodyQ_r (by first | exact ResOk.one rfl rfl | exact ResOk.two rfl rfl rfl | exact ResOk.three rfl rfl rfl rfl | exact ResOk.none rfl) ?_; (simp_all [ltM] <;> first | omega | (rw [Bool.eq_iff_iff]; simp <;> omega))
      · refine AOps.unw rfl rfl rfl rfl ?_
        refine AOps.unw rfl rfl rfl rfl ?_
        refine AOps.simW okL rfl rfl rfl rfl ?_
        refine AOps.sim okL rfl rfl ?_
        refine AOps.sim okL rfl rfl ?_
        refine AOps.nil ?_
        refine AWp.ret ?_
        refine bodyQ_r (by first | exact ResOk.one rfl rfl | exact ResOk.two rfl rfl rfl | exact ResOk.three rfl rfl rfl rfl | exact ResOk.none rfl) ?_; (simp_all [ltM] <;> first | omega | (rw [Bool.eq_iff_iff]; simp <;> omega))
  · refine AOps.unw rfl rfl rfl rfl ?_
    refine AOps.unw rfl rfl rfl rfl ?_
    refine AOps.sim okL rfl rfl ?_
    refine AOps.sim okL rfl rfl ?_
    refine AOps.simW okL rfl rfl rfl rfl ?_
    refine AOps.simW okL rfl rfl rfl rfl ?_
    refine AOps.simW okL rfl rfl rfl rfl ?_
    refine AOps.guardCase rfl rfl rfl (fun h => ?_) (fun h => ?_)
    · refine AOps.simW okL rfl rfl rfl rfl ?_
      refine AOps.simW okL rfl rfl rfl rfl ?_
      refine AOps.simW okL rfl rfl rfl rfl ?_
      refine AOps.sim okL rfl rfl ?_
      refine AOps.sim okL rfl rfl ?_
      refine AOps.nil ?_
      refine AWp.ret ?_
      refine bodyQ_r (by first | exact ResOk.one rfl rfl | exact ResOk.two rfl rfl rfl | exact ResOk.three rfl rfl rfl rfl | exact ResOk.none rfl) ?_; (simp_all [ltM] <;> first | omega | (rw [Bool.eq_iff_iff]; simp <;> omega))
    · refine AOps.unw rfl rfl rfl rfl ?_
      refine AOps.unw rfl rfl rfl rfl ?_
      refine AOps.simW okL rfl rfl rfl rfl ?_
      refine AOps.sim okL rfl rfl ?_
      refine AOps.sim okL rfl rfl ?_
      refine AOps.nil ?_
      refine AWp.ret ?_
      refine bodyQ_r (by first | exact ResOk.one rfl rfl | exact ResOk.two rfl rfl rfl | exact ResOk.three rfl rfl rfl rfl | exact ResOk.none rfl) ?_; (simp_all [ltM] <;> first | omega | (rw [Bool.eq_iff_iff]; simp <;> omega))
theorem refIsLetter_tr (c : Int) : PTr Try.prog 64 [.int .u8 c] (.bool (ltM c)) := by
  refine PTr.of_body (N := 17) Try.func64 rfl rfl rfl ?_
  refine AWp.seq ?_
  refine AWp.region ?_
  refine AOps.sim okL rfl rfl ?_
  refine AOps.nil ?_
  refine AWp.seq ?_
  refine AWp.region ?_
  refine AOps.sim okL rfl rfl ?_
  refine AOps.sim okL rfl rfl ?_
  refine AOps.sim okL rfl rfl ?_
  refine AOps.guardCase rfl rfl rfl (fun h => ?_) (fun h => ?_)
  · refine AOps.simW okL rfl rfl rfl rfl ?_
    refine AOps.simW okL rfl rfl rfl rfl ?_
    refine AOps.sim okL rfl rfl ?_
    refine AOps.sim okL rfl rfl ?_
    refine AOps.guardCase rfl rfl rfl (fun h => ?_) (fun h => ?_)
    · refine AOps.unw rfl rfl rfl rfl ?_
      refine AOps.unw rfl rfl rfl rfl ?_
      refine AOps.unw rfl rfl rfl rfl ?_
      refine AOps.unwU rfl rfl rfl ?_
      refine AOps.unwU rfl rfl rfl ?_
      refine AOps.unw rfl rfl rfl rfl ?_
      refine AOps.sim okL rfl rfl ?_
      refine AOps.sim okL rfl rfl ?_
      refine AOps.nil ?_
      refine AWp.ret ?_
      refine bodyQ_r (by first | exact ResOk.one rfl rfl | exact ResOk.two rfl rfl rfl | exact ResOk.three rfl rfl rfl rfl | exact ResOk.none rfl) ?_; (simp_all [ltM] <;> first | omega | (rw [Bool.eq_iff_iff]; simp <;> omega))
    · refine AOps.simW okL rfl rfl rfl rfl ?_
      refine AOps.simW okL rfl rfl rfl rfl ?_
      refine AOps.simW okL rfl rfl rfl rfl ?_
      refine AOps.guardCase rfl rfl rfl (fun h => ?_) (fun h => ?_)
      · refine AOps.simW okL rfl rfl rfl rfl ?_
        refine AOps.simW okL rfl rfl rfl rfl ?_
        refine AOps.simW okL rfl rfl rfl rfl ?_
        refine AOps.sim okL rfl rfl ?_
        refine AOps.sim okL rfl rfl ?_
        refine AOps.nil ?_
        refine AWp.ret ?_
        refine bodyQ_r (by first | exact ResOk.one rfl rfl | exact ResOk.two rfl rfl rfl | exact ResOk.three rfl rfl rfl rfl | exact ResOk.none rfl) ?_; (simp_all [ltM] <;> first | omega | (rw [Bool.eq_iff_iff]; simp <;> omega))
      · refine AOps.unw rfl rfl rfl rfl ?_
        refine AOps.unw rfl rfl rfl rfl ?_
        refine AOps.simW okL rfl rfl rfl rfl ?_
        refine AOps.sim okL rfl rfl ?_
        refine AOps.sim okL rfl rfl ?_
        refine AOps.nil ?_
        refine AWp.ret ?_
        refine bodyQ_r (by first | exact ResOk.one rfl rfl | exact ResOk.two rfl rfl rfl | exact ResOk.three rfl rfl rfl rfl | exact ResOk.none rfl) ?_; (simp_all [ltM] <;> first | omega | (rw [Bool.eq_iff_iff]; simp <;> omega))
  · refine AOps.unw rfl rfl rfl rfl ?_
    refine AOps.unw rfl rfl rfl rfl ?_
    refine AOps.sim okL rfl rfl ?_
    refine AOps.sim okL rfl rfl ?_
    refine AOps.simW okL rfl rfl rfl rfl ?_
    refine AOps.simW okL rfl rfl rfl rfl ?_
    refine AOps.simW okL rfl rfl rfl rfl ?_
    refine AOps.guardCase rfl rfl rfl (fun h => ?_) (fun h => ?_)
    · refine AOps.simW okL rfl rfl rfl rfl ?_
      refine AOps.simW okL rfl rfl rfl rfl ?_
      refine AOps.simW okL rfl rfl rfl rfl ?_
      refine AOps.sim okL rfl rfl ?_
      refine AOps.sim okL rfl rfl ?_
      refine AOps.nil ?_
      refine AWp.ret ?_
      refine bodyQ_r (by first | exact ResOk.one rfl rfl | exact ResOk.two rfl rfl rfl | exact ResOk.three rfl rfl rfl rfl | exact ResOk.none rfl) ?_; (simp_all [ltM] <;> first | omega | (rw [Bool.eq_iff_iff]; simp <;> omega))
    · refine AOps.unw rfl rfl rfl rfl ?_
      refine AOps.unw rfl rfl rfl rfl ?_
      refine AOps.simW okL rfl rfl rfl rfl ?_
      refine AOps.sim okL rfl rfl ?_
      refine AOps.sim okL rfl rfl ?_
      refine AOps.nil ?_
      refine AWp.ret ?_
      refine bodyQ_r (by first | exact ResOk.one rfl rfl | exact ResOk.two rfl rfl rfl | exact ResOk.three rfl rfl rfl rfl | exact ResOk.none rfl) ?_; (simp_all [ltM] <;> first | omega | (rw [Bool.eq_iff_iff]; simp <;> omega))
def timesM (n l : Int) : Int := if n = 0 ∨ l = 0 then 0 else if n < 0 ∨ l < 0 then -1 else w64 (n * l)
theorem times_tr (n l : Int) : PTr Try.prog 71 [i64 n, i64 l] (i64 (timesM n l)) := by
  refine PTr.of_body (N := 22) Try.func71 rfl rfl rfl ?_
  refine AWp.seq ?_
  refine AWp.region ?_
  refine AOps.sim okL rfl rfl ?_
  refine AOps.nil ?_
  refine AWp.seq ?_
  refine AWp.block ?_
  refine AWp.seq ?_
  refine AWp.region ?_
  refine AOps.sim okL rfl rfl ?_
  refine AOps.sim okL rfl rfl ?_
  refine AOps.sim okL rfl rfl ?_
  refine AOps.guardCase rfl rfl rfl (fun h => ?_) (fun h => ?_)
  · refine AOps.unw rfl rfl rfl rfl ?_
    refine AOps.unw rfl rfl rfl rfl ?_
    refine AOps.sim okL rfl rfl ?_
    refine AOps.sim okL rfl rfl ?_
    refine AOps.nil ?_
    refine AWp.condT rfl ?_
    refine AWp.seq ?_
    refine AWp.region ?_
    refine AOps.sim okL rfl rfl ?_
    refine AOps.nil ?_
    refine AWp.ret ?_
    refine blockQ_r ?_
    refine seqQ_r ?_
    refine bodyQ_r (by first | exact ResOk.one rfl rfl | exact ResOk.two rfl rfl rfl | exact ResOk.three rfl rfl rfl rfl | exact ResOk.none rfl) ?_; (simp_all [timesM, w64] <;> first | omega | (rw [Bool.eq_iff_iff]; simp <;> omega))
  · refine AOps.simW okL rfl rfl rfl rfl ?_
    refine AOps.simW okL rfl rfl rfl rfl ?_
    refine AOps.sim okL rfl rfl ?_
    refine AOps.sim okL rfl rfl ?_
    refine AOps.nil ?_
    refine seqQ_n ?_
    refine AWp.condCase rfl (fun h => ?_) (fun h => ?_)
    · refine AWp.seq ?_
      refine AWp.region ?_
      refine AOps.sim okL rfl rfl ?_
      refine AOps.nil ?_
      refine AWp.ret ?_
      refine blockQ_r ?_
      refine seqQ_r ?_
      refine bodyQ_r (by first | exact ResOk.one rfl rfl | exact ResOk.two rfl rfl rfl | exact ResOk.three rfl rfl rfl rfl | exact ResOk.none rfl) ?_; (simp_all [timesM, w64] <;> first | omega | (rw [Bool.eq_iff_iff]; simp <;> omega))
    · refine AWp.seq ?_
      refine AWp.region ?_
      refine AOps.sim okL rfl rfl ?_
      refine AOps.sim okL rfl rfl ?_
      refine AOps.sim okL rfl rfl ?_
      refine AOps.guardCase rfl rfl rfl (fun h => ?_) (fun h => ?_)
      · refine AOps.unw rfl rfl rfl rfl ?_
        refine AOps.unw rfl rfl rfl rfl ?_
        refine AOps.sim okL rfl rfl ?_
        refine AOps.sim okL rfl rfl ?_
        refine AOps.nil ?_
        refine AWp.condT rfl ?_
        refine AWp.seq ?_
        refine AWp.region ?_
        refine AOps.sim okL rfl rfl ?_
        refine AOps.nil ?_
        refine AWp.ret ?_
        refine blockQ_r ?_
        refine seqQ_r ?_
        refine bodyQ_r (by first | exact ResOk.one rfl rfl | exact ResOk.two rfl rfl rfl | exact ResOk.three rfl rfl rfl rfl | exact ResOk.none rfl) ?_; (simp_all [timesM, w64] <;> first | omega | (rw [Bool.eq_iff_iff]; simp <;> omega))
      · refine AOps.simW okL rfl rfl rfl rfl ?_
        refine AOps.simW okL rfl rfl rfl rfl ?_
        refine AOps.sim okL rfl rfl ?_
        refine AOps.sim okL rfl rfl ?_
        refine AOps.nil ?_
        refine seqQ_n ?_
        refine AWp.condCase rfl (fun h => ?_) (fun h => ?_)
        · refine AWp.seq ?_
          refine AWp.region ?_
          refine AOps.sim okL rfl rfl ?_
          refine AOps.nil ?_
          refine AWp.ret ?_
          refine blockQ_r ?_
          refine seqQ_r ?_
          refine bodyQ_r (by first | exact ResOk.one rfl rfl | exact ResOk.two rfl rfl rfl | exact ResOk.three rfl rfl rfl rfl | exact ResOk.none rfl) ?_; (simp_all [timesM, w64] <;> first | omega | (rw [Bool.eq_iff_iff]; simp <;> omega))
        · refine AWp.skip ?_
          refine AWp.seq ?_
          refine AWp.region ?_
          refine AOps.sim okL rfl rfl ?_
          refine AOps.sim okL rfl rfl ?_
          refine AOps.sim okL rfl rfl ?_
          refine AOps.sim okL rfl rfl ?_
          refine AOps.nil ?_
          refine AWp.ret ?_
          refine bodyQ_r (by first | exact ResOk.one rfl rfl | exact ResOk.two rfl rfl rfl | exact ResOk.three rfl rfl rfl rfl | exact ResOk.none rfl) ?_; (simp_all [timesM, w64] <;> first | omega | (rw [Bool.eq_iff_iff]; simp <;> omega))
def plusM (a b : Int) : Int := if a < 0 ∨ b < 0 then -1 else w64 (a + b)
theorem plus_tr (a b : Int) : PTr Try.prog 72 [i64 a, i64 b] (i64 (plusM a b)) := by
  refine PTr.of_body (N := 14) Try.func72 rfl rfl rfl ?_
  refine AWp.seq ?_
  refine AWp.region ?_
  refine AOps.sim okL rfl rfl ?_
  refine AOps.nil ?_
  refine AWp.seq ?_
  refine AWp.seq ?_
  refine AWp.region ?_
  refine AOps.sim okL rfl rfl ?_
  refine AOps.sim okL rfl rfl ?_
  refine AOps.sim okL rfl rfl ?_
  refine AOps.guardCase rfl rfl rfl (fun h => ?_) (fun h => ?_)
  · refine AOps.unw rfl rfl rfl rfl ?_
    refine AOps.unw rfl rfl rfl rfl ?_
    refine AOps.sim okL rfl rfl ?_
    refine AOps.nil ?_
    refine AWp.condT rfl ?_
    refine AWp.seq ?_
    refine AWp.region ?_
    refine AOps.sim okL rfl rfl ?_
    refine AOps.nil ?_
    refine AWp.ret ?_
    refine seqQ_r ?_
    refine bodyQ_r (by first | exact ResOk.one rfl rfl | exact ResOk.two rfl rfl rfl | exact ResOk.three rfl rfl rfl rfl | exact ResOk.none rfl) ?_; (simp_all [plusM, w64] <;> first | omega | (rw [Bool.eq_iff_iff]; simp <;> omega))
  · refine AOps.simW okL rfl rfl rfl rfl ?_
    refine AOps.simW okL rfl rfl rfl rfl ?_
    refine AOps.sim okL rfl rfl ?_
    refine AOps.nil ?_
    refine seqQ_n ?_
    refine AWp.condCase rfl (fun h => ?_) (fun h => ?_)
    · refine AWp.seq ?_
      refine AWp.region ?_
      refine AOps.sim okL rfl rfl ?_
      refine AOps.nil ?_
      refine AWp.ret ?_
      refine seqQ_r ?_
      refine bodyQ_r (by first | exact ResOk.one rfl rfl | exact ResOk.two rfl rfl rfl | exact ResOk.three rfl rfl rfl rfl | exact ResOk.none rfl) ?_; (simp_all [plusM, w64] <;> first | omega | (rw [Bool.eq_iff_iff]; simp <;> omega))
    · refine AWp.skip ?_
      refine AWp.seq ?_
      refine AWp.region ?_
      refine AOps.sim okL rfl rfl ?_
      refine AOps.sim okL rfl rfl ?_
      refine AOps.sim okL rfl rfl ?_
      refine AOps.sim okL rfl rfl ?_
      refine AOps.nil ?_
      refine AWp.ret ?_
      refine bodyQ_r (by first | exact ResOk.one rfl rfl | exact ResOk.two rfl rfl rfl | exact ResOk.three rfl rfl rfl rfl | exact ResOk.none rfl) ?_; (simp_all [plusM, w64] <;> first | omega | (rw [Bool.eq_iff_iff]; simp <;> omega))
def besideM (x y : Pat) : Bool := if x.op = 4 then !decide (y.op = 4) && !decide (y.op = 0) else if x.op = 5 then !decide (y.op = 5) else true
theorem isBeside_tr (x y : Pat) : PTr Try.prog 62 [.agg x.C, .agg y.C] (.bool (besideM x y)) := by
  refine PTr.of_body (N := 22) Try.func62 rfl rfl rfl ?_
  refine AWp.seq ?_
  refine AWp.region ?_
  refine AOps.pln ?_; refine AOp.box rfl rfl (isVal_or rfl) rfl rfl ?_; intro _ _
  refine AOps.pln ?_; refine AOp.box rfl rfl (isVal_or rfl) rfl rfl ?_; intro _ _
  refine AOps.sim okL rfl rfl ?_
  refine AOps.nil ?_
  refine AWp.seq ?_
  refine AWp.seq ?_
  refine AWp.region ?_
  refine AOps.sim okL rfl rfl ?_
  refine AOps.pln ?_; refine AOp.load okL rfl (.tail _ (.head _)) rfl rfl rfl rfl ?_
  refine AOps.nil ?_
  refine AWp.block ?_
  refine AWp.seq ?_
  refine AWp.region ?_
  refine AOps.sim okL rfl rfl ?_
  refine AOps.sim okL rfl rfl ?_
  refine AOps.nil ?_
  refine seqQ_n ?_
  refine AWp.condCase rfl (fun h => ?_) (fun h => ?_)
  · refine AWp.seq ?_
    refine AWp.region ?_
    refine AOps.sim okL rfl rfl ?_
    refine AOps.pln ?_; refine AOp.load okL rfl (.head _) rfl rfl rfl rfl ?_
    refine AOps.sim okL rfl rfl ?_
    refine AOps.sim okL rfl rfl ?_
    refine AOps.guardCase rfl rfl rfl (fun h => ?_) (fun h => ?_)
    · refine AOps.simW okL rfl rfl rfl rfl ?_
      refine AOps.wtd rfl rfl rfl ?_; refine AOp.load okL rfl (.head _) rfl rfl rfl rfl ?_
      refine AOps.simW okL rfl rfl rfl rfl ?_
      refine AOps.sim okL rfl rfl ?_
      refine AOps.sim okL rfl rfl ?_
      refine AOps.nil ?_
      refine AWp.ret ?_
      refine blockQ_r ?_
      refine seqQ_r ?_
      refine bodyQ_r (by first | exact ResOk.one rfl rfl | exact ResOk.two rfl rfl rfl | exact ResOk.three rfl rfl rfl rfl | exact ResOk.none rfl) ?_; (simp_all [besideM] <;> first | omega | (rw [Bool.eq_iff_iff]; simp <;> omega))
    · refine AOps.unw rfl rfl rfl rfl ?_
      refine AOps.unw rfl rfl rfl rfl ?_
      refine AOps.unw rfl rfl rfl rfl ?_
      refine AOps.sim okL rfl rfl ?_
      refine AOps.sim okL rfl rfl ?_
      refine AOps.nil ?_
      refine AWp.ret ?_
      refine blockQ_r ?_
      refine seqQ_r ?_
      refine bodyQ_r (by first | exact ResOk.one rfl rfl | exact ResOk.two rfl rfl rfl | exact ResOk.three rfl rfl rfl rfl | exact ResOk.none rfl) ?_; (simp_all [besideM] <;> first | omega | (rw [Bool.eq_iff_iff]; simp <;> omega))
  · refine AWp.seq ?_
    refine AWp.region ?_
    refine AOps.sim okL rfl rfl ?_
    refine AOps.sim okL rfl rfl ?_
    refine AOps.nil ?_
    refine seqQ_n ?_
    refine AWp.condCase rfl (fun h => ?_) (fun h => ?_)
    · refine AWp.seq ?_
      refine AWp.region ?_
      refine AOps.sim okL rfl rfl ?_
      refine AOps.pln ?_; refine AOp.load okL rfl (.head _) rfl rfl rfl rfl ?_
      refine AOps.sim okL rfl rfl ?_
      refine AOps.sim okL rfl rfl ?_
      refine AOps.nil ?_
      refine AWp.ret ?_
      refine blockQ_r ?_
      refine seqQ_r ?_
      refine bodyQ_r (by first | exact ResOk.one rfl rfl | exact ResOk.two rfl rfl rfl | exact ResOk.three rfl rfl rfl rfl | exact ResOk.none rfl) ?_; (simp_all [besideM] <;> first | omega | (rw [Bool.eq_iff_iff]; simp <;> omega))
    · refine AWp.skip ?_
      refine AWp.seq ?_
      refine AWp.region ?_
      refine AOps.sim okL rfl rfl ?_
      refine AOps.nil ?_
      refine AWp.ret ?_
      refine bodyQ_r (by first | exact ResOk.one rfl rfl | exact ResOk.two rfl rfl rfl | exact ResOk.three rfl rfl rfl rfl | exact ResOk.none rfl) ?_; (simp_all [besideM] <;> first | omega | (rw [Bool.eq_iff_iff]; simp <;> omega))
def partsM (op : Int) : Int × Int := if op = 4 ∨ op = 5 then (2, 60) else if op = 6 ∨ op = 7 ∨ op = 8 ∨ op = 9 then (1, 1) else if op = 15 then (2, 2) else (0, 0)
theorem parts_tr (op : Int) : PTr Try.prog 38 [i64 op] (.tup [i64 (partsM op).1, i64 (partsM op).2]) := by
  refine PTr.of_body (N := 15) Try.func38 rfl rfl rfl ?_
  refine AWp.seq ?_
  refine AWp.region ?_
  refine AOps.sim okL rfl rfl ?_
  refine AOps.sim okL rfl rfl ?_
  refine AOps.nil ?_
  refine AWp.seq ?_
  refine AWp.seq ?_
  refine AWp.region ?_
  refine AOps.sim okL rfl rfl ?_
  refine AOps.nil ?_
  refine AWp.block ?_
  refine AWp.seq ?_
  refine AWp.seq ?_
  refine AWp.region ?_
  refine AOps.sim okL rfl rfl ?_
  refine AOps.sim okL rfl rfl ?_
  refine AOps.nil ?_
  refine seqQ_n ?_
  refine AWp.condCase rfl (fun h => ?_) (fun h => ?_)
  · refine AWp.skip ?_
    refine AWp.condT rfl ?_
    refine AWp.seq ?_
    refine AWp.region ?_
    refine AOps.sim okL rfl rfl ?_
    refine AOps.sim okL rfl rfl ?_
    refine AOps.nil ?_
    refine AWp.ret ?_
    refine blockQ_r ?_
    refine seqQ_r ?_
    refine bodyQ_r (by first | exact ResOk.one rfl rfl | exact ResOk.two rfl rfl rfl | exact ResOk.three rfl rfl rfl rfl | exact ResOk.none rfl) ?_; (simp_all [partsM] <;> first | omega | (rw [Bool.eq_iff_iff]; simp <;> omega))
  · refine AWp.region ?_
    refine AOps.sim okL rfl rfl ?_
    refine AOps.sim okL rfl rfl ?_
    refine AOps.nil ?_
    refine seqQ_n ?_
    refine AWp.condCase rfl (fun h => ?_) (fun h => ?_)
    · refine AWp.seq ?_
      refine AWp.region ?_
      refine AOps.sim okL rfl rfl ?_
      refine AOps.sim okL rfl rfl ?_
      refine AOps.nil ?_
      refine AWp.ret ?_
      refine blockQ_r ?_
      refine seqQ_r ?_
      refine bodyQ_r (by first | exact ResOk.one rfl rfl | exact ResOk.two rfl rfl rfl | exact ResOk.three rfl rfl rfl rfl | exact ResOk.none rfl) ?_; (simp_all [partsM] <;> first | omega | (rw [Bool.eq_iff_iff]; simp <;> omega))
    · refine AWp.seq ?_
      refine AWp.seq ?_
      refine AWp.region ?_
      refine AOps.sim okL rfl rfl ?_
      refine AOps.sim okL rfl rfl ?_
      refine AOps.nil ?_
      refine seqQ_n ?_
      refine AWp.condCase rfl (fun h => ?_) (fun h => ?_)
      · refine AWp.skip ?_
        refine AWp.condT rfl ?_
        refine AWp.seq ?_
        refine AWp.region ?_
        refine AOps.sim okL rfl rfl ?_
        refine AOps.sim okL rfl rfl ?_
        refine AOps.nil ?_
        refine AWp.ret ?_
        refine blockQ_r ?_
        refine seqQ_r ?_
        refine bodyQ_r (by first | exact ResOk.one rfl rfl | exact ResOk.two rfl rfl rfl | exact ResOk.three rfl rfl rfl rfl | exact ResOk.none rfl) ?_; (simp_all [partsM] <;> first | omega | (rw [Bool.eq_iff_iff]; simp <;> omega))
      · refine AWp.seq ?_
        refine AWp.region ?_
        refine AOps.sim okL rfl rfl ?_
        refine AOps.sim okL rfl rfl ?_
        refine AOps.nil ?_
        refine seqQ_n ?_
        refine AWp.condCase rfl (fun h => ?_) (fun h => ?_)
        · refine AWp.skip ?_
          refine AWp.condT rfl ?_
          refine AWp.seq ?_
          refine AWp.region ?_
          refine AOps.sim okL rfl rfl ?_
          refine AOps.sim okL rfl rfl ?_
          refine AOps.nil ?_
          refine AWp.ret ?_
          refine blockQ_r ?_
          refine seqQ_r ?_
          refine bodyQ_r (by first | exact ResOk.one rfl rfl | exact ResOk.two rfl rfl rfl | exact ResOk.three rfl rfl rfl rfl | exact ResOk.none rfl) ?_; (simp_all [partsM] <;> first | omega | (rw [Bool.eq_iff_iff]; simp <;> omega))
        · refine AWp.seq ?_
          refine AWp.region ?_
          refine AOps.sim okL rfl rfl ?_
          refine AOps.sim okL rfl rfl ?_
          refine AOps.nil ?_
          refine seqQ_n ?_
          refine AWp.condCase rfl (fun h => ?_) (fun h => ?_)
          · refine AWp.skip ?_
            refine AWp.condT rfl ?_
            refine AWp.seq ?_
            refine AWp.region ?_
            refine AOps.sim okL rfl rfl ?_
            refine AOps.sim okL rfl rfl ?_
            refine AOps.nil ?_
            refine AWp.ret ?_
            refine blockQ_r ?_
            refine seqQ_r ?_
            refine bodyQ_r (by first | exact ResOk.one rfl rfl | exact ResOk.two rfl rfl rfl | exact ResOk.three rfl rfl rfl rfl | exact ResOk.none rfl) ?_; (simp_all [partsM] <;> first | omega | (rw [Bool.eq_iff_iff]; simp <;> omega))
          · refine AWp.region ?_
            refine AOps.sim okL rfl rfl ?_
            refine AOps.sim okL rfl rfl ?_
            refine AOps.nil ?_
            refine seqQ_n ?_
            refine AWp.condCase rfl (fun h => ?_) (fun h => ?_)
            · refine AWp.seq ?_
              refine AWp.region ?_
              refine AOps.sim okL rfl rfl ?_
              refine AOps.sim okL rfl rfl ?_
              refine AOps.nil ?_
              refine AWp.ret ?_
              refine blockQ_r ?_
              refine seqQ_r ?_
              refine bodyQ_r (by first | exact ResOk.one rfl rfl | exact ResOk.two rfl rfl rfl | exact ResOk.three rfl rfl rfl rfl | exact ResOk.none rfl) ?_; (simp_all [partsM] <;> first | omega | (rw [Bool.eq_iff_iff]; simp <;> omega))
            · refine AWp.seq ?_
              refine AWp.region ?_
              refine AOps.sim okL rfl rfl ?_
              refine AOps.sim okL rfl rfl ?_
              refine AOps.nil ?_
              refine seqQ_n ?_
              refine AWp.condCase rfl (fun h => ?_) (fun h => ?_)
              · refine AWp.seq ?_
                refine AWp.region ?_
                refine AOps.sim okL rfl rfl ?_
                refine AOps.sim okL rfl rfl ?_
                refine AOps.nil ?_
                refine AWp.ret ?_
                refine blockQ_r ?_
                refine seqQ_r ?_
                refine bodyQ_r (by first | exact ResOk.one rfl rfl | exact ResOk.two rfl rfl rfl | exact ResOk.three rfl rfl rfl rfl | exact ResOk.none rfl) ?_; (simp_all [partsM] <;> first | omega | (rw [Bool.eq_iff_iff]; simp <;> omega))
              · refine AWp.skip ?_
                refine AWp.seq ?_
                refine AWp.region ?_
                refine AOps.sim okL rfl rfl ?_
                refine AOps.sim okL rfl rfl ?_
                refine AOps.nil ?_
                refine AWp.ret ?_
                refine bodyQ_r (by first | exact ResOk.one rfl rfl | exact ResOk.two rfl rfl rfl | exact ResOk.three rfl rfl rfl rfl | exact ResOk.none rfl) ?_; (simp_all [partsM] <;> first | omega | (rw [Bool.eq_iff_iff]; simp <;> omega))
def numM (x : Pat) (g : Int) : Bool :=
  if x.op = 1 then chM x.n else if x.op = 3 ∨ x.op = 13 then inM x.n 0 1 else if x.op = 6 ∨ x.op = 16 then inM x.n 0 2 else if x.op = 7 ∨ x.op = 10 ∨ x.op = 15 then inM x.n 1 g
  else if x.op = 14 then inM x.n 0 g else if x.op = 9 then inM x.n 0 3 else if x.op = 17 then inM x.n 0 9 else decide (x.n = 0)
theorem isNumber_tr (x : Pat) (g : Int) : PTr Try.prog 40 [.agg x.C, i64 g] (.bool (numM x g)) := by
  refine PTr.of_body (N := 51) Try.func40 rfl rfl rfl ?_
  refine AWp.seq ?_
  refine AWp.region ?_
  refine AOps.pln ?_; refine AOp.box rfl rfl (isVal_or rfl) rfl rfl ?_; intro _ _
  refine AOps.sim okL rfl rfl ?_
  refine AOps.nil ?_
  refine AWp.seq ?_
  refine AWp.seq ?_
  refine AWp.region ?_
  refine AOps.sim okL rfl rfl ?_
  refine AOps.pln ?_; refine AOp.load okL rfl (.head _) rfl rfl rfl rfl ?_
  refine AOps.nil ?_
  refine AWp.block ?_
  refine AWp.seq ?_
  refine AWp.region ?_
  refine AOps.sim okL rfl rfl ?_
  refine AOps.sim okL rfl rfl ?_
  refine AOps.nil ?_
  refine seqQ_n ?_
  refine AWp.condCase rfl (fun h => ?_) (fun h => ?_)
  · refine AWp.seq ?_
    refine AWp.region ?_
    refine AOps.sim okL rfl rfl ?_
    refine AOps.pln ?_; refine AOp.load okL rfl (.head _) rfl rfl rfl rfl ?_
    refine AOps.pln ?_; focus (refine AOp.callP (v := ?_) rfl rfl rfl ?_ ?_; rotate_left; exact (refIsChar_tr _))
    refine AOps.sim okL rfl rfl ?_
    refine AOps.nil ?_
    refine AWp.ret ?_
    refine blockQ_r ?_
    refine seqQ_r ?_
    refine bodyQ_r (by first | exact ResOk.one rfl rfl | exact ResOk.two rfl rfl rfl | exact ResOk.three rfl rfl rfl rfl | exact ResOk.none rfl) ?_; (simp_all [numM] <;> first | omega | (rw [Bool.eq_iff_iff]; simp <;> omega))
  · refine AWp.seq ?_
    refine AWp.seq ?_
    refine AWp.region ?_
    refine AOps.sim okL rfl rfl ?_
    refine AOps.sim okL rfl rfl ?_
    refine AOps.nil ?_
    refine seqQ_n ?_
    refine AWp.condCase rfl (fun h => ?_) (fun h => ?_)
    · refine AWp.skip ?_
      refine AWp.condT rfl ?_
      refine AWp.seq ?_
      refine AWp.region ?_
      refine AOps.sim okL rfl rfl ?_
      refine AOps.pln ?_; refine AOp.load okL rfl (.head _) rfl rfl rfl rfl ?_
      refine AOps.pln ?_; focus (refine AOp.callP (v := ?_) rfl rfl rfl ?_ ?_; rotate_left; exact (refWithin_tr _ _ _))
      refine AOps.sim okL rfl rfl ?_
      refine AOps.nil ?_
      refine AWp.ret ?_
      refine blockQ_r ?_
      refine seqQ_r ?_
      refine bodyQ_r (by first | exact ResOk.one rfl rfl | exact ResOk.two rfl rfl rfl | exact ResOk.three rfl rfl rfl rfl | exact ResOk.none rfl) ?_; (simp_all [numM] <;> first | omega | (rw [Bool.eq_iff_iff]; simp <;> omega))
    · refine AWp.region ?_
      refine AOps.sim okL rfl rfl ?_
      refine AOps.sim okL rfl rfl ?_
      refine AOps.nil ?_
      refine seqQ_n ?_
      refine AWp.condCase rfl (fun h => ?_) (fun h => ?_)
      · refine AWp.seq ?_
        refine AWp.region ?_
        refine AOps.sim okL rfl rfl ?_
        refine AOps.pln ?_; refine AOp.load okL rfl (.head _) rfl rfl rfl rfl ?_
        refine AOps.pln ?_; focus (refine AOp.callP (v := ?_) rfl rfl rfl ?_ ?_; rotate_left; exact (refWithin_tr _ _ _))
        refine AOps.sim okL rfl rfl ?_
        refine AOps.nil ?_
        refine AWp.ret ?_
        refine blockQ_r ?_
        refine seqQ_r ?_
        refine bodyQ_r (by first | exact ResOk.one rfl rfl | exact ResOk.two rfl rfl rfl | exact ResOk.three rfl rfl rfl rfl | exact ResOk.none rfl) ?_; (simp_all [numM] <;> first | omega | (rw [Bool.eq_iff_iff]; simp <;> omega))
      · refine AWp.seq ?_
        refine AWp.seq ?_
        refine AWp.region ?_
        refine AOps.sim okL rfl rfl ?_
        refine AOps.sim okL rfl rfl ?_
        refine AOps.nil ?_
        refine seqQ_n ?_
        refine AWp.condCase rfl (fun h => ?_) (fun h => ?_)
        · refine AWp.skip ?_
          refine AWp.condT rfl ?_
          refine AWp.seq ?_
          refine AWp.region ?_
          refine AOps.sim okL rfl rfl ?_
          refine AOps.pln ?_; refine AOp.load okL rfl (.head _) rfl rfl rfl rfl ?_
          refine AOps.pln ?_; focus (refine AOp.callP (v := ?_) rfl rfl rfl ?_ ?_; rotate_left; exact (refWithin_tr _ _ _))
          refine AOps.sim okL rfl rfl ?_
          refine AOps.nil ?_
          refine AWp.ret ?_
          refine blockQ_r ?_
          refine seqQ_r ?_
          refine bodyQ_r (by first | exact ResOk.one rfl rfl | exact ResOk.two rfl rfl rfl | exact ResOk.three rfl rfl rfl rfl | exact ResOk.none rfl) ?_; (simp_all [numM] <;> first | omega | (rw [Bool.eq_iff_iff]; simp <;> omega))
        · refine AWp.region ?_
          refine AOps.sim okL rfl rfl ?_
          refine AOps.sim okL rfl rfl ?_
          refine AOps.nil ?_
          refine seqQ_n ?_
          refine AWp.condCase rfl (fun h => ?_) (fun h => ?_)
          · refine AWp.seq ?_
            refine AWp.region ?_
            refine AOps.sim okL rfl rfl ?_
            refine AOps.pln ?_; refine AOp.load okL rfl (.head _) rfl rfl rfl rfl ?_
            refine AOps.pln ?_; focus (refine AOp.callP (v := ?_) rfl rfl rfl ?_ ?_; rotate_left; exact (refWithin_tr _ _ _))
            refine AOps.sim okL rfl rfl ?_
            refine AOps.nil ?_
            refine AWp.ret ?_
            refine blockQ_r ?_
            refine seqQ_r ?_
            refine bodyQ_r (by first | exact ResOk.one rfl rfl | exact ResOk.two rfl rfl rfl | exact ResOk.three rfl rfl rfl rfl | exact ResOk.none rfl) ?_; (simp_all [numM] <;> first | omega | (rw [Bool.eq_iff_iff]; simp <;> omega))
          · refine AWp.seq ?_
            refine AWp.seq ?_
            refine AWp.region ?_
            refine AOps.sim okL rfl rfl ?_
            refine AOps.sim okL rfl rfl ?_
            refine AOps.nil ?_
            refine seqQ_n ?_
            refine AWp.condCase rfl (fun h => ?_) (fun h => ?_)
            · refine AWp.skip ?_
              refine AWp.condT rfl ?_
              refine AWp.seq ?_
              refine AWp.region ?_
              refine AOps.sim okL rfl rfl ?_
              refine AOps.pln ?_; refine AOp.load okL rfl (.head _) rfl rfl rfl rfl ?_
              refine AOps.sim okL rfl rfl ?_
              refine AOps.pln ?_; focus (refine AOp.callP (v := ?_) rfl rfl rfl ?_ ?_; rotate_left; exact (refWithin_tr _ _ _))
              refine AOps.sim okL rfl rfl ?_
              refine AOps.nil ?_
              refine AWp.ret ?_
              refine blockQ_r ?_
              refine seqQ_r ?_
              refine bodyQ_r (by first | exact ResOk.one rfl rfl | exact ResOk.two rfl rfl rfl | exact ResOk.three rfl rfl rfl rfl | exact ResOk.none rfl) ?_; (simp_all [numM] <;> first | omega | (rw [Bool.eq_iff_iff]; simp <;> omega))
            · refine AWp.seq ?_
              refine AWp.region ?_
              refine AOps.sim okL rfl rfl ?_
              refine AOps.sim okL rfl rfl ?_
              refine AOps.nil ?_
              refine seqQ_n ?_
              refine AWp.condCase rfl (fun h => ?_) (fun h => ?_)
              · refine AWp.skip ?_
                refine AWp.condT rfl ?_
                refine AWp.seq ?_
                refine AWp.region ?_
                refine AOps.sim okL rfl rfl ?_
                refine AOps.pln ?_; refine AOp.load okL rfl (.head _) rfl rfl rfl rfl ?_
                refine AOps.sim okL rfl rfl ?_
                refine AOps.pln ?_; focus (refine AOp.callP (v := ?_) rfl rfl rfl ?_ ?_; rotate_left; exact (refWithin_tr _ _ _))
                refine AOps.sim okL rfl rfl ?_
                refine AOps.nil ?_
                refine AWp.ret ?_
                refine blockQ_r ?_
                refine seqQ_r ?_
                refine bodyQ_r (by first | exact ResOk.one rfl rfl | exact ResOk.two rfl rfl rfl | exact ResOk.three rfl rfl rfl rfl | exact ResOk.none rfl) ?_; (simp_all [numM] <;> first | omega | (rw [Bool.eq_iff_iff]; simp <;> omega))
              · refine AWp.region ?_
                refine AOps.sim okL rfl rfl ?_
                refine AOps.sim okL rfl rfl ?_
                refine AOps.nil ?_
                refine seqQ_n ?_
                refine AWp.condCase rfl (fun h => ?_) (fun h => ?_)
                · refine AWp.seq ?_
                  refine AWp.region ?_
                  refine AOps.sim okL rfl rfl ?_
                  refine AOps.pln ?_; refine AOp.load okL rfl (.head _) rfl rfl rfl rfl ?_
                  refine AOps.sim okL rfl rfl ?_
                  refine AOps.pln ?_; focus (refine AOp.callP (v := ?_) rfl rfl rfl ?_ ?_; rotate_left; exact (refWithin_tr _ _ _))
                  refine AOps.sim okL rfl rfl ?_
                  refine AOps.nil ?_
                  refine AWp.ret ?_
                  refine blockQ_r ?_
                  refine seqQ_r ?_
                  refine bodyQ_r (by first | exact ResOk.one rfl rfl | exact ResOk.two rfl rfl rfl | exact ResOk.three rfl rfl rfl rfl | exact ResOk.none rfl) ?_; (simp_all [numM] <;> first | omega | (rw [Bool.eq_iff_iff]; simp <;> omega))
                · refine AWp.seq ?_
                  refine AWp.region ?_
                  refine AOps.sim okL rfl rfl ?_
                  refine AOps.sim okL rfl rfl ?_
                  refine AOps.nil ?_
                  refine seqQ_n ?_
                  refine AWp.condCase rfl (fun h => ?_) (fun h => ?_)
                  · refine AWp.seq ?_
                    refine AWp.region ?_
                    refine AOps.sim okL rfl rfl ?_
                    refine AOps.pln ?_; refine AOp.load okL rfl (.head _) rfl rfl rfl rfl ?_
                    refine AOps.sim okL rfl rfl ?_
                    refine AOps.pln ?_; focus (refine AOp.callP (v := ?_) rfl rfl rfl ?_ ?_; rotate_left; exact (refWithin_tr _ _ _))
                    refine AOps.sim okL rfl rfl ?_
                    refine AOps.nil ?_
                    refine AWp.ret ?_
                    refine blockQ_r ?_
                    refine seqQ_r ?_
                    refine bodyQ_r (by first | exact ResOk.one rfl rfl | exact ResOk.two rfl rfl rfl | exact ResOk.three rfl rfl rfl rfl | exact ResOk.none rfl) ?_; (simp_all [numM] <;> first | omega | (rw [Bool.eq_iff_iff]; simp <;> omega))
                  · refine AWp.seq ?_
                    refine AWp.region ?_
                    refine AOps.sim okL rfl rfl ?_
                    refine AOps.sim okL rfl rfl ?_
                    refine AOps.nil ?_
                    refine seqQ_n ?_
                    refine AWp.condCase rfl (fun h => ?_) (fun h => ?_)
                    · refine AWp.seq ?_
                      refine AWp.region ?_
                      refine AOps.sim okL rfl rfl ?_
                      refine AOps.pln ?_; refine AOp.load okL rfl (.head _) rfl rfl rfl rfl ?_
                      refine AOps.pln ?_; focus (refine AOp.callP (v := ?_) rfl rfl rfl ?_ ?_; rotate_left; exact (refWithin_tr _ _ _))
                      refine AOps.sim okL rfl rfl ?_
                      refine AOps.nil ?_
                      refine AWp.ret ?_
                      refine blockQ_r ?_
                      refine seqQ_r ?_
                      refine bodyQ_r (by first | exact ResOk.one rfl rfl | exact ResOk.two rfl rfl rfl | exact ResOk.three rfl rfl rfl rfl | exact ResOk.none rfl) ?_; (simp_all [numM] <;> first | omega | (rw [Bool.eq_iff_iff]; simp <;> omega))
                    · refine AWp.seq ?_
                      refine AWp.region ?_
                      refine AOps.sim okL rfl rfl ?_
                      refine AOps.sim okL rfl rfl ?_
                      refine AOps.nil ?_
                      refine seqQ_n ?_
                      refine AWp.condCase rfl (fun h => ?_) (fun h => ?_)
                      · refine AWp.seq ?_
                        refine AWp.region ?_
                        refine AOps.sim okL rfl rfl ?_
                        refine AOps.pln ?_; refine AOp.load okL rfl (.head _) rfl rfl rfl rfl ?_
                        refine AOps.pln ?_; focus (refine AOp.callP (v := ?_) rfl rfl rfl ?_ ?_; rotate_left; exact (refWithin_tr _ _ _))
                        refine AOps.sim okL rfl rfl ?_
                        refine AOps.nil ?_
                        refine AWp.ret ?_
                        refine blockQ_r ?_
                        refine seqQ_r ?_
                        refine bodyQ_r (by first | exact ResOk.one rfl rfl | exact ResOk.two rfl rfl rfl | exact ResOk.three rfl rfl rfl rfl | exact ResOk.none rfl) ?_; (simp_all [numM] <;> first | omega | (rw [Bool.eq_iff_iff]; simp <;> omega))
                      · refine AWp.skip ?_
                        refine AWp.seq ?_
                        refine AWp.region ?_
                        refine AOps.sim okL rfl rfl ?_
                        refine AOps.pln ?_; refine AOp.load okL rfl (.head _) rfl rfl rfl rfl ?_
                        refine AOps.sim okL rfl rfl ?_
                        refine AOps.sim okL rfl rfl ?_
                        refine AOps.nil ?_
                        refine AWp.ret ?_
                        refine bodyQ_r (by first | exact ResOk.one rfl rfl | exact ResOk.two rfl rfl rfl | exact ResOk.three rfl rfl rfl rfl | exact ResOk.none rfl) ?_; (simp_all [numM] <;> first | omega | (rw [Bool.eq_iff_iff]; simp <;> omega))
end Go.Proofs.Ytiaogfkkfoakpaa

namespace Go.Proofs.Ytiaogfkkfoakpaa
open Go Go.Abs
set_option linter.unusedVariables false
set_option maxRecDepth 100000
set_option linter.unusedSimpArgs false

theorem getB {l : List UInt8} {k : Nat} {y : UInt8} (h : l[k]? = some y) : (l.map byteC)[((k : Nat) : Int).toNat]? = some (byteC y) := by simp [h]
def nameM (s : List UInt8) : Bool := s.all (fun b => ltM b.toNat) && inM s.length 1 8
theorem patIsName_tr (s : List UInt8) : PTr Try.prog 82 [.str s] (.bool (nameM s)) := by
  refine PTr.of_body (N := 24) Try.func82 rfl rfl rfl ?_
  refine AWp.know (t := 0) rfl (Known.str s) fun hlen => ?_
  refine AWp.seq ?_
  refine AWp.region ?_
  refine AOps.sim okL rfl rfl ?_
  refine AOps.nil ?_
  refine AWp.seq ?_
  refine AWp.seq ?_
  refine AWp.region ?_
  refine AOps.sim okL rfl rfl ?_
  refine AOps.pln ?_; refine AOp.toBytes okL rfl rfl rfl rfl rfl rfl rfl ?_
  refine AOps.sim okL rfl rfl ?_
  refine AOps.sim okL rfl rfl ?_
  refine AOps.nil ?_
  refine AWp.block ?_
  refine AWp.loopM (α := Nat) (fun a => s.length - a) (fun a => [(0, .str s), (6, .ds (s.map byteC)), (7, i64 (s.map byteC).length), (8, i64 a)]) (fun _ => _)
    (fun a => a ≤ s.length ∧ (s.drop a).all (fun b => ltM b.toNat) = s.all (fun b => ltM b.toNat)) 0 ⟨Nat.zero_le _, rfl⟩ ?_ (List.Perm.refl _) ?_
  · simp only [AllIn]
    refine ⟨rfl, rfl, rfl, rfl, trivial⟩
  rintro k ⟨hk, hm⟩ ih
  refine AWp.seq ?_
  refine AWp.region ?_
  refine AOps.sim okL rfl rfl ?_
  refine AOps.nil ?_
  refine AWp.seq ?_
  first | refine AWp.condCase rfl (fun h => ?_) (fun h => ?_) | refine AWp.cond rfl (fun h => ?_) (fun h => ?_)
  · have h := of_decide_eq_true h
    simp only [List.length_map] at h
    obtain ⟨y, hy⟩ : ∃ y, s[k]? = some y := ⟨s[k], by simp [show k < s.length by omega]⟩
    rw [drop_get hy, List.all_cons] at hm
    refine AWp.skip ?_
    refine AWp.seq ?_
    refine AWp.block ?_
    refine AWp.seq ?_
    refine AWp.region ?_
    refine AOps.sim okL (sOp_idxD rfl rfl rfl rfl rfl (by omega) (getB hy) rfl) rfl ?_
    refine AOps.sim okL rfl rfl ?_
    refine AOps.sim okL rfl rfl ?_
    refine AOps.nil ?_
    refine AWp.seq ?_
    refine AWp.region ?_
    refine AOps.sim okL rfl rfl ?_
    refine AOps.pln ?_; focus (refine AOp.callP (v := ?_) rfl rfl rfl ?_ ?_; rotate_left; exact (patIsLetter_tr _))
    refine AOps.sim okL rfl rfl ?_
    refine AOps.nil ?_
    refine seqQ_n ?_
    first | refine AWp.condCase rfl (fun h2 => ?_) (fun h2 => ?_) | refine AWp.cond rfl (fun h2 => ?_) (fun h2 => ?_)
    · simp only [Bool.not_eq_true'] at h2
      rw [h2] at hm
      refine AWp.seq ?_
      refine AWp.region ?_
      refine AOps.sim okL rfl rfl ?_
      refine AOps.nil ?_
      refine AWp.ret ?_
      refine blockQ_r ?_
      refine seqQ_r ?_
      refine seqQ_r ?_
      refine blockQ_r ?_
      refine seqQ_r ?_
      refine bodyQ_r (by first | exact ResOk.one rfl rfl | exact ResOk.two rfl rfl rfl | exact ResOk.three rfl rfl rfl rfl | exact ResOk.none rfl) ?_
      rw [nameM, ← hm]; rfl
    · simp only [Bool.not_eq_false'] at h2
      rw [h2] at hm
      refine AWp.skip ?_
      refine AWp.region ?_
      refine AOps.sim okL rfl rfl ?_
      refine AOps.sim okL rfl rfl ?_
      refine AOps.nil ?_
      refine seqQ_n ?_
      refine AIn.nextN 0 (ih (k + 1) ⟨by omega, hm⟩ (by omega)) ?_ rfl
      refine ⟨rfl, rfl, rfl, ?_, trivial⟩
      exact congrArg some (nxt (by omega) hlen)
  · have h := of_decide_eq_false h
    simp only [List.length_map] at h
    rw [List.drop_eq_nil_of_le (by omega)] at hm
    refine AWp.exit ?_
    refine AWp.seq ?_
    refine AWp.region ?_
    refine AOps.sim okL rfl rfl ?_
    refine AOps.sim okL rfl rfl ?_
    refine AOps.sim okL rfl rfl ?_
    refine AOps.sim okL rfl rfl ?_
    refine AOps.guardCase rfl rfl rfl (fun h => ?_) (fun h => ?_)
    · refine AOps.simW okL rfl rfl rfl rfl ?_
      refine AOps.simW okL rfl rfl rfl rfl ?_
      refine AOps.simW okL rfl rfl rfl rfl ?_
      refine AOps.sim okL rfl rfl ?_
      refine AOps.sim okL rfl rfl ?_
      refine AOps.nil ?_
      refine AWp.ret ?_
      refine bodyQ_r (by first | exact ResOk.one rfl rfl | exact ResOk.two rfl rfl rfl | exact ResOk.three rfl rfl rfl rfl | exact ResOk.none rfl) ?_; simp_all [nameM, inM] <;> omega
    · refine AOps.unw rfl rfl rfl rfl ?_
      refine AOps.unw rfl rfl rfl rfl ?_
      refine AOps.unw rfl rfl rfl rfl ?_
      refine AOps.sim okL rfl rfl ?_
      refine AOps.sim okL rfl rfl ?_
      refine AOps.nil ?_
      refine AWp.ret ?_
      refine bodyQ_r (by first | exact ResOk.one rfl rfl | exact ResOk.two rfl rfl rfl | exact ResOk.three rfl rfl rfl rfl | exact ResOk.none rfl) ?_; simp_all [nameM, inM] <;> omega

theorem refIsName_tr (s : List UInt8) : PTr Try.prog 41 [.str s] (.bool (nameM s)) := by
  refine PTr.of_body (N := 18) Try.func41 rfl rfl rfl ?_
  refine AWp.know (t := 0) rfl (Known.str s) fun hlen => ?_
  refine AWp.seq ?_
  refine AWp.region ?_
  refine AOps.sim okL rfl rfl ?_
  refine AOps.nil ?_
  refine AWp.seq ?_
  refine AWp.seq ?_
  refine AWp.region ?_
  refine AOps.sim okL rfl rfl ?_
  refine AOps.nil ?_
  refine AWp.block ?_
  refine AWp.loopM (α := Nat) (fun a => s.length - a) (fun a => [(0, .str s), (3, i64 a)]) (fun _ => _)
    (fun a => a ≤ s.length ∧ (s.drop a).all (fun b => ltM b.toNat) = s.all (fun b => ltM b.toNat)) 0 ⟨Nat.zero_le _, rfl⟩ ?_ (List.Perm.refl _) ?_
  · simp only [AllIn]
    refine ⟨rfl, rfl, trivial⟩
  rintro k ⟨hk, hm⟩ ih
  refine AWp.seq ?_
  refine AWp.seq ?_
  refine AWp.region ?_
  refine AOps.sim okL rfl rfl ?_
  refine AOps.sim okL rfl rfl ?_
  refine AOps.sim okL rfl rfl ?_
  refine AOps.sim okL rfl rfl ?_
  refine AOps.nil ?_
  refine seqQ_n ?_
  first | refine AWp.condCase rfl (fun h => ?_) (fun h => ?_) | refine AWp.cond rfl (fun h => ?_) (fun h => ?_)
  · have h := of_decide_eq_true h
    obtain ⟨y, hy⟩ : ∃ y, s[k]? = some y := ⟨s[k], by simp [show k < s.length by omega]⟩
    rw [drop_get hy, List.all_cons] at hm
    refine AWp.skip ?_
    refine AWp.seq ?_
    refine AWp.block ?_
    refine AWp.seq ?_
    refine AWp.region ?_
    refine AOps.sim okL rfl rfl ?_
    refine AOps.sim okL rfl rfl ?_
    refine AOps.sim okL (sOp_idxS rfl rfl rfl rfl (by omega) (by simpa using hy)) rfl ?_
    refine AOps.pln ?_; focus (refine AOp.callP (v := ?_) rfl rfl rfl ?_ ?_; rotate_left; exact (refIsLetter_tr _))
    refine AOps.sim okL rfl rfl ?_
    refine AOps.nil ?_
    refine seqQ_n ?_
    first | refine AWp.condCase rfl (fun h2 => ?_) (fun h2 => ?_) | refine AWp.cond rfl (fun h2 => ?_) (fun h2 => ?_)
    · simp only [Bool.not_eq_true'] at h2
      rw [h2] at hm
      refine AWp.seq ?_
      refine AWp.region ?_
      refine AOps.sim okL rfl rfl ?_
      refine AOps.nil ?_
      refine AWp.ret ?_
      refine blockQ_r ?_
      refine seqQ_r ?_
      refine seqQ_r ?_
      refine blockQ_r ?_
      refine seqQ_r ?_
      refine bodyQ_r (by first | exact ResOk.one rfl rfl | exact ResOk.two rfl rfl rfl | exact ResOk.three rfl rfl rfl rfl | exact ResOk.none rfl) ?_
      rw [nameM, ← hm]; rfl
    · simp only [Bool.not_eq_false'] at h2
      rw [h2] at hm
      refine AWp.skip ?_
      refine AWp.region ?_
      refine AOps.sim okL rfl rfl ?_
      refine AOps.sim okL rfl rfl ?_
      refine AOps.sim okL rfl rfl ?_
      refine AOps.nil ?_
      refine seqQ_n ?_
      refine AIn.nextN 0 (ih (k + 1) ⟨by omega, hm⟩ (by omega)) ?_ rfl
      refine ⟨rfl, ?_, trivial⟩
      exact congrArg some (nxt (by omega) hlen)
  · have h := of_decide_eq_false h
    rw [List.drop_eq_nil_of_le (by omega)] at hm
    refine AWp.exit ?_
    refine AWp.seq ?_
    refine AWp.region ?_
    refine AOps.sim okL rfl rfl ?_
    refine AOps.sim okL rfl rfl ?_
    refine AOps.pln ?_; focus (refine AOp.callP (v := ?_) rfl rfl rfl ?_ ?_; rotate_left; exact (refWithin_tr _ _ _))
    refine AOps.sim okL rfl rfl ?_
    refine AOps.nil ?_
    refine AWp.ret ?_
    refine bodyQ_r (by first | exact ResOk.one rfl rfl | exact ResOk.two rfl rfl rfl | exact ResOk.three rfl rfl rfl rfl | exact ResOk.none rfl) ?_
    rw [nameM, ← hm]; rfl
end Go.Proofs.Ytiaogfkkfoakpaa

