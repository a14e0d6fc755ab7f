/- Walks of small functions. -/
import Derived.Test.YtiaogfkkfoakpaaWalkA
set_option linter.unusedVariables false
set_option linter.unusedSimpArgs false
namespace Go.Proofs.Ytiaogfkkfoakpaa
open Go Go.Abs
set_option linter.unusedVariables false
set_option maxRecDepth 100000
set_option linter.unusedSimpArgs false

def hiOk (p : Option Int) (lo : Int) : Bool := match p with | none => true | some h => decide (w64 (h + 1) < lo)
def setGo : Option Int → List (Int × Int) → Bool
  | _, [] => true
  | p, x :: l => (chM x.1 && (chM x.2 && (!decide (x.1 > x.2) && hiOk p x.1))) && setGo (some x.2) l
theorem setGo_cons (p : Option Int) (x : Int × Int) (l : List (Int × Int)) : setGo p (x :: l) = ((chM x.1 && (chM x.2 && (!decide (x.1 > x.2) && hiOk p x.1))) && setGo (some x.2) l) := rfl
def setM (l : List (Int × Int)) : Bool := setGo none l && inM l.length 1 40
def prevHi (l : List (Int × Int)) (k : Nat) : Option Int := match k with | 0 => none | k + 1 => (l[k]?).map (·.2)
theorem prevHi_next {l : List (Int × Int)} {k : Nat} {y : Int × Int} (h : l[k]? = some y) : prevHi l (k + 1) = some y.2 := by simp [prevHi, h]
theorem wrap_pred {k n : Nat} (h : k < n) (hn : n ≤ maxLen) : IntKind.i64.wrap (((k + 1 : Nat) : Int) - 1) = (k : Int) := by
  simp only [maxLen] at hn
  rw [IntKind.wrap_i64]; omega
theorem setGo_F {p : Option Int} {x : Int × Int} {l : List (Int × Int)} (h : chM x.1 = false ∨ chM x.2 = false ∨ x.1 > x.2 ∨ hiOk p x.1 = false) : setGo p (x :: l) = false := by
  rw [setGo_cons]; rcases h with h | h | h | h <;> simp [h]
theorem setGo_T {p : Option Int} {x : Int × Int} {l : List (Int × Int)} (h1 : chM x.1 = true) (h2 : chM x.2 = true) (h3 : ¬ x.1 > x.2) (h4 : hiOk p x.1 = true) : setGo p (x :: l) = setGo (some x.2) l := by
  rw [setGo_cons]; simp [h1, h2, h3, h4]
theorem hiOk_F {h lo : Int} (k : lo ≤ IntKind.i64.wrap (h + 1)) : hiOk (some h) lo = false := by
  simp only [hiOk, w64]; exact decide_eq_false (Int.not_lt.2 k)
theorem hiOk_T {h lo : Int} (k : ¬ lo ≤ IntKind.i64.wrap (h + 1)) : hiOk (some h) lo = true := by
  simp only [hiOk, w64]; exact decide_eq_true (Int.not_le.1 k)
set_option maxHeartbeats 1000000 in
theorem patIsSet_tr (l : List (Int × Int)) : PTr Try.prog 81 [.ds (l.map spanC)] (.bool (setM l)) := by
  refine PTr.of_body (N := 54) Try.func81 rfl rfl rfl ?_
  refine AWp.know (t := 0) rfl (Known.ds _) fun hlen => ?_
  rw [List.length_map] at hlen
  refine AWp.seq ?_
  refine AWp.region ?_
  refine AOps.sim okL rfl rfl ?_
  refine AOps.nil ?_
  refine AWp.seq ?_
  refine AWp.seq ?_
  refine AWp.region ?_
  refine AOps.sim okL rfl rfl ?_
  refine AOps.sim okL rfl rfl ?_
  refine AOps.sim okL rfl rfl ?_
  refine AOps.nil ?_
  refine AWp.block ?_
  refine AWp.loopM (α := Nat) (fun a => l.length - a) (fun a => [(0, .ds (l.map spanC)), (5, .ds (l.map spanC)), (6, i64 (l.map spanC).length), (7, i64 a)]) (fun _ => _)
    (fun a => a ≤ l.length ∧ setGo (prevHi l a) (l.drop a) = setGo none l) 0 ⟨Nat.zero_le _, rfl⟩ ?_ (List.Perm.refl _) ?_
  · simp only [AllIn]
    refine ⟨rfl, rfl, rfl, rfl, trivial⟩
  rintro k ⟨hk, hm⟩ ih
  refine AWp.seq ?_
  refine AWp.region ?_
  refine AOps.sim okL rfl rfl ?_
  refine AOps.nil ?_
  refine AWp.seq ?_
  first | refine AWp.condCase rfl (fun h => ?_) (fun h => ?_) | refine AWp.cond rfl (fun h => ?_) (fun h => ?_)
  · have h := of_decide_eq_true h
    simp only [List.length_map] at h
    obtain ⟨y, hy⟩ : ∃ y, l[k]? = some y := ⟨l[k], by simp [show k < l.length by omega]⟩
    rw [drop_get hy] at hm
    have nx := nxt (k := k) (n := l.length) (by omega) hlen
    cases k with
    | zero =>
      simp only [prevHi] at hm
      refine AWp.skip ?_
      refine AWp.seq ?_
      refine AWp.block ?_
      refine AWp.seq ?_
      refine AWp.region ?_
      refine AOps.sim okL rfl rfl ?_
      refine AOps.sim okL (sOp_idxD rfl rfl rfl rfl rfl (by omega) (getS hy) rfl) rfl ?_
      refine AOps.sim okL rfl rfl ?_
      refine AOps.pln ?_; refine AOp.alloc okL rfl rfl rfl ?_; intro _ _
      refine AOps.sim okL rfl rfl ?_
      refine AOps.pln ?_; refine AOp.store okL rfl rfl rfl (isVal_or rfl) rfl rfl rfl .here rfl rfl rfl ?_
      refine AOps.nil ?_
      refine AWp.seq ?_
      refine AWp.drawn okL hmix (by kernel_rfl) ?_
      refine Pl.pure rfl rfl ?_
      refine Pl.quiet rfl rfl rfl (AOp.load okL rfl (.head _) rfl rfl rfl rfl (AOps.nil (Qn_n ⟨rfl, rfl⟩))) ?_
      focus (refine Pl.quiet (v := ?_) rfl rfl rfl (AOp.callP rfl rfl rfl ?_ (AOps.nil (Qn_n ⟨rfl, rfl⟩))) ?_; rotate_left; exact (patIsChar_tr _))
      refine Pl.pure rfl rfl ?_
      refine Pl.pure rfl rfl ?_
      refine Pl.guardCase rfl rfl (fun h => ?_) (fun h => ?_)
      · refine Pl.skip rfl rfl ?_
        refine Pl.skip rfl rfl ?_
        refine Pl.skip rfl rfl ?_
        refine Pl.skip rfl rfl ?_
        refine Pl.pure rfl rfl ?_
        refine Pl.pure rfl rfl ?_
        refine Pl.skip rfl rfl ?_
        refine Pl.skip rfl rfl ?_
        refine Pl.skip rfl rfl ?_
        refine Pl.skip rfl rfl ?_
        refine Pl.skip rfl rfl ?_
        refine Pl.pure rfl rfl ?_
        refine Pl.pure rfl rfl ?_
        refine Pl.skip rfl rfl ?_
        refine Pl.skip rfl rfl ?_
        refine Pl.skip rfl rfl ?_
        refine Pl.skip rfl rfl ?_
        refine Pl.skip rfl rfl ?_
        refine Pl.skip rfl rfl ?_
        refine Pl.skip rfl rfl ?_
        refine Pl.skip rfl rfl ?_
        refine Pl.skip rfl rfl ?_
        refine Pl.skip rfl rfl ?_
        refine Pl.skip rfl rfl ?_
        refine Pl.skip rfl rfl ?_
        refine Pl.skip rfl rfl ?_
        refine Pl.skip rfl rfl ?_
        refine Pl.pure rfl rfl ?_
        refine Pl.nil ?_
        refine AWp.condT rfl ?_
        refine AWp.seq ?_
        refine AWp.region ?_
        refine AOps.sim okL rfl rfl ?_
        refine AOps.nil ?_
        refine AWp.ret ?_
        refine blockQ_r ?_
        refine seqQ_r ?_
        refine seqQ_r ?_
        refine blockQ_r ?_
        refine seqQ_r ?_
        first | (refine bodyQ_r (by first | exact ResOk.one rfl rfl | exact ResOk.two rfl rfl rfl | exact ResOk.three rfl rfl rfl rfl | exact ResOk.none rfl) ?_; rw [setM, ← hm, setGo_F (by simp_all)]; rfl) | (refine AIn.nextN 1 (ih (0 + 1) (⟨by omega, by rw [prevHi_next hy, ← hm, setGo_T (by simp_all) (by simp_all) (by simp_all) rfl]⟩) (by first | omega | (simp only; omega))) ?_ rfl; repeat (first | exact trivial | refine ⟨rfl, ?_⟩ | refine ⟨congrArg some nx, ?_⟩))
      · refine Pl.pureW rfl rfl rfl ?_
        refine Pl.quiet rfl rfl rfl (AOp.load okL rfl (.head _) rfl rfl rfl rfl (AOps.nil (Qn_n ⟨rfl, rfl⟩))) ?_
        focus (refine Pl.quiet (v := ?_) rfl rfl rfl (AOp.callP rfl rfl rfl ?_ (AOps.nil (Qn_n ⟨rfl, rfl⟩))) ?_; rotate_left; exact (patIsChar_tr _))
        refine Pl.pureW rfl rfl rfl ?_
        refine Pl.pure rfl rfl ?_
        refine Pl.pure rfl rfl ?_
        refine Pl.guardCase rfl rfl (fun h => ?_) (fun h => ?_)
        · refine Pl.skip rfl rfl ?_
          refine Pl.skip rfl rfl ?_
          refine Pl.skip rfl rfl ?_
          refine Pl.skip rfl rfl ?_
          refine Pl.skip rfl rfl ?_
          refine Pl.pure rfl rfl ?_
          refine Pl.pure rfl rfl ?_
          refine Pl.skip rfl rfl ?_
          refine Pl.skip rfl rfl ?_
          refine Pl.skip rfl rfl ?_
          refine Pl.skip rfl rfl ?_
          refine Pl.skip rfl rfl ?_
          refine Pl.skip rfl rfl ?_
          refine Pl.skip rfl rfl ?_
          refine Pl.skip rfl rfl ?_
          refine Pl.skip rfl rfl ?_
          refine Pl.skip rfl rfl ?_
          refine Pl.skip rfl rfl ?_
          refine Pl.skip rfl rfl ?_
          refine Pl.skip rfl rfl ?_
          refine Pl.skip rfl rfl ?_
          refine Pl.pure rfl rfl ?_
          refine Pl.nil ?_
          refine AWp.condT rfl ?_
          refine AWp.seq ?_
          refine AWp.region ?_
          refine AOps.sim okL rfl rfl ?_
          refine AOps.nil ?_
          refine AWp.ret ?_
          refine blockQ_r ?_
          refine seqQ_r ?_
          refine seqQ_r ?_
          refine blockQ_r ?_
          refine seqQ_r ?_
          first | (refine bodyQ_r (by first | exact ResOk.one rfl rfl | exact ResOk.two rfl rfl rfl | exact ResOk.three rfl rfl rfl rfl | exact ResOk.none rfl) ?_; rw [setM, ← hm, setGo_F (by simp_all)]; rfl) | (refine AIn.nextN 1 (ih (0 + 1) (⟨by omega, by rw [prevHi_next hy, ← hm, setGo_T (by simp_all) (by simp_all) (by simp_all) rfl]⟩) (by first | omega | (simp only; omega))) ?_ rfl; repeat (first | exact trivial | refine ⟨rfl, ?_⟩ | refine ⟨congrArg some nx, ?_⟩))
        · refine Pl.pureW rfl rfl rfl ?_
          refine Pl.quiet rfl rfl rfl (AOp.load okL rfl (.head _) rfl rfl rfl rfl (AOps.nil (Qn_n ⟨rfl, rfl⟩))) ?_
          refine Pl.pureW rfl rfl rfl ?_
          refine Pl.quiet rfl rfl rfl (AOp.load okL rfl (.head _) rfl rfl rfl rfl (AOps.nil (Qn_n ⟨rfl, rfl⟩))) ?_
          refine Pl.pureW rfl rfl rfl ?_
          refine Pl.pure rfl rfl ?_
          refine Pl.pure rfl rfl ?_
          refine Pl.guardCase rfl rfl (fun h => ?_) (fun h => ?_)
          · refine Pl.skip rfl rfl ?_
            refine Pl.skip rfl rfl ?_
            refine Pl.skip rfl rfl ?_
            refine Pl.skip rfl rfl ?_
            refine Pl.skip rfl rfl ?_
            refine Pl.skip rfl rfl ?_
            refine Pl.skip rfl rfl ?_
            refine Pl.skip rfl rfl ?_
            refine Pl.skip rfl rfl ?_
            refine Pl.skip rfl rfl ?_
            refine Pl.skip rfl rfl ?_
            refine Pl.skip rfl rfl ?_
            refine Pl.skip rfl rfl ?_
            refine Pl.skip rfl rfl ?_
            refine Pl.pure rfl rfl ?_
            refine Pl.nil ?_
            refine AWp.condT rfl ?_
            refine AWp.seq ?_
            refine AWp.region ?_
            refine AOps.sim okL rfl rfl ?_
            refine AOps.nil ?_
            refine AWp.ret ?_
            refine blockQ_r ?_
            refine seqQ_r ?_
            refine seqQ_r ?_
            refine blockQ_r ?_
            refine seqQ_r ?_
            first | (refine bodyQ_r (by first | exact ResOk.one rfl rfl | exact ResOk.two rfl rfl rfl | exact ResOk.three rfl rfl rfl rfl | exact ResOk.none rfl) ?_; rw [setM, ← hm, setGo_F (by simp_all)]; rfl) | (refine AIn.nextN 1 (ih (0 + 1) (⟨by omega, by rw [prevHi_next hy, ← hm, setGo_T (by simp_all) (by simp_all) (by simp_all) rfl]⟩) (by first | omega | (simp only; omega))) ?_ rfl; repeat (first | exact trivial | refine ⟨rfl, ?_⟩ | refine ⟨congrArg some nx, ?_⟩))
          · refine Pl.pureW rfl rfl rfl ?_
            refine Pl.pureW rfl rfl rfl ?_
            refine Pl.pureW rfl rfl rfl ?_
            refine Pl.skip rfl rfl ?_
            refine Pl.skip rfl rfl ?_
            refine Pl.skip rfl rfl ?_
            refine Pl.skip rfl rfl ?_
            refine Pl.skip rfl rfl ?_
            refine Pl.skip rfl rfl ?_
            refine Pl.skip rfl rfl ?_
            refine Pl.skip rfl rfl ?_
            refine Pl.skip rfl rfl ?_
            refine Pl.skip rfl rfl ?_
            refine Pl.pureW rfl rfl rfl ?_
            refine Pl.pure rfl rfl ?_
            refine Pl.nil ?_
            refine AWp.condF rfl ?_
            refine AWp.skip ?_
            refine AWp.region ?_
            refine AOps.sim okL rfl rfl ?_
            refine AOps.sim okL rfl rfl ?_
            refine AOps.nil ?_
            refine seqQ_n ?_
            first | (refine bodyQ_r (by first | exact ResOk.one rfl rfl | exact ResOk.two rfl rfl rfl | exact ResOk.three rfl rfl rfl rfl | exact ResOk.none rfl) ?_; rw [setM, ← hm, setGo_F (by simp_all)]; rfl) | (refine AIn.nextN 1 (ih (0 + 1) (⟨by omega, by rw [prevHi_next hy, ← hm, setGo_T (by simp_all) (by simp_all) (by simp_all) rfl]⟩) (by first | omega | (simp only; omega))) ?_ rfl; repeat (first | exact trivial | refine ⟨rfl, ?_⟩ | refine ⟨congrArg some nx, ?_⟩))
    | succ k =>
      obtain ⟨z, hz⟩ : ∃ z, l[k]? = some z := ⟨l[k], by simp [show k < l.length by omega]⟩
      simp only [prevHi, hz, Option.map_some] at hm
      have hp := wrap_pred (k := k) (by omega) hlen
      refine AWp.skip ?_
      refine AWp.seq ?_
      refine AWp.block ?_
      refine AWp.seq ?_
      refine AWp.region ?_
      refine AOps.sim okL rfl rfl ?_
      refine AOps.sim okL (sOp_idxD rfl rfl rfl rfl rfl (by omega) (getS hy) rfl) rfl ?_
      refine AOps.sim okL rfl rfl ?_
      refine AOps.pln ?_; refine AOp.alloc okL rfl rfl rfl ?_; intro _ _
      refine AOps.sim okL rfl rfl ?_
      refine AOps.pln ?_; refine AOp.store okL rfl rfl rfl (isVal_or rfl) rfl rfl rfl .here rfl rfl rfl ?_
      refine AOps.nil ?_
      refine AWp.seq ?_
      refine AWp.drawn okL hmix (by kernel_rfl) ?_
      refine Pl.pure rfl rfl ?_
      refine Pl.quiet rfl rfl rfl (AOp.load okL rfl (.head _) rfl rfl rfl rfl (AOps.nil (Qn_n ⟨rfl, rfl⟩))) ?_
      focus (refine Pl.quiet (v := ?_) rfl rfl rfl (AOp.callP rfl rfl rfl ?_ (AOps.nil (Qn_n ⟨rfl, rfl⟩))) ?_; rotate_left; exact (patIsChar_tr _))
      refine Pl.pure rfl rfl ?_
      refine Pl.pure rfl rfl ?_
      refine Pl.guardCase rfl rfl (fun h => ?_) (fun h => ?_)
      · refine Pl.skip rfl rfl ?_
        refine Pl.skip rfl rfl ?_
        refine Pl.skip rfl rfl ?_
        refine Pl.skip rfl rfl ?_
        refine Pl.pure rfl rfl ?_
        refine Pl.pure rfl rfl ?_
        refine Pl.skip rfl rfl ?_
        refine Pl.skip rfl rfl ?_
        refine Pl.skip rfl rfl ?_
        refine Pl.skip rfl rfl ?_
        refine Pl.skip rfl rfl ?_
        refine Pl.pure rfl rfl ?_
        refine Pl.pure rfl rfl ?_
        refine Pl.skip rfl rfl ?_
        refine Pl.skip rfl rfl ?_
        refine Pl.skip rfl rfl ?_
        refine Pl.skip rfl rfl ?_
        refine Pl.skip rfl rfl ?_
        refine Pl.skip rfl rfl ?_
        refine Pl.skip rfl rfl ?_
        refine Pl.skip rfl rfl ?_
        refine Pl.skip rfl rfl ?_
        refine Pl.skip rfl rfl ?_
        refine Pl.skip rfl rfl ?_
        refine Pl.skip rfl rfl ?_
        refine Pl.skip rfl rfl ?_
        refine Pl.skip rfl rfl ?_
        refine Pl.pure rfl rfl ?_
        refine Pl.nil ?_
        refine AWp.condT rfl ?_
        refine AWp.seq ?_
        refine AWp.region ?_
        refine AOps.sim okL rfl rfl ?_
        refine AOps.nil ?_
        refine AWp.ret ?_
        refine blockQ_r ?_
        refine seqQ_r ?_
        refine seqQ_r ?_
        refine blockQ_r ?_
        refine seqQ_r ?_
        first | (refine bodyQ_r (by first | exact ResOk.one rfl rfl | exact ResOk.two rfl rfl rfl | exact ResOk.three rfl rfl rfl rfl | exact ResOk.none rfl) ?_; rw [setM, ← hm, setGo_F (by first | (simp_all; done) | exact .inr (.inr (.inr (hiOk_F (by simp_all)))))]; rfl) | (refine AIn.nextN 1 (ih (k + 1 + 1) (⟨by omega, by rw [prevHi_next hy, ← hm, setGo_T (by simp_all) (by simp_all) (by simp_all) (hiOk_T (by simp_all))]⟩) (by first | omega | (simp only; omega))) ?_ rfl; repeat (first | exact trivial | refine ⟨rfl, ?_⟩ | refine ⟨congrArg some nx, ?_⟩)) | (exfalso; clear ih; simp at *; omega)
      · refine Pl.pureW rfl rfl rfl ?_
        refine Pl.quiet rfl rfl rfl (AOp.load okL rfl (.head _) rfl rfl rfl rfl (AOps.nil (Qn_n ⟨rfl, rfl⟩))) ?_
        focus (refine Pl.quiet (v := ?_) rfl rfl rfl (AOp.callP rfl rfl rfl ?_ (AOps.nil (Qn_n ⟨rfl, rfl⟩))) ?_; rotate_left; exact (patIsChar_tr _))
        refine Pl.pureW rfl rfl rfl ?_
        refine Pl.pure rfl rfl ?_
        refine Pl.pure rfl rfl ?_
        refine Pl.guardCase rfl rfl (fun h => ?_) (fun h => ?_)
        · refine Pl.skip rfl rfl ?_
          refine Pl.skip rfl rfl ?_
          refine Pl.skip rfl rfl ?_
          refine Pl.skip rfl rfl ?_
          refine Pl.skip rfl rfl ?_
          refine Pl.pure rfl rfl ?_
          refine Pl.pure rfl rfl ?_
          refine Pl.skip rfl rfl ?_
          refine Pl.skip rfl rfl ?_
          refine Pl.skip rfl rfl ?_
          refine Pl.skip rfl rfl ?_
          refine Pl.skip rfl rfl ?_
          refine Pl.skip rfl rfl ?_
          refine Pl.skip rfl rfl ?_
          refine Pl.skip rfl rfl ?_
          refine Pl.skip rfl rfl ?_
          refine Pl.skip rfl rfl ?_
          refine Pl.skip rfl rfl ?_
          refine Pl.skip rfl rfl ?_
          refine Pl.skip rfl rfl ?_
          refine Pl.skip rfl rfl ?_
          refine Pl.pure rfl rfl ?_
          refine Pl.nil ?_
          refine AWp.condT rfl ?_
          refine AWp.seq ?_
          refine AWp.region ?_
          refine AOps.sim okL rfl rfl ?_
          refine AOps.nil ?_
          refine AWp.ret ?_
          refine blockQ_r ?_
          refine seqQ_r ?_
          refine seqQ_r ?_
          refine blockQ_r ?_
          refine seqQ_r ?_
          first | (refine bodyQ_r (by first | exact ResOk.one rfl rfl | exact ResOk.two rfl rfl rfl | exact ResOk.three rfl rfl rfl rfl | exact ResOk.none rfl) ?_; rw [setM, ← hm, setGo_F (by first | (simp_all; done) | exact .inr (.inr (.inr (hiOk_F (by simp_all)))))]; rfl) | (refine AIn.nextN 1 (ih (k + 1 + 1) (⟨by omega, by rw [prevHi_next hy, ← hm, setGo_T (by simp_all) (by simp_all) (by simp_all) (hiOk_T (by simp_all))]⟩) (by first | omega | (simp only; omega))) ?_ rfl; repeat (first | exact trivial | refine ⟨rfl, ?_⟩ | refine ⟨congrArg some nx, ?_⟩)) | (exfalso; clear ih; simp at *; omega)
        · refine Pl.pureW rfl rfl rfl ?_
          refine Pl.quiet rfl rfl rfl (AOp.load okL rfl (.head _) rfl rfl rfl rfl (AOps.nil (Qn_n ⟨rfl, rfl⟩))) ?_
          refine Pl.pureW rfl rfl rfl ?_
          refine Pl.quiet rfl rfl rfl (AOp.load okL rfl (.head _) rfl rfl rfl rfl (AOps.nil (Qn_n ⟨rfl, rfl⟩))) ?_
          refine Pl.pureW rfl rfl rfl ?_
          refine Pl.pure rfl rfl ?_
          refine Pl.pure rfl rfl ?_
          refine Pl.guardCase rfl rfl (fun h => ?_) (fun h => ?_)
          · refine Pl.skip rfl rfl ?_
            refine Pl.skip rfl rfl ?_
            refine Pl.skip rfl rfl ?_
            refine Pl.skip rfl rfl ?_
            refine Pl.skip rfl rfl ?_
            refine Pl.skip rfl rfl ?_
            refine Pl.skip rfl rfl ?_
            refine Pl.skip rfl rfl ?_
            refine Pl.skip rfl rfl ?_
            refine Pl.skip rfl rfl ?_
            refine Pl.skip rfl rfl ?_
            refine Pl.skip rfl rfl ?_
            refine Pl.skip rfl rfl ?_
            refine Pl.skip rfl rfl ?_
            refine Pl.pure rfl rfl ?_
            refine Pl.nil ?_
            refine AWp.condT rfl ?_
            refine AWp.seq ?_
            refine AWp.region ?_
            refine AOps.sim okL rfl rfl ?_
            refine AOps.nil ?_
            refine AWp.ret ?_
            refine blockQ_r ?_
            refine seqQ_r ?_
            refine seqQ_r ?_
            refine blockQ_r ?_
            refine seqQ_r ?_
            first | (refine bodyQ_r (by first | exact ResOk.one rfl rfl | exact ResOk.two rfl rfl rfl | exact ResOk.three rfl rfl rfl rfl | exact ResOk.none rfl) ?_; rw [setM, ← hm, setGo_F (by first | (simp_all; done) | exact .inr (.inr (.inr (hiOk_F (by simp_all)))))]; rfl) | (refine AIn.nextN 1 (ih (k + 1 + 1) (⟨by omega, by rw [prevHi_next hy, ← hm, setGo_T (by simp_all) (by simp_all) (by simp_all) (hiOk_T (by simp_all))]⟩) (by first | omega | (simp only; omega))) ?_ rfl; repeat (first | exact trivial | refine ⟨rfl, ?_⟩ | refine ⟨congrArg some nx, ?_⟩)) | (exfalso; clear ih; simp at *; omega)
          · refine Pl.pureW rfl rfl rfl ?_
            refine Pl.pureW rfl rfl rfl ?_
            refine Pl.pureW rfl rfl rfl ?_
            refine Pl.guardCase rfl rfl (fun h => ?_) (fun h => ?_)
            · refine Pl.pureW rfl rfl rfl ?_
              refine Pl.quiet rfl rfl rfl (AOp.load okL rfl (.head _) rfl rfl rfl rfl (AOps.nil (Qn_n ⟨rfl, rfl⟩))) ?_
              refine Pl.pureW rfl rfl rfl ?_
              refine Pl.pureW rfl rfl rfl ?_
              refine Pl.pureW rfl rfl rfl ?_
              refine Pl.pureW rfl rfl (sOp_idxD rfl rfl rfl rfl rfl (by rw [hp]; omega) (by rw [hp]; exact getS hz) rfl) ?_
              refine Pl.pureW rfl rfl rfl ?_
              refine Pl.pureW rfl rfl rfl ?_
              refine Pl.pureW rfl rfl rfl ?_
              refine Pl.pureW rfl rfl rfl ?_
              refine Pl.pureW rfl rfl rfl ?_
              refine Pl.pure rfl rfl ?_
              refine Pl.nil ?_
              refine seqQ_n ?_
              refine AWp.condCase rfl (fun h => ?_) (fun h => ?_)
              · refine AWp.seq ?_
                refine AWp.region ?_
                refine AOps.sim okL rfl rfl ?_
                refine AOps.nil ?_
                refine AWp.ret ?_
                refine blockQ_r ?_
                refine seqQ_r ?_
                refine seqQ_r ?_
                refine blockQ_r ?_
                refine seqQ_r ?_
                first | (refine bodyQ_r (by first | exact ResOk.one rfl rfl | exact ResOk.two rfl rfl rfl | exact ResOk.three rfl rfl rfl rfl | exact ResOk.none rfl) ?_; rw [setM, ← hm, setGo_F (by first | (simp_all; done) | exact .inr (.inr (.inr (hiOk_F (by simp_all)))))]; rfl) | (refine AIn.nextN 1 (ih (k + 1 + 1) (⟨by omega, by rw [prevHi_next hy, ← hm, setGo_T (by simp_all) (by simp_all) (by simp_all) (hiOk_T (by simp_all))]⟩) (by first | omega | (simp only; omega))) ?_ rfl; repeat (first | exact trivial | refine ⟨rfl, ?_⟩ | refine ⟨congrArg some nx, ?_⟩)) | (exfalso; clear ih; simp at *; omega)
              · refine AWp.skip ?_
                refine AWp.region ?_
                refine AOps.sim okL rfl rfl ?_
                refine AOps.sim okL rfl rfl ?_
                refine AOps.nil ?_
                refine seqQ_n ?_
                first | (refine bodyQ_r (by first | exact ResOk.one rfl rfl | exact ResOk.two rfl rfl rfl | exact ResOk.three rfl rfl rfl rfl | exact ResOk.none rfl) ?_; rw [setM, ← hm, setGo_F (by first | (simp_all; done) | exact .inr (.inr (.inr (hiOk_F (by simp_all)))))]; rfl) | (refine AIn.nextN 1 (ih (k + 1 + 1) (⟨by omega, by rw [prevHi_next hy, ← hm, setGo_T (by simp_all) (by simp_all) (by simp_all) (hiOk_T (by simp_all))]⟩) (by first | omega | (simp only; omega))) ?_ rfl; repeat (first | exact trivial | refine ⟨rfl, ?_⟩ | refine ⟨congrArg some nx, ?_⟩)) | (exfalso; clear ih; simp at *; omega)
            · refine Pl.skip rfl rfl ?_
              refine Pl.skip rfl rfl ?_
              refine Pl.skip rfl rfl ?_
              refine Pl.skip rfl rfl ?_
              refine Pl.skip rfl rfl ?_
              refine Pl.skip rfl rfl ?_
              refine Pl.skip rfl rfl ?_
              refine Pl.skip rfl rfl ?_
              refine Pl.skip rfl rfl ?_
              refine Pl.skip rfl rfl ?_
              refine Pl.pureW rfl rfl rfl ?_
              refine Pl.pure rfl rfl ?_
              refine Pl.nil ?_
              refine AWp.condF rfl ?_
              refine AWp.skip ?_
              refine AWp.region ?_
              refine AOps.sim okL rfl rfl ?_
              refine AOps.sim okL rfl rfl ?_
              refine AOps.nil ?_
              refine seqQ_n ?_
              first | (refine bodyQ_r (by first | exact ResOk.one rfl rfl | exact ResOk.two rfl rfl rfl | exact ResOk.three rfl rfl rfl rfl | exact ResOk.none rfl) ?_; rw [setM, ← hm, setGo_F (by first | (simp_all; done) | exact .inr (.inr (.inr (hiOk_F (by simp_all)))))]; rfl) | (refine AIn.nextN 1 (ih (k + 1 + 1) (⟨by omega, by rw [prevHi_next hy, ← hm, setGo_T (by simp_all) (by simp_all) (by simp_all) (hiOk_T (by simp_all))]⟩) (by first | omega | (simp only; omega))) ?_ rfl; repeat (first | exact trivial | refine ⟨rfl, ?_⟩ | refine ⟨congrArg some nx, ?_⟩)) | (exfalso; clear ih; simp at *; omega)
  · have h := of_decide_eq_false h
    simp only [List.length_map] at h
    rw [List.drop_eq_nil_of_le (by omega)] at hm
    refine AWp.exit ?_
    refine AWp.seq ?_
    refine AWp.region ?_
    refine AOps.sim okL rfl rfl ?_
    refine AOps.sim okL rfl rfl ?_
    refine AOps.sim okL rfl rfl ?_
    refine AOps.sim okL rfl rfl ?_
    refine AOps.guardCase rfl rfl rfl (fun h => ?_) (fun h => ?_)
    · refine AOps.simW okL rfl rfl rfl rfl ?_
      refine AOps.simW okL rfl rfl rfl rfl ?_
      refine AOps.simW okL rfl rfl rfl rfl ?_
      refine AOps.sim okL rfl rfl ?_
      refine AOps.sim okL rfl rfl ?_
      refine AOps.nil ?_
      refine AWp.ret ?_
      refine bodyQ_r (by first | exact ResOk.one rfl rfl | exact ResOk.two rfl rfl rfl | exact ResOk.three rfl rfl rfl rfl | exact ResOk.none rfl) ?_; simp_all [setM, inM, setGo] <;> omega
    · refine AOps.unw rfl rfl rfl rfl ?_
      refine AOps.unw rfl rfl rfl rfl ?_
      refine AOps.unw rfl rfl rfl rfl ?_
      refine AOps.sim okL rfl rfl ?_
      refine AOps.sim okL rfl rfl ?_
      refine AOps.nil ?_
      refine AWp.ret ?_
      refine bodyQ_r (by first | exact ResOk.one rfl rfl | exact ResOk.two rfl rfl rfl | exact ResOk.three rfl rfl rfl rfl | exact ResOk.none rfl) ?_; simp_all [setM, inM, setGo] <;> omega
end Go.Proofs.Ytiaogfkkfoakpaa

namespace Go.Proofs.Ytiaogfkkfoakpaa
open Go Go.Abs
set_option linter.unusedVariables false
set_option maxRecDepth 100000
set_option linter.unusedSimpArgs false

set_option maxHeartbeats 1000000 in
theorem refIsSet_tr (l : List (Int × Int)) : PTr Try.prog 42 [.ds (l.map spanC)] (.bool (setM l)) := by
  refine PTr.of_body (N := 61) Try.func42 rfl rfl rfl ?_
  refine AWp.know (t := 0) rfl (Known.ds _) fun hlen => ?_
  rw [List.length_map] at hlen
  refine AWp.seq ?_
  refine AWp.region ?_
  refine AOps.sim okL rfl rfl ?_
  refine AOps.nil ?_
  refine AWp.seq ?_
  refine AWp.seq ?_
  refine AWp.region ?_
  refine AOps.sim okL rfl rfl ?_
  refine AOps.nil ?_
  refine AWp.block ?_
  refine AWp.loopM (α := Nat) (fun a => l.length - a) (fun a => [(0, .ds (l.map spanC)), (3, i64 a)]) (fun _ => _)
    (fun a => a ≤ l.length ∧ setGo (prevHi l a) (l.drop a) = setGo none l) 0 ⟨Nat.zero_le _, rfl⟩ ?_ (List.Perm.refl _) ?_
  · simp only [AllIn]
    refine ⟨rfl, rfl, trivial⟩
  rintro k ⟨hk, hm⟩ ih
  refine AWp.seq ?_
  refine AWp.seq ?_
  refine AWp.region ?_
  refine AOps.sim okL rfl rfl ?_
  refine AOps.sim okL rfl rfl ?_
  refine AOps.sim okL rfl rfl ?_
  refine AOps.sim okL rfl rfl ?_
  refine AOps.nil ?_
  refine seqQ_n ?_
  first | refine AWp.condCase rfl (fun h => ?_) (fun h => ?_) | refine AWp.cond rfl (fun h => ?_) (fun h => ?_)
  · have h := of_decide_eq_true h
    simp only [List.length_map] at h
    obtain ⟨y, hy⟩ : ∃ y, l[k]? = some y := ⟨l[k], by simp [show k < l.length by omega]⟩
    rw [drop_get hy] at hm
    have nx := nxt (k := k) (n := l.length) (by omega) hlen
    cases k with
    | zero =>
      simp only [prevHi] at hm
      refine AWp.skip ?_
      refine AWp.seq ?_
      refine AWp.block ?_
      refine AWp.seq ?_
      refine AWp.drawn okL hmix (by kernel_rfl) ?_
      refine Pl.pure rfl rfl ?_
      refine Pl.pure rfl rfl ?_
      refine Pl.pure rfl (sOp_idxD rfl rfl rfl rfl rfl (by omega) (getS hy) rfl) ?_
      refine Pl.pure rfl rfl ?_
      refine Pl.pure rfl rfl ?_
      focus (refine Pl.quiet (v := ?_) rfl rfl rfl (AOp.callP rfl rfl rfl ?_ (AOps.nil (Qn_n ⟨rfl, rfl⟩))) ?_; rotate_left; exact (refIsChar_tr _))
      refine Pl.pure rfl rfl ?_
      refine Pl.pure rfl rfl ?_
      refine Pl.guardCase rfl rfl (fun h => ?_) (fun h => ?_)
      · refine Pl.skip rfl rfl ?_
        refine Pl.skip rfl rfl ?_
        refine Pl.skip rfl rfl ?_
        refine Pl.skip rfl rfl ?_
        refine Pl.skip rfl rfl ?_
        refine Pl.skip rfl rfl ?_
        refine Pl.skip rfl rfl ?_
        refine Pl.pure rfl rfl ?_
        refine Pl.pure rfl rfl ?_
        refine Pl.skip rfl rfl ?_
        refine Pl.skip rfl rfl ?_
        refine Pl.skip rfl rfl ?_
        refine Pl.skip rfl rfl ?_
        refine Pl.skip rfl rfl ?_
        refine Pl.skip rfl rfl ?_
        refine Pl.skip rfl rfl ?_
        refine Pl.skip rfl rfl ?_
        refine Pl.skip rfl rfl ?_
        refine Pl.skip rfl rfl ?_
        refine Pl.skip rfl rfl ?_
        refine Pl.pure rfl rfl ?_
        refine Pl.pure rfl rfl ?_
        refine Pl.skip rfl rfl ?_
        refine Pl.skip rfl rfl ?_
        refine Pl.skip rfl rfl ?_
        refine Pl.skip rfl rfl ?_
        refine Pl.skip rfl rfl ?_
        refine Pl.skip rfl rfl ?_
        refine Pl.skip rfl rfl ?_
        refine Pl.skip rfl rfl ?_
        refine Pl.skip rfl rfl ?_
        refine Pl.skip rfl rfl ?_
        refine Pl.skip rfl rfl ?_
        refine Pl.skip rfl rfl ?_
        refine Pl.skip rfl rfl ?_
        refine Pl.skip rfl rfl ?_
        refine Pl.skip rfl rfl ?_
        refine Pl.skip rfl rfl ?_
        refine Pl.skip rfl rfl ?_
        refine Pl.pure rfl rfl ?_
        refine Pl.nil ?_
        refine AWp.condT rfl ?_
        refine AWp.seq ?_
        refine AWp.region ?_
        refine AOps.sim okL rfl rfl ?_
        refine AOps.nil ?_
        refine AWp.ret ?_
        refine blockQ_r ?_
        refine seqQ_r ?_
        refine seqQ_r ?_
        refine blockQ_r ?_
        refine seqQ_r ?_
        first | (refine bodyQ_r (by first | exact ResOk.one rfl rfl | exact ResOk.two rfl rfl rfl | exact ResOk.three rfl rfl rfl rfl | exact ResOk.none rfl) ?_; rw [setM, ← hm, setGo_F (by simp_all)]; rfl) | (refine AIn.nextN 0 (ih (0 + 1) (⟨by omega, by rw [prevHi_next hy, ← hm, setGo_T (by simp_all) (by simp_all) (by simp_all) rfl]⟩) (by first | omega | (simp only; omega))) ?_ rfl; repeat (first | exact trivial | refine ⟨rfl, ?_⟩ | refine ⟨congrArg some nx, ?_⟩))
      · refine Pl.pureW rfl rfl rfl ?_
        refine Pl.pureW rfl rfl rfl ?_
        refine Pl.pureW rfl rfl (sOp_idxD rfl rfl rfl rfl rfl (by omega) (getS hy) rfl) ?_
        refine Pl.pureW rfl rfl rfl ?_
        refine Pl.pureW rfl rfl rfl ?_
        focus (refine Pl.quiet (v := ?_) rfl rfl rfl (AOp.callP rfl rfl rfl ?_ (AOps.nil (Qn_n ⟨rfl, rfl⟩))) ?_; rotate_left; exact (refIsChar_tr _))
        refine Pl.pureW rfl rfl rfl ?_
        refine Pl.pure rfl rfl ?_
        refine Pl.pure rfl rfl ?_
        refine Pl.guardCase rfl rfl (fun h => ?_) (fun h => ?_)
        · refine Pl.skip rfl rfl ?_
          refine Pl.skip rfl rfl ?_
          refine Pl.skip rfl rfl ?_
          refine Pl.skip rfl rfl ?_
          refine Pl.skip rfl rfl ?_
          refine Pl.skip rfl rfl ?_
          refine Pl.skip rfl rfl ?_
          refine Pl.skip rfl rfl ?_
          refine Pl.skip rfl rfl ?_
          refine Pl.skip rfl rfl ?_
          refine Pl.skip rfl rfl ?_
          refine Pl.pure rfl rfl ?_
          refine Pl.pure rfl rfl ?_
          refine Pl.skip rfl rfl ?_
          refine Pl.skip rfl rfl ?_
          refine Pl.skip rfl rfl ?_
          refine Pl.skip rfl rfl ?_
          refine Pl.skip rfl rfl ?_
          refine Pl.skip rfl rfl ?_
          refine Pl.skip rfl rfl ?_
          refine Pl.skip rfl rfl ?_
          refine Pl.skip rfl rfl ?_
          refine Pl.skip rfl rfl ?_
          refine Pl.skip rfl rfl ?_
          refine Pl.skip rfl rfl ?_
          refine Pl.skip rfl rfl ?_
          refine Pl.skip rfl rfl ?_
          refine Pl.skip rfl rfl ?_
          refine Pl.skip rfl rfl ?_
          refine Pl.skip rfl rfl ?_
          refine Pl.pure rfl rfl ?_
          refine Pl.nil ?_
          refine AWp.condT rfl ?_
          refine AWp.seq ?_
          refine AWp.region ?_
          refine AOps.sim okL rfl rfl ?_
          refine AOps.nil ?_
          refine AWp.ret ?_
          refine blockQ_r ?_
          refine seqQ_r ?_
          refine seqQ_r ?_
          refine blockQ_r ?_
          refine seqQ_r ?_
          first | (refine bodyQ_r (by first | exact ResOk.one rfl rfl | exact ResOk.two rfl rfl rfl | exact ResOk.three rfl rfl rfl rfl | exact ResOk.none rfl) ?_; rw [setM, ← hm, setGo_F (by simp_all)]; rfl) | (refine AIn.nextN 0 (ih (0 + 1) (⟨by omega, by rw [prevHi_next hy, ← hm, setGo_T (by simp_all) (by simp_all) (by simp_all) rfl]⟩) (by first | omega | (simp only; omega))) ?_ rfl; repeat (first | exact trivial | refine ⟨rfl, ?_⟩ | refine ⟨congrArg some nx, ?_⟩))
        · refine Pl.pureW rfl rfl rfl ?_
          refine Pl.pureW rfl rfl rfl ?_
          refine Pl.pureW rfl rfl (sOp_idxD rfl rfl rfl rfl rfl (by omega) (getS hy) rfl) ?_
          refine Pl.pureW rfl rfl rfl ?_
          refine Pl.pureW rfl rfl rfl ?_
          refine Pl.pureW rfl rfl rfl ?_
          refine Pl.pureW rfl rfl rfl ?_
          refine Pl.pureW rfl rfl (sOp_idxD rfl rfl rfl rfl rfl (by omega) (getS hy) rfl) ?_
          refine Pl.pureW rfl rfl rfl ?_
          refine Pl.pureW rfl rfl rfl ?_
          refine Pl.pureW rfl rfl rfl ?_
          refine Pl.pure rfl rfl ?_
          refine Pl.pure rfl rfl ?_
          refine Pl.guardCase rfl rfl (fun h => ?_) (fun h => ?_)
          · refine Pl.skip rfl rfl ?_
            refine Pl.skip rfl rfl ?_
            refine Pl.skip rfl rfl ?_
            refine Pl.skip rfl rfl ?_
            refine Pl.skip rfl rfl ?_
            refine Pl.skip rfl rfl ?_
            refine Pl.skip rfl rfl ?_
            refine Pl.skip rfl rfl ?_
            refine Pl.skip rfl rfl ?_
            refine Pl.skip rfl rfl ?_
            refine Pl.skip rfl rfl ?_
            refine Pl.skip rfl rfl ?_
            refine Pl.skip rfl rfl ?_
            refine Pl.skip rfl rfl ?_
            refine Pl.skip rfl rfl ?_
            refine Pl.skip rfl rfl ?_
            refine Pl.skip rfl rfl ?_
            refine Pl.pure rfl rfl ?_
            refine Pl.nil ?_
            refine AWp.condT rfl ?_
            refine AWp.seq ?_
            refine AWp.region ?_
            refine AOps.sim okL rfl rfl ?_
            refine AOps.nil ?_
            refine AWp.ret ?_
            refine blockQ_r ?_
            refine seqQ_r ?_
            refine seqQ_r ?_
            refine blockQ_r ?_
            refine seqQ_r ?_
            first | (refine bodyQ_r (by first | exact ResOk.one rfl rfl | exact ResOk.two rfl rfl rfl | exact ResOk.three rfl rfl rfl rfl | exact ResOk.none rfl) ?_; rw [setM, ← hm, setGo_F (by simp_all)]; rfl) | (refine AIn.nextN 0 (ih (0 + 1) (⟨by omega, by rw [prevHi_next hy, ← hm, setGo_T (by simp_all) (by simp_all) (by simp_all) rfl]⟩) (by first | omega | (simp only; omega))) ?_ rfl; repeat (first | exact trivial | refine ⟨rfl, ?_⟩ | refine ⟨congrArg some nx, ?_⟩))
          · refine Pl.pureW rfl rfl rfl ?_
            refine Pl.pureW rfl rfl rfl ?_
            refine Pl.pureW rfl rfl rfl ?_
            refine Pl.skip rfl rfl ?_
            refine Pl.skip rfl rfl ?_
            refine Pl.skip rfl rfl ?_
            refine Pl.skip rfl rfl ?_
            refine Pl.skip rfl rfl ?_
            refine Pl.skip rfl rfl ?_
            refine Pl.skip rfl rfl ?_
            refine Pl.skip rfl rfl ?_
            refine Pl.skip rfl rfl ?_
            refine Pl.skip rfl rfl ?_
            refine Pl.skip rfl rfl ?_
            refine Pl.skip rfl rfl ?_
            refine Pl.skip rfl rfl ?_
            refine Pl.pureW rfl rfl rfl ?_
            refine Pl.pure rfl rfl ?_
            refine Pl.nil ?_
            refine AWp.condF rfl ?_
            refine AWp.skip ?_
            refine AWp.region ?_
            refine AOps.sim okL rfl rfl ?_
            refine AOps.sim okL rfl rfl ?_
            refine AOps.sim okL rfl rfl ?_
            refine AOps.nil ?_
            refine seqQ_n ?_
            first | (refine bodyQ_r (by first | exact ResOk.one rfl rfl | exact ResOk.two rfl rfl rfl | exact ResOk.three rfl rfl rfl rfl | exact ResOk.none rfl) ?_; rw [setM, ← hm, setGo_F (by simp_all)]; rfl) | (refine AIn.nextN 0 (ih (0 + 1) (⟨by omega, by rw [prevHi_next hy, ← hm, setGo_T (by simp_all) (by simp_all) (by simp_all) rfl]⟩) (by first | omega | (simp only; omega))) ?_ rfl; repeat (first | exact trivial | refine ⟨rfl, ?_⟩ | refine ⟨congrArg some nx, ?_⟩))
    | succ k =>
      obtain ⟨z, hz⟩ : ∃ z, l[k]? = some z := ⟨l[k], by simp [show k < l.length by omega]⟩
      simp only [prevHi, hz, Option.map_some] at hm
      have hp := wrap_pred (k := k) (by omega) hlen
      refine AWp.skip ?_
      refine AWp.seq ?_
      refine AWp.block ?_
      refine AWp.seq ?_
      refine AWp.drawn okL hmix (by kernel_rfl) ?_
      refine Pl.pure rfl rfl ?_
      refine Pl.pure rfl rfl ?_
      refine Pl.pure rfl (sOp_idxD rfl rfl rfl rfl rfl (by omega) (getS hy) rfl) ?_
      refine Pl.pure rfl rfl ?_
      refine Pl.pure rfl rfl ?_
      focus (refine Pl.quiet (v := ?_) rfl rfl rfl (AOp.callP rfl rfl rfl ?_ (AOps.nil (Qn_n ⟨rfl, rfl⟩))) ?_; rotate_left; exact (refIsChar_tr _))
      refine Pl.pure rfl rfl ?_
      refine Pl.pure rfl rfl ?_
      refine Pl.guardCase rfl rfl (fun h => ?_) (fun h => ?_)
      · refine Pl.skip rfl rfl ?_
        refine Pl.skip rfl rfl ?_
        refine Pl.skip rfl rfl ?_
        refine Pl.skip rfl rfl ?_
        refine Pl.skip rfl rfl ?_
        refine Pl.skip rfl rfl ?_
        refine Pl.skip rfl rfl ?_
        refine Pl.pure rfl rfl ?_
        refine Pl.pure rfl rfl ?_
        refine Pl.skip rfl rfl ?_
        refine Pl.skip rfl rfl ?_
        refine Pl.skip rfl rfl ?_
        refine Pl.skip rfl rfl ?_
        refine Pl.skip rfl rfl ?_
        refine Pl.skip rfl rfl ?_
        refine Pl.skip rfl rfl ?_
        refine Pl.skip rfl rfl ?_
        refine Pl.skip rfl rfl ?_
        refine Pl.skip rfl rfl ?_
        refine Pl.skip rfl rfl ?_
        refine Pl.pure rfl rfl ?_
        refine Pl.pure rfl rfl ?_
        refine Pl.skip rfl rfl ?_
        refine Pl.skip rfl rfl ?_
        refine Pl.skip rfl rfl ?_
        refine Pl.skip rfl rfl ?_
        refine Pl.skip rfl rfl ?_
        refine Pl.skip rfl rfl ?_
        refine Pl.skip rfl rfl ?_
        refine Pl.skip rfl rfl ?_
        refine Pl.skip rfl rfl ?_
        refine Pl.skip rfl rfl ?_
        refine Pl.skip rfl rfl ?_
        refine Pl.skip rfl rfl ?_
        refine Pl.skip rfl rfl ?_
        refine Pl.skip rfl rfl ?_
        refine Pl.skip rfl rfl ?_
        refine Pl.skip rfl rfl ?_
        refine Pl.skip rfl rfl ?_
        refine Pl.pure rfl rfl ?_
        refine Pl.nil ?_
        refine AWp.condT rfl ?_
        refine AWp.seq ?_
        refine AWp.region ?_
        refine AOps.sim okL rfl rfl ?_
        refine AOps.nil ?_
        refine AWp.ret ?_
        refine blockQ_r ?_
        refine seqQ_r ?_
        refine seqQ_r ?_
        refine blockQ_r ?_
        refine seqQ_r ?_
        first | (refine bodyQ_r (by first | exact ResOk.one rfl rfl | exact ResOk.two rfl rfl rfl | exact ResOk.three rfl rfl rfl rfl | exact ResOk.none rfl) ?_; rw [setM, ← hm, setGo_F (by first | (simp_all; done) | exact .inr (.inr (.inr (hiOk_F (by simp_all)))))]; rfl) | (refine AIn.nextN 0 (ih (k + 1 + 1) (⟨by omega, by rw [prevHi_next hy, ← hm, setGo_T (by simp_all) (by simp_all) (by simp_all) (hiOk_T (by simp_all))]⟩) (by first | omega | (simp only; omega))) ?_ rfl; repeat (first | exact trivial | refine ⟨rfl, ?_⟩ | refine ⟨congrArg some nx, ?_⟩)) | (exfalso; clear ih; simp at *; omega)
      · refine Pl.pureW rfl rfl rfl ?_
        refine Pl.pureW rfl rfl rfl ?_
        refine Pl.pureW rfl rfl (sOp_idxD rfl rfl rfl rfl rfl (by omega) (getS hy) rfl) ?_
        refine Pl.pureW rfl rfl rfl ?_
        refine Pl.pureW rfl rfl rfl ?_
        focus (refine Pl.quiet (v := ?_) rfl rfl rfl (AOp.callP rfl rfl rfl ?_ (AOps.nil (Qn_n ⟨rfl, rfl⟩))) ?_; rotate_left; exact (refIsChar_tr _))
        refine Pl.pureW rfl rfl rfl ?_
        refine Pl.pure rfl rfl ?_
        refine Pl.pure rfl rfl ?_
        refine Pl.guardCase rfl rfl (fun h => ?_) (fun h => ?_)
        · refine Pl.skip rfl rfl ?_
          refine Pl.skip rfl rfl ?_
          refine Pl.skip rfl rfl ?_
          refine Pl.skip rfl rfl ?_
          refine Pl.skip rfl rfl ?_
          refine Pl.skip rfl rfl ?_
          refine Pl.skip rfl rfl ?_
          refine Pl.skip rfl rfl ?_
          refine Pl.skip rfl rfl ?_
          refine Pl.skip rfl rfl ?_
          refine Pl.skip rfl rfl ?_
          refine Pl.pure rfl rfl ?_
          refine Pl.pure rfl rfl ?_
          refine Pl.skip rfl rfl ?_
          refine Pl.skip rfl rfl ?_
          refine Pl.skip rfl rfl ?_
          refine Pl.skip rfl rfl ?_
          refine Pl.skip rfl rfl ?_
          refine Pl.skip rfl rfl ?_
          refine Pl.skip rfl rfl ?_
          refine Pl.skip rfl rfl ?_
          refine Pl.skip rfl rfl ?_
          refine Pl.skip rfl rfl ?_
          refine Pl.skip rfl rfl ?_
          refine Pl.skip rfl rfl ?_
          refine Pl.skip rfl rfl ?_
          refine Pl.skip rfl rfl ?_
          refine Pl.skip rfl rfl ?_
          refine Pl.skip rfl rfl ?_
          refine Pl.skip rfl rfl ?_
          refine Pl.pure rfl rfl ?_
          refine Pl.nil ?_
          refine AWp.condT rfl ?_
          refine AWp.seq ?_
          refine AWp.region ?_
          refine AOps.sim okL rfl rfl ?_
          refine AOps.nil ?_
          refine AWp.ret ?_
          refine blockQ_r ?_
          refine seqQ_r ?_
          refine seqQ_r ?_
          refine blockQ_r ?_
          refine seqQ_r ?_
          first | (refine bodyQ_r (by first | exact ResOk.one rfl rfl | exact ResOk.two rfl rfl rfl | exact ResOk.three rfl rfl rfl rfl | exact ResOk.none rfl) ?_; rw [setM, ← hm, setGo_F (by first | (simp_all; done) | exact .inr (.inr (.inr (hiOk_F (by simp_all)))))]; rfl) | (refine AIn.nextN 0 (ih (k + 1 + 1) (⟨by omega, by rw [prevHi_next hy, ← hm, setGo_T (by simp_all) (by simp_all) (by simp_all) (hiOk_T (by simp_all))]⟩) (by first | omega | (simp only; omega))) ?_ rfl; repeat (first | exact trivial | refine ⟨rfl, ?_⟩ | refine ⟨congrArg some nx, ?_⟩)) | (exfalso; clear ih; simp at *; omega)
        · refine Pl.pureW rfl rfl rfl ?_
          refine Pl.pureW rfl rfl rfl ?_
          refine Pl.pureW rfl rfl (sOp_idxD rfl rfl rfl rfl rfl (by omega) (getS hy) rfl) ?_
          refine Pl.pureW rfl rfl rfl ?_
          refine Pl.pureW rfl rfl rfl ?_
          refine Pl.pureW rfl rfl rfl ?_
          refine Pl.pureW rfl rfl rfl ?_
          refine Pl.pureW rfl rfl (sOp_idxD rfl rfl rfl rfl rfl (by omega) (getS hy) rfl) ?_
          refine Pl.pureW rfl rfl rfl ?_
          refine Pl.pureW rfl rfl rfl ?_
          refine Pl.pureW rfl rfl rfl ?_
          refine Pl.pure rfl rfl ?_
          refine Pl.pure rfl rfl ?_
          refine Pl.guardCase rfl rfl (fun h => ?_) (fun h => ?_)
          · refine Pl.skip rfl rfl ?_
            refine Pl.skip rfl rfl ?_
            refine Pl.skip rfl rfl ?_
            refine Pl.skip rfl rfl ?_
            refine Pl.skip rfl rfl ?_
            refine Pl.skip rfl rfl ?_
            refine Pl.skip rfl rfl ?_
            refine Pl.skip rfl rfl ?_
            refine Pl.skip rfl rfl ?_
            refine Pl.skip rfl rfl ?_
            refine Pl.skip rfl rfl ?_
            refine Pl.skip rfl rfl ?_
            refine Pl.skip rfl rfl ?_
            refine Pl.skip rfl rfl ?_
            refine Pl.skip rfl rfl ?_
            refine Pl.skip rfl rfl ?_
            refine Pl.skip rfl rfl ?_
            refine Pl.pure rfl rfl ?_
            refine Pl.nil ?_
            refine AWp.condT rfl ?_
            refine AWp.seq ?_
            refine AWp.region ?_
            refine AOps.sim okL rfl rfl ?_
            refine AOps.nil ?_
            refine AWp.ret ?_
            refine blockQ_r ?_
            refine seqQ_r ?_
            refine seqQ_r ?_
            refine blockQ_r ?_
            refine seqQ_r ?_
            first | (refine bodyQ_r (by first | exact ResOk.one rfl rfl | exact ResOk.two rfl rfl rfl | exact ResOk.three rfl rfl rfl rfl | exact ResOk.none rfl) ?_; rw [setM, ← hm, setGo_F (by first | (simp_all; done) | exact .inr (.inr (.inr (hiOk_F (by simp_all)))))]; rfl) | (refine AIn.nextN 0 (ih (k + 1 + 1) (⟨by omega, by rw [prevHi_next hy, ← hm, setGo_T (by simp_all) (by simp_all) (by simp_all) (hiOk_T (by simp_all))]⟩) (by first | omega | (simp only; omega))) ?_ rfl; repeat (first | exact trivial | refine ⟨rfl, ?_⟩ | refine ⟨congrArg some nx, ?_⟩)) | (exfalso; clear ih; simp at *; omega)
          · refine Pl.pureW rfl rfl rfl ?_
            refine Pl.pureW rfl rfl rfl ?_
            refine Pl.pureW rfl rfl rfl ?_
            refine Pl.guardCase rfl rfl (fun h => ?_) (fun h => ?_)
            · refine Pl.pureW rfl rfl rfl ?_
              refine Pl.pureW rfl rfl rfl ?_
              refine Pl.pureW rfl rfl rfl ?_
              refine Pl.pureW rfl rfl (sOp_idxD rfl rfl rfl rfl rfl (by rw [hp]; omega) (by rw [hp]; exact getS hz) rfl) ?_
              refine Pl.pureW rfl rfl rfl ?_
              refine Pl.pureW rfl rfl rfl ?_
              refine Pl.pureW rfl rfl rfl ?_
              refine Pl.pureW rfl rfl rfl ?_
              refine Pl.pureW rfl rfl rfl ?_
              refine Pl.pureW rfl rfl (sOp_idxD rfl rfl rfl rfl rfl (by omega) (getS hy) rfl) ?_
              refine Pl.pureW rfl rfl rfl ?_
              refine Pl.pureW rfl rfl rfl ?_
              refine Pl.pureW rfl rfl rfl ?_
              refine Pl.pureW rfl rfl rfl ?_
              refine Pl.pure rfl rfl ?_
              refine Pl.nil ?_
              refine seqQ_n ?_
              refine AWp.condCase rfl (fun h => ?_) (fun h => ?_)
              · refine AWp.seq ?_
                refine AWp.region ?_
                refine AOps.sim okL rfl rfl ?_
                refine AOps.nil ?_
                refine AWp.ret ?_
                refine blockQ_r ?_
                refine seqQ_r ?_
                refine seqQ_r ?_
                refine blockQ_r ?_
                refine seqQ_r ?_
                first | (refine bodyQ_r (by first | exact ResOk.one rfl rfl | exact ResOk.two rfl rfl rfl | exact ResOk.three rfl rfl rfl rfl | exact ResOk.none rfl) ?_; rw [setM, ← hm, setGo_F (by first | (simp_all; done) | exact .inr (.inr (.inr (hiOk_F (by simp_all)))))]; rfl) | (refine AIn.nextN 0 (ih (k + 1 + 1) (⟨by omega, by rw [prevHi_next hy, ← hm, setGo_T (by simp_all) (by simp_all) (by simp_all) (hiOk_T (by simp_all))]⟩) (by first | omega | (simp only; omega))) ?_ rfl; repeat (first | exact trivial | refine ⟨rfl, ?_⟩ | refine ⟨congrArg some nx, ?_⟩)) | (exfalso; clear ih; simp at *; omega)
              · refine AWp.skip ?_
                refine AWp.region ?_
                refine AOps.sim okL rfl rfl ?_
                refine AOps.sim okL rfl rfl ?_
                refine AOps.sim okL rfl rfl ?_
                refine AOps.nil ?_
                refine seqQ_n ?_
                first | (refine bodyQ_r (by first | exact ResOk.one rfl rfl | exact ResOk.two rfl rfl rfl | exact ResOk.three rfl rfl rfl rfl | exact ResOk.none rfl) ?_; rw [setM, ← hm, setGo_F (by first | (simp_all; done) | exact .inr (.inr (.inr (hiOk_F (by simp_all)))))]; rfl) | (refine AIn.nextN 0 (ih (k + 1 + 1) (⟨by omega, by rw [prevHi_next hy, ← hm, setGo_T (by simp_all) (by simp_all) (by simp_all) (hiOk_T (by simp_all))]⟩) (by first | omega | (simp only; omega))) ?_ rfl; repeat (first | exact trivial | refine ⟨rfl, ?_⟩ | refine ⟨congrArg some nx, ?_⟩)) | (exfalso; clear ih; simp at *; omega)
            · refine Pl.skip rfl rfl ?_
              refine Pl.skip rfl rfl ?_
              refine Pl.skip rfl rfl ?_
              refine Pl.skip rfl rfl ?_
              refine Pl.skip rfl rfl ?_
              refine Pl.skip rfl rfl ?_
              refine Pl.skip rfl rfl ?_
              refine Pl.skip rfl rfl ?_
              refine Pl.skip rfl rfl ?_
              refine Pl.skip rfl rfl ?_
              refine Pl.skip rfl rfl ?_
              refine Pl.skip rfl rfl ?_
              refine Pl.skip rfl rfl ?_
              refine Pl.pureW rfl rfl rfl ?_
              refine Pl.pure rfl rfl ?_
              refine Pl.nil ?_
              refine AWp.condF rfl ?_
              refine AWp.skip ?_
              refine AWp.region ?_
              refine AOps.sim okL rfl rfl ?_
              refine AOps.sim okL rfl rfl ?_
              refine AOps.sim okL rfl rfl ?_
              refine AOps.nil ?_
              refine seqQ_n ?_
              first | (refine bodyQ_r (by first | exact ResOk.one rfl rfl | exact ResOk.two rfl rfl rfl | exact ResOk.three rfl rfl rfl rfl | exact ResOk.none rfl) ?_; rw [setM, ← hm, setGo_F (by first | (simp_all; done) | exact .inr (.inr (.inr (hiOk_F (by simp_all)))))]; rfl) | (refine AIn.nextN 0 (ih (k + 1 + 1) (⟨by omega, by rw [prevHi_next hy, ← hm, setGo_T (by simp_all) (by simp_all) (by simp_all) (hiOk_T (by simp_all))]⟩) (by first | omega | (simp only; omega))) ?_ rfl; repeat (first | exact trivial | refine ⟨rfl, ?_⟩ | refine ⟨congrArg some nx, ?_⟩)) | (exfalso; clear ih; simp at *; omega)
  · have h := of_decide_eq_false h
    simp only [List.length_map] at h
    rw [List.drop_eq_nil_of_le (by omega)] at hm
    refine AWp.exit ?_
    refine AWp.seq ?_
    refine AWp.region ?_
    refine AOps.sim okL rfl rfl ?_
    refine AOps.sim okL rfl rfl ?_
    refine AOps.pln ?_; focus (refine AOp.callP (v := ?_) rfl rfl rfl ?_ ?_; rotate_left; exact (refWithin_tr _ _ _))
    refine AOps.sim okL rfl rfl ?_
    refine AOps.nil ?_
    refine AWp.ret ?_
    refine bodyQ_r (by first | exact ResOk.one rfl rfl | exact ResOk.two rfl rfl rfl | exact ResOk.three rfl rfl rfl rfl | exact ResOk.none rfl) ?_
    simp [setM, ← hm, setGo]
def bareM (x : Pat) : Bool := decide (x.n = 0) && (decide (x.min = 0) && (decide (x.max = 0) && (decide (x.name = []) && (decide (x.set = []) && decide (x.l = [])))))
theorem bare_tr (x : Pat) : PTr Try.prog 83 [.agg x.C] (.bool (bareM x)) := by
  refine PTr.of_body (N := 33) Try.func83 rfl rfl rfl ?_
  refine AWp.seq ?_
  refine AWp.region ?_
  refine AOps.pln ?_; refine AOp.box rfl rfl (isVal_or rfl) rfl rfl ?_; intro _ _
  refine AOps.sim okL rfl rfl ?_
  refine AOps.nil ?_
  refine AWp.seq ?_
  refine AWp.region ?_
  refine AOps.sim okL rfl rfl ?_
  refine AOps.pln ?_; refine AOp.load okL rfl (.head _) rfl rfl rfl rfl ?_
  refine AOps.sim okL rfl rfl ?_
  refine AOps.sim okL rfl rfl ?_
  refine AOps.guardCase rfl rfl rfl (fun h => ?_) (fun h => ?_)
  · refine AOps.simW okL rfl rfl rfl rfl ?_
    refine AOps.wtd rfl rfl rfl ?_; refine AOp.load okL rfl (.head _) rfl rfl rfl rfl ?_
    refine AOps.simW okL rfl rfl rfl rfl ?_
    refine AOps.sim okL rfl rfl ?_
    refine AOps.sim okL rfl rfl ?_
    refine AOps.guardCase rfl rfl rfl (fun h => ?_) (fun h => ?_)
    · refine AOps.simW okL rfl rfl rfl rfl ?_
      refine AOps.wtd rfl rfl rfl ?_; refine AOp.load okL rfl (.head _) rfl rfl rfl rfl ?_
      refine AOps.simW okL rfl rfl rfl rfl ?_
      refine AOps.sim okL rfl rfl ?_
      refine AOps.sim okL rfl rfl ?_
      refine AOps.guardCase rfl rfl rfl (fun h => ?_) (fun h => ?_)
      · refine AOps.simW okL rfl rfl rfl rfl ?_
        refine AOps.wtd rfl rfl rfl ?_; refine AOp.load okL rfl (.head _) rfl rfl rfl rfl ?_
        refine AOps.simW okL rfl rfl rfl rfl ?_
        refine AOps.sim okL rfl rfl ?_
        refine AOps.sim okL rfl rfl ?_
        refine AOps.guardCase rfl rfl rfl (fun h => ?_) (fun h => ?_)
        · refine AOps.simW okL rfl rfl rfl rfl ?_
          refine AOps.wtd rfl rfl rfl ?_; refine AOp.load okL rfl (.head _) rfl rfl rfl rfl ?_
          refine AOps.simW okL rfl rfl rfl rfl ?_
          refine AOps.simW okL rfl rfl rfl rfl ?_
          refine AOps.sim okL rfl rfl ?_
          refine AOps.sim okL rfl rfl ?_
          refine AOps.guardCase rfl rfl rfl (fun h => ?_) (fun h => ?_)
          · refine AOps.simW okL rfl rfl rfl rfl ?_
            refine AOps.wtd rfl rfl rfl ?_; refine AOp.load okL rfl (.head _) rfl rfl rfl rfl ?_
            refine AOps.simW okL rfl rfl rfl rfl ?_
            refine AOps.simW okL rfl rfl rfl rfl ?_
            refine AOps.sim okL rfl rfl ?_
            refine AOps.sim okL rfl rfl ?_
            refine AOps.nil ?_
            refine AWp.ret ?_
            refine bodyQ_r (by first | exact ResOk.one rfl rfl | exact ResOk.two rfl rfl rfl | exact ResOk.three rfl rfl rfl rfl | exact ResOk.none rfl) ?_; simp_all [bareM] <;> (rw [Bool.eq_iff_iff]; simp)
          · refine AOps.unw rfl rfl rfl rfl ?_
            refine AOps.unw rfl rfl rfl rfl ?_
            refine AOps.unw rfl rfl rfl rfl ?_
            refine AOps.unw rfl rfl rfl rfl ?_
            refine AOps.sim okL rfl rfl ?_
            refine AOps.sim okL rfl rfl ?_
            refine AOps.nil ?_
            refine AWp.ret ?_
            refine bodyQ_r (by first | exact ResOk.one rfl rfl | exact ResOk.two rfl rfl rfl | exact ResOk.three rfl rfl rfl rfl | exact ResOk.none rfl) ?_; simp_all [bareM] <;> (rw [Bool.eq_iff_iff]; simp)
        · refine AOps.unw rfl rfl rfl rfl ?_
          refine AOps.unw rfl rfl rfl rfl ?_
          refine AOps.unw rfl rfl rfl rfl ?_
          refine AOps.unw rfl rfl rfl rfl ?_
          refine AOps.sim okL rfl rfl ?_
          refine AOps.sim okL rfl rfl ?_
          refine AOps.unw rfl rfl rfl rfl ?_
          refine AOps.unw rfl rfl rfl rfl ?_
          refine AOps.unw rfl rfl rfl rfl ?_
          refine AOps.unw rfl rfl rfl rfl ?_
          refine AOps.sim okL rfl rfl ?_
          refine AOps.sim okL rfl rfl ?_
          refine AOps.nil ?_
          refine AWp.ret ?_
          refine bodyQ_r (by first | exact ResOk.one rfl rfl | exact ResOk.two rfl rfl rfl | exact ResOk.three rfl rfl rfl rfl | exact ResOk.none rfl) ?_; simp_all [bareM] <;> (rw [Bool.eq_iff_iff]; simp)
      · refine AOps.unw rfl rfl rfl rfl ?_
        refine AOps.unw rfl rfl rfl rfl ?_
        refine AOps.unw rfl rfl rfl rfl ?_
        refine AOps.sim okL rfl rfl ?_
        refine AOps.sim okL rfl rfl ?_
        refine AOps.unw rfl rfl rfl rfl ?_
        refine AOps.unw rfl rfl rfl rfl ?_
        refine AOps.unw rfl rfl rfl rfl ?_
        refine AOps.unw rfl rfl rfl rfl ?_
        refine AOps.sim okL rfl rfl ?_
        refine AOps.sim okL rfl rfl ?_
        refine AOps.unw rfl rfl rfl rfl ?_
        refine AOps.unw rfl rfl rfl rfl ?_
        refine AOps.unw rfl rfl rfl rfl ?_
        refine AOps.unw rfl rfl rfl rfl ?_
        refine AOps.sim okL rfl rfl ?_
        refine AOps.sim okL rfl rfl ?_
        refine AOps.nil ?_
        refine AWp.ret ?_
        refine bodyQ_r (by first | exact ResOk.one rfl rfl | exact ResOk.two rfl rfl rfl | exact ResOk.three rfl rfl rfl rfl | exact ResOk.none rfl) ?_; simp_all [bareM] <;> (rw [Bool.eq_iff_iff]; simp)
    · refine AOps.unw rfl rfl rfl rfl ?_
      refine AOps.unw rfl rfl rfl rfl ?_
      refine AOps.unw rfl rfl rfl rfl ?_
      refine AOps.sim okL rfl rfl ?_
      refine AOps.sim okL rfl rfl ?_
      refine AOps.unw rfl rfl rfl rfl ?_
      refine AOps.unw rfl rfl rfl rfl ?_
      refine AOps.unw rfl rfl rfl rfl ?_
      refine AOps.sim okL rfl rfl ?_
      refine AOps.sim okL rfl rfl ?_
      refine AOps.unw rfl rfl rfl rfl ?_
      refine AOps.unw rfl rfl rfl rfl ?_
      refine AOps.unw rfl rfl rfl rfl ?_
      refine AOps.unw rfl rfl rfl rfl ?_
      refine AOps.sim okL rfl rfl ?_
      refine AOps.sim okL rfl rfl ?_
      refine AOps.unw rfl rfl rfl rfl ?_
      refine AOps.unw rfl rfl rfl rfl ?_
      refine AOps.unw rfl rfl rfl rfl ?_
      refine AOps.unw rfl rfl rfl rfl ?_
      refine AOps.sim okL rfl rfl ?_
      refine AOps.sim okL rfl rfl ?_
      refine AOps.nil ?_
      refine AWp.ret ?_
      refine bodyQ_r (by first | exact ResOk.one rfl rfl | exact ResOk.two rfl rfl rfl | exact ResOk.three rfl rfl rfl rfl | exact ResOk.none rfl) ?_; simp_all [bareM] <;> (rw [Bool.eq_iff_iff]; simp)
  · refine AOps.unw rfl rfl rfl rfl ?_
    refine AOps.unw rfl rfl rfl rfl ?_
    refine AOps.unw rfl rfl rfl rfl ?_
    refine AOps.sim okL rfl rfl ?_
    refine AOps.sim okL rfl rfl ?_
    refine AOps.unw rfl rfl rfl rfl ?_
    refine AOps.unw rfl rfl rfl rfl ?_
    refine AOps.unw rfl rfl rfl rfl ?_
    refine AOps.sim okL rfl rfl ?_
    refine AOps.sim okL rfl rfl ?_
    refine AOps.unw rfl rfl rfl rfl ?_
    refine AOps.unw rfl rfl rfl rfl ?_
    refine AOps.unw rfl rfl rfl rfl ?_
    refine AOps.sim okL rfl rfl ?_
    refine AOps.sim okL rfl rfl ?_
    refine AOps.unw rfl rfl rfl rfl ?_
    refine AOps.unw rfl rfl rfl rfl ?_
    refine AOps.unw rfl rfl rfl rfl ?_
    refine AOps.unw rfl rfl rfl rfl ?_
    refine AOps.sim okL rfl rfl ?_
    refine AOps.sim okL rfl rfl ?_
    refine AOps.unw rfl rfl rfl rfl ?_
    refine AOps.unw rfl rfl rfl rfl ?_
    refine AOps.unw rfl rfl rfl rfl ?_
    refine AOps.unw rfl rfl rfl rfl ?_
    refine AOps.sim okL rfl rfl ?_
    refine AOps.sim okL rfl rfl ?_
    refine AOps.nil ?_
    refine AWp.ret ?_
    refine bodyQ_r (by first | exact ResOk.one rfl rfl | exact ResOk.two rfl rfl rfl | exact ResOk.three rfl rfl rfl rfl | exact ResOk.none rfl) ?_; simp_all [bareM] <;> (rw [Bool.eq_iff_iff]; simp)

end Go.Proofs.Ytiaogfkkfoakpaa

namespace Go.Proofs.Ytiaogfkkfoakpaa
open Go Go.Abs
set_option linter.unusedVariables false
set_option maxRecDepth 100000
set_option linter.unusedSimpArgs false

def nodeR (x : Pat) (ok : Bool) (parts n mn mx : Int) (nm : List UInt8) (st : List (Int × Int)) : Bool := ok && (decide ((x.l.length : Int) = parts) && bareM (.mk x.op n mn mx nm st []))
def nodeM (x : Pat) (g : Int) : Bool :=
  if x.op = 0 ∨ x.op = 2 ∨ x.op = 11 ∨ x.op = 12 ∨ x.op = 18 then nodeR x true 0 x.n x.min x.max x.name x.set
  else if x.op = 1 then nodeR x (chM x.n) 0 0 x.min x.max x.name x.set
  else if x.op = 3 then nodeR x (inM x.n 0 1 && setM x.set) 0 0 x.min x.max x.name []
  else if x.op = 4 ∨ x.op = 5 then nodeR x (decide ((x.l.length : Int) ≥ 2)) x.l.length x.n x.min x.max x.name x.set
  else if x.op = 6 then nodeR x (inM x.n 0 2 && (inM x.min 0 20 && (decide (x.max = -1) || inM x.max (if 1 > x.min then 1 else x.min) 20))) 1 0 0 0 x.name x.set
  else if x.op = 7 then nodeR x (decide (x.name = []) || nameM x.name) 1 0 x.min x.max [] x.set
  else if x.op = 8 then nodeR x true 1 x.n x.min x.max x.name x.set
  else if x.op = 9 then nodeR x (inM x.n 0 3) 1 0 x.min x.max x.name x.set
  else if x.op = 10 then nodeR x (inM x.n 1 g) 0 0 x.min x.max x.name x.set
  else if x.op = 13 then nodeR x (inM x.n 0 1) 0 0 x.min x.max x.name x.set
  else if x.op = 14 then nodeR x (inM x.n 0 g) 0 0 x.min x.max x.name x.set
  else if x.op = 15 then nodeR x (inM x.n 1 g) 2 0 x.min x.max x.name x.set
  else if x.op = 16 then nodeR x (inM x.n 0 2) 0 0 x.min x.max x.name x.set
  else if x.op = 17 then nodeR x (inM x.n 0 9) 0 0 x.min x.max x.name x.set
  else false
structure NSt where
  ok : Bool
  parts : Int
  n : Int
  mn : Int
  mx : Int
  nm : List UInt8
  st : List (Int × Int)
  S : A
set_option maxHeartbeats 4000000 in
theorem isNode_tr (x : Pat) (g : Int) : PTr Try.prog 61 [.agg x.C, i64 g] (.bool (nodeM x g)) := by
  refine PTr.of_body (N := 143) Try.func61 rfl rfl rfl ?_
  refine AWp.seq ?_
  refine AWp.region ?_
  refine AOps.pln ?_; refine AOp.box rfl rfl (isVal_or rfl) rfl rfl ?_; intro _ _
  refine AOps.sim okL rfl rfl ?_
  refine AOps.nil ?_
  refine AWp.seq ?_
  refine AWp.region ?_
  refine AOps.pln ?_; refine AOp.load okL rfl (.head _) rfl rfl rfl rfl ?_
  refine AOps.pln ?_; refine AOp.alloc okL rfl rfl rfl ?_; intro _ _
  refine AOps.pln ?_; refine AOp.store okL rfl rfl rfl (isVal_or rfl) rfl rfl rfl .here rfl rfl rfl ?_
  refine AOps.nil ?_
  refine AWp.seq ?_
  refine AWp.region ?_
  refine AOps.sim okL rfl rfl ?_
  refine AOps.nil ?_
  refine AWp.seq ?_
  refine AWp.region ?_
  refine AOps.sim okL rfl rfl ?_
  refine AOps.nil ?_
  refine AWp.seq ?_
  refine AWp.seq ?_
  refine AWp.region ?_
  refine AOps.sim okL rfl rfl ?_
  refine AOps.pln ?_; refine AOp.load okL rfl (.tail _ (.head _)) rfl rfl rfl rfl ?_
  refine AOps.nil ?_
  refine seqQ_n ?_
  rename_i r2 _ r5 _
  refine AWp.join (α := NSt) (fun a => [(2, .ptr r2 7 0 0), (5, .ptr r5 7 0 0), (6, i64 a.parts), (7, .bool a.ok)])
    (fun a => [(r5, .row 25 7 [[i64 x.op, i64 a.n, i64 a.mn, i64 a.mx, .str a.nm, a.S, .ds (x.l.map Pat.cells)]]), (r2, .row 25 7 [x.C])])
    (fun a => nodeM x g = nodeR x a.ok a.parts a.n a.mn a.mx a.nm a.st ∧ (a.S = .ds (a.st.map spanC) ∨ a.st = [] ∧ a.S = .nils)) ?_ fun R K hR => ?_
  · rintro ⟨ok, parts, n, mn, mx, nm, st, S⟩ ⟨h1, h2⟩
    simp only at h1 h2 ⊢
    rcases h2 with rfl | ⟨rfl, rfl⟩
    · refine AWp.seq ?_
      refine AWp.region ?_
      refine AOps.sim okL rfl rfl ?_
      refine AOps.pln ?_; refine AOp.store okL rfl rfl rfl (isVal_or rfl) rfl rfl rfl .here rfl rfl rfl ?_
      refine AOps.nil ?_
      refine AWp.seq ?_
      refine AWp.region ?_
      refine AOps.sim okL rfl rfl ?_
      refine AOps.sim okL rfl rfl ?_
      refine AOps.guardCase rfl rfl rfl (fun h => ?_) (fun h => ?_)
      · refine AOps.simW okL rfl rfl rfl rfl ?_
        refine AOps.wtd rfl rfl rfl ?_; refine AOp.load okL rfl (.tail _ (.head _)) rfl rfl rfl rfl ?_
        refine AOps.simW okL rfl rfl rfl rfl ?_
        refine AOps.simW okL rfl rfl rfl rfl ?_
        refine AOps.simW okL rfl rfl rfl rfl ?_
        refine AOps.sim okL rfl rfl ?_
        refine AOps.sim okL rfl rfl ?_
        refine AOps.guardCase rfl rfl rfl (fun h => ?_) (fun h => ?_)
        · refine AOps.wtd rfl rfl rfl ?_; refine AOp.load okL rfl (.head _) rfl rfl rfl rfl ?_
          refine AOps.wtd rfl rfl rfl ?_; focus (refine AOp.callS rfl rfl rfl (bare_tr (.mk x.op n mn mx nm st [])) ?_ ?_; focus ((repeat (first | exact SubL.nil | refine SubL.cons (Sub.refl _) ?_ | refine SubL.cons Sub.nils ?_ | refine SubL.cons (Sub.agg ?_) ?_))))
          refine AOps.sim okL rfl rfl ?_
          refine AOps.sim okL rfl rfl ?_
          refine AOps.nil ?_
          refine AWp.ret ?_
          refine bodyQ_r (by first | exact ResOk.one rfl rfl | exact ResOk.two rfl rfl rfl | exact ResOk.three rfl rfl rfl rfl | exact ResOk.none rfl) ?_; simp_all [nodeR]
        · refine AOps.unw rfl rfl rfl rfl ?_
          refine AOps.unw rfl rfl rfl rfl ?_
          refine AOps.sim okL rfl rfl ?_
          refine AOps.sim okL rfl rfl ?_
          refine AOps.nil ?_
          refine AWp.ret ?_
          refine bodyQ_r (by first | exact ResOk.one rfl rfl | exact ResOk.two rfl rfl rfl | exact ResOk.three rfl rfl rfl rfl | exact ResOk.none rfl) ?_; simp_all [nodeR]
      · refine AOps.unw rfl rfl rfl rfl ?_
        refine AOps.unw rfl rfl rfl rfl ?_
        refine AOps.unw rfl rfl rfl rfl ?_
        refine AOps.unw rfl rfl rfl rfl ?_
        refine AOps.unw rfl rfl rfl rfl ?_
        refine AOps.sim okL rfl rfl ?_
        refine AOps.sim okL rfl rfl ?_
        refine AOps.unw rfl rfl rfl rfl ?_
        refine AOps.unw rfl rfl rfl rfl ?_
        refine AOps.sim okL rfl rfl ?_
        refine AOps.sim okL rfl rfl ?_
        refine AOps.nil ?_
        refine AWp.ret ?_
        refine bodyQ_r (by first | exact ResOk.one rfl rfl | exact ResOk.two rfl rfl rfl | exact ResOk.three rfl rfl rfl rfl | exact ResOk.none rfl) ?_; simp_all [nodeR]
    · refine AWp.seq ?_
      refine AWp.region ?_
      refine AOps.sim okL rfl rfl ?_
      refine AOps.pln ?_; refine AOp.store okL rfl rfl rfl (isVal_or rfl) rfl rfl rfl .here rfl rfl rfl ?_
      refine AOps.nil ?_
      refine AWp.seq ?_
      refine AWp.region ?_
      refine AOps.sim okL rfl rfl ?_
      refine AOps.sim okL rfl rfl ?_
      refine AOps.guardCase rfl rfl rfl (fun h => ?_) (fun h => ?_)
      · refine AOps.simW okL rfl rfl rfl rfl ?_
        refine AOps.wtd rfl rfl rfl ?_; refine AOp.load okL rfl (.tail _ (.head _)) rfl rfl rfl rfl ?_
        refine AOps.simW okL rfl rfl rfl rfl ?_
        refine AOps.simW okL rfl rfl rfl rfl ?_
        refine AOps.simW okL rfl rfl rfl rfl ?_
        refine AOps.sim okL rfl rfl ?_
        refine AOps.sim okL rfl rfl ?_
        refine AOps.guardCase rfl rfl rfl (fun h => ?_) (fun h => ?_)
        · refine AOps.wtd rfl rfl rfl ?_; refine AOp.load okL rfl (.head _) rfl rfl rfl rfl ?_
          refine AOps.wtd rfl rfl rfl ?_; focus (refine AOp.callS rfl rfl rfl (bare_tr (.mk x.op n mn mx nm [] [])) ?_ ?_; focus ((repeat (first | exact SubL.nil | refine SubL.cons (Sub.refl _) ?_ | refine SubL.cons Sub.nils ?_ | refine SubL.cons (Sub.agg ?_) ?_))))
          refine AOps.sim okL rfl rfl ?_
          refine AOps.sim okL rfl rfl ?_
          refine AOps.nil ?_
          refine AWp.ret ?_
          refine bodyQ_r (by first | exact ResOk.one rfl rfl | exact ResOk.two rfl rfl rfl | exact ResOk.three rfl rfl rfl rfl | exact ResOk.none rfl) ?_; simp_all [nodeR]
        · refine AOps.unw rfl rfl rfl rfl ?_
          refine AOps.unw rfl rfl rfl rfl ?_
          refine AOps.sim okL rfl rfl ?_
          refine AOps.sim okL rfl rfl ?_
          refine AOps.nil ?_
          refine AWp.ret ?_
          refine bodyQ_r (by first | exact ResOk.one rfl rfl | exact ResOk.two rfl rfl rfl | exact ResOk.three rfl rfl rfl rfl | exact ResOk.none rfl) ?_; simp_all [nodeR]
      · refine AOps.unw rfl rfl rfl rfl ?_
        refine AOps.unw rfl rfl rfl rfl ?_
        refine AOps.unw rfl rfl rfl rfl ?_
        refine AOps.unw rfl rfl rfl rfl ?_
        refine AOps.unw rfl rfl rfl rfl ?_
        refine AOps.sim okL rfl rfl ?_
        refine AOps.sim okL rfl rfl ?_
        refine AOps.unw rfl rfl rfl rfl ?_
        refine AOps.unw rfl rfl rfl rfl ?_
        refine AOps.sim okL rfl rfl ?_
        refine AOps.sim okL rfl rfl ?_
        refine AOps.nil ?_
        refine AWp.ret ?_
        refine bodyQ_r (by first | exact ResOk.one rfl rfl | exact ResOk.two rfl rfl rfl | exact ResOk.three rfl rfl rfl rfl | exact ResOk.none rfl) ?_; simp_all [nodeR]
  · refine AWp.block ?_
    refine AWp.seq ?_
    refine AWp.seq ?_
    refine AWp.region ?_
    refine AOps.sim okL rfl rfl ?_
    refine AOps.sim okL rfl rfl ?_
    refine AOps.nil ?_
    refine seqQ_n ?_
    refine AWp.condCase rfl (fun h => ?_) (fun h => ?_)
    · refine AWp.skip ?_
      refine AWp.condT rfl ?_
      refine AWp.skip ?_
      refine blockQ_n ?_
      first | (refine hR _ _ _ (by intro h; cases h) ?_; refine bodyQ_r (by first | exact ResOk.one rfl rfl | exact ResOk.two rfl rfl rfl | exact ResOk.three rfl rfl rfl rfl | exact ResOk.none rfl) ?_; clear K hR; (first | (simp_all [nodeM]; done) | (simp_all [nodeM]; rfl))) | (refine K ⟨_, _, _, _, _, _, x.set, _⟩ ⟨?_, .inl rfl⟩ 0 _ _ ⟨rfl, rfl, rfl, rfl, trivial⟩ rfl; clear K hR; (first | (simp_all [nodeM]; done) | (simp_all [nodeM]; rfl))) | (refine K ⟨_, _, _, _, _, _, [], _⟩ ⟨?_, .inr ⟨rfl, rfl⟩⟩ 0 _ _ ⟨rfl, rfl, rfl, rfl, trivial⟩ rfl; clear K hR; (first | (simp_all [nodeM]; done) | (simp_all [nodeM]; rfl))) | (refine K ⟨decide (((x.l.map Pat.cells).length : Int) ≥ 2), ((x.l.map Pat.cells).length : Int), x.n, x.min, x.max, x.name, x.set, .ds (x.set.map spanC)⟩ ⟨?_, .inl rfl⟩ 0 _ _ ⟨rfl, rfl, rfl, rfl, trivial⟩ rfl; clear K hR; simp_all [nodeM]; done)
    · refine AWp.seq ?_
      refine AWp.region ?_
      refine AOps.sim okL rfl rfl ?_
      refine AOps.sim okL rfl rfl ?_
      refine AOps.nil ?_
      refine seqQ_n ?_
      refine AWp.condCase rfl (fun h => ?_) (fun h => ?_)
      · refine AWp.skip ?_
        refine AWp.condT rfl ?_
        refine AWp.skip ?_
        refine blockQ_n ?_
        first | (refine hR _ _ _ (by intro h; cases h) ?_; refine bodyQ_r (by first | exact ResOk.one rfl rfl | exact ResOk.two rfl rfl rfl | exact ResOk.three rfl rfl rfl rfl | exact ResOk.none rfl) ?_; clear K hR; (first | (simp_all [nodeM]; done) | (simp_all [nodeM]; rfl))) | (refine K ⟨_, _, _, _, _, _, x.set, _⟩ ⟨?_, .inl rfl⟩ 0 _ _ ⟨rfl, rfl, rfl, rfl, trivial⟩ rfl; clear K hR; (first | (simp_all [nodeM]; done) | (simp_all [nodeM]; rfl))) | (refine K ⟨_, _, _, _, _, _, [], _⟩ ⟨?_, .inr ⟨rfl, rfl⟩⟩ 0 _ _ ⟨rfl, rfl, rfl, rfl, trivial⟩ rfl; clear K hR; (first | (simp_all [nodeM]; done) | (simp_all [nodeM]; rfl))) | (refine K ⟨decide (((x.l.map Pat.cells).length : Int) ≥ 2), ((x.l.map Pat.cells).length : Int), x.n, x.min, x.max, x.name, x.set, .ds (x.set.map spanC)⟩ ⟨?_, .inl rfl⟩ 0 _ _ ⟨rfl, rfl, rfl, rfl, trivial⟩ rfl; clear K hR; simp_all [nodeM]; done)
      · refine AWp.seq ?_
        refine AWp.region ?_
        refine AOps.sim okL rfl rfl ?_
        refine AOps.sim okL rfl rfl ?_
        refine AOps.nil ?_
        refine seqQ_n ?_
        refine AWp.condCase rfl (fun h => ?_) (fun h => ?_)
        · refine AWp.skip ?_
          refine AWp.condT rfl ?_
          refine AWp.skip ?_
          refine blockQ_n ?_
          first | (refine hR _ _ _ (by intro h; cases h) ?_; refine bodyQ_r (by first | exact ResOk.one rfl rfl | exact ResOk.two rfl rfl rfl | exact ResOk.three rfl rfl rfl rfl | exact ResOk.none rfl) ?_; clear K hR; (first | (simp_all [nodeM]; done) | (simp_all [nodeM]; rfl))) | (refine K ⟨_, _, _, _, _, _, x.set, _⟩ ⟨?_, .inl rfl⟩ 0 _ _ ⟨rfl, rfl, rfl, rfl, trivial⟩ rfl; clear K hR; (first | (simp_all [nodeM]; done) | (simp_all [nodeM]; rfl))) | (refine K ⟨_, _, _, _, _, _, [], _⟩ ⟨?_, .inr ⟨rfl, rfl⟩⟩ 0 _ _ ⟨rfl, rfl, rfl, rfl, trivial⟩ rfl; clear K hR; (first | (simp_all [nodeM]; done) | (simp_all [nodeM]; rfl))) | (refine K ⟨decide (((x.l.map Pat.cells).length : Int) ≥ 2), ((x.l.map Pat.cells).length : Int), x.n, x.min, x.max, x.name, x.set, .ds (x.set.map spanC)⟩ ⟨?_, .inl rfl⟩ 0 _ _ ⟨rfl, rfl, rfl, rfl, trivial⟩ rfl; clear K hR; simp_all [nodeM]; done)
        · refine AWp.seq ?_
          refine AWp.region ?_
          refine AOps.sim okL rfl rfl ?_
          refine AOps.sim okL rfl rfl ?_
          refine AOps.nil ?_
          refine seqQ_n ?_
          refine AWp.condCase rfl (fun h => ?_) (fun h => ?_)
          · refine AWp.skip ?_
            refine AWp.condT rfl ?_
            refine AWp.skip ?_
            refine blockQ_n ?_
            first | (refine hR _ _ _ (by intro h; cases h) ?_; refine bodyQ_r (by first | exact ResOk.one rfl rfl | exact ResOk.two rfl rfl rfl | exact ResOk.three rfl rfl rfl rfl | exact ResOk.none rfl) ?_; clear K hR; (first | (simp_all [nodeM]; done) | (simp_all [nodeM]; rfl))) | (refine K ⟨_, _, _, _, _, _, x.set, _⟩ ⟨?_, .inl rfl⟩ 0 _ _ ⟨rfl, rfl, rfl, rfl, trivial⟩ rfl; clear K hR; (first | (simp_all [nodeM]; done) | (simp_all [nodeM]; rfl))) | (refine K ⟨_, _, _, _, _, _, [], _⟩ ⟨?_, .inr ⟨rfl, rfl⟩⟩ 0 _ _ ⟨rfl, rfl, rfl, rfl, trivial⟩ rfl; clear K hR; (first | (simp_all [nodeM]; done) | (simp_all [nodeM]; rfl))) | (refine K ⟨decide (((x.l.map Pat.cells).length : Int) ≥ 2), ((x.l.map Pat.cells).length : Int), x.n, x.min, x.max, x.name, x.set, .ds (x.set.map spanC)⟩ ⟨?_, .inl rfl⟩ 0 _ _ ⟨rfl, rfl, rfl, rfl, trivial⟩ rfl; clear K hR; simp_all [nodeM]; done)
          · refine AWp.region ?_
            refine AOps.sim okL rfl rfl ?_
            refine AOps.sim okL rfl rfl ?_
            refine AOps.nil ?_
            refine seqQ_n ?_
            refine AWp.condCase rfl (fun h => ?_) (fun h => ?_)
            · refine AWp.skip ?_
              refine blockQ_n ?_
              first | (refine hR _ _ _ (by intro h; cases h) ?_; refine bodyQ_r (by first | exact ResOk.one rfl rfl | exact ResOk.two rfl rfl rfl | exact ResOk.three rfl rfl rfl rfl | exact ResOk.none rfl) ?_; clear K hR; (first | (simp_all [nodeM]; done) | (simp_all [nodeM]; rfl))) | (refine K ⟨_, _, _, _, _, _, x.set, _⟩ ⟨?_, .inl rfl⟩ 0 _ _ ⟨rfl, rfl, rfl, rfl, trivial⟩ rfl; clear K hR; (first | (simp_all [nodeM]; done) | (simp_all [nodeM]; rfl))) | (refine K ⟨_, _, _, _, _, _, [], _⟩ ⟨?_, .inr ⟨rfl, rfl⟩⟩ 0 _ _ ⟨rfl, rfl, rfl, rfl, trivial⟩ rfl; clear K hR; (first | (simp_all [nodeM]; done) | (simp_all [nodeM]; rfl))) | (refine K ⟨decide (((x.l.map Pat.cells).length : Int) ≥ 2), ((x.l.map Pat.cells).length : Int), x.n, x.min, x.max, x.name, x.set, .ds (x.set.map spanC)⟩ ⟨?_, .inl rfl⟩ 0 _ _ ⟨rfl, rfl, rfl, rfl, trivial⟩ rfl; clear K hR; simp_all [nodeM]; done)
            · refine AWp.seq ?_
              refine AWp.region ?_
              refine AOps.sim okL rfl rfl ?_
              refine AOps.sim okL rfl rfl ?_
              refine AOps.nil ?_
              refine seqQ_n ?_
              refine AWp.condCase rfl (fun h => ?_) (fun h => ?_)
              · refine AWp.region ?_
                refine AOps.sim okL rfl rfl ?_
                refine AOps.pln ?_; refine AOp.load okL rfl (.tail _ (.head _)) rfl rfl rfl rfl ?_
                refine AOps.pln ?_; focus (refine AOp.callP (v := ?_) rfl rfl rfl ?_ ?_; rotate_left; exact (patIsChar_tr _))
                refine AOps.sim okL rfl rfl ?_
                refine AOps.sim okL rfl rfl ?_
                refine AOps.pln ?_; refine AOp.store okL rfl rfl rfl (isVal_or rfl) rfl rfl rfl .here rfl rfl rfl ?_
                refine AOps.nil ?_
                refine blockQ_n ?_
                first | (refine hR _ _ _ (by intro h; cases h) ?_; refine bodyQ_r (by first | exact ResOk.one rfl rfl | exact ResOk.two rfl rfl rfl | exact ResOk.three rfl rfl rfl rfl | exact ResOk.none rfl) ?_; clear K hR; (first | (simp_all [nodeM]; done) | (simp_all [nodeM]; rfl))) | (refine K ⟨_, _, _, _, _, _, x.set, _⟩ ⟨?_, .inl rfl⟩ 0 _ _ ⟨rfl, rfl, rfl, rfl, trivial⟩ rfl; clear K hR; (first | (simp_all [nodeM]; done) | (simp_all [nodeM]; rfl))) | (refine K ⟨_, _, _, _, _, _, [], _⟩ ⟨?_, .inr ⟨rfl, rfl⟩⟩ 0 _ _ ⟨rfl, rfl, rfl, rfl, trivial⟩ rfl; clear K hR; (first | (simp_all [nodeM]; done) | (simp_all [nodeM]; rfl))) | (refine K ⟨decide (((x.l.map Pat.cells).length : Int) ≥ 2), ((x.l.map Pat.cells).length : Int), x.n, x.min, x.max, x.name, x.set, .ds (x.set.map spanC)⟩ ⟨?_, .inl rfl⟩ 0 _ _ ⟨rfl, rfl, rfl, rfl, trivial⟩ rfl; clear K hR; simp_all [nodeM]; done)
              · refine AWp.seq ?_
                refine AWp.region ?_
                refine AOps.sim okL rfl rfl ?_
                refine AOps.sim okL rfl rfl ?_
                refine AOps.nil ?_
                refine seqQ_n ?_
                refine AWp.condCase rfl (fun h => ?_) (fun h => ?_)
                · refine AWp.region ?_
                  refine AOps.sim okL rfl rfl ?_
                  refine AOps.pln ?_; refine AOp.load okL rfl (.tail _ (.head _)) rfl rfl rfl rfl ?_
                  refine AOps.pln ?_; focus (refine AOp.callP (v := ?_) rfl rfl rfl ?_ ?_; rotate_left; exact (patWithin_tr _ _ _))
                  refine AOps.sim okL rfl rfl ?_
                  refine AOps.guardCase rfl rfl rfl (fun h => ?_) (fun h => ?_)
                  · refine AOps.simW okL rfl rfl rfl rfl ?_
                    refine AOps.wtd rfl rfl rfl ?_; refine AOp.load okL rfl (.tail _ (.head _)) rfl rfl rfl rfl ?_
                    refine AOps.wtd rfl rfl rfl ?_; focus (refine AOp.callP (v := ?_) rfl rfl rfl ?_ ?_; rotate_left; exact (patIsSet_tr _))
                    refine AOps.sim okL rfl rfl ?_
                    refine AOps.sim okL rfl rfl ?_
                    refine AOps.sim okL rfl rfl ?_
                    refine AOps.pln ?_; refine AOp.store okL rfl rfl rfl (isVal_or rfl) rfl rfl rfl .here rfl rfl rfl ?_
                    refine AOps.sim okL rfl rfl ?_
                    refine AOps.pln ?_; refine AOp.store okL rfl rfl rfl (isVal_or rfl) rfl rfl rfl .here rfl rfl rfl ?_
                    refine AOps.nil ?_
                    refine blockQ_n ?_
                    first | (refine hR _ _ _ (by intro h; cases h) ?_; refine bodyQ_r (by first | exact ResOk.one rfl rfl | exact ResOk.two rfl rfl rfl | exact ResOk.three rfl rfl rfl rfl | exact ResOk.none rfl) ?_; clear K hR; (first | (simp_all [nodeM]; done) | (simp_all [nodeM]; rfl))) | (refine K ⟨_, _, _, _, _, _, x.set, _⟩ ⟨?_, .inl rfl⟩ 0 _ _ ⟨rfl, rfl, rfl, rfl, trivial⟩ rfl; clear K hR; (first | (simp_all [nodeM]; done) | (simp_all [nodeM]; rfl))) | (refine K ⟨_, _, _, _, _, _, [], _⟩ ⟨?_, .inr ⟨rfl, rfl⟩⟩ 0 _ _ ⟨rfl, rfl, rfl, rfl, trivial⟩ rfl; clear K hR; (first | (simp_all [nodeM]; done) | (simp_all [nodeM]; rfl))) | (refine K ⟨decide (((x.l.map Pat.cells).length : Int) ≥ 2), ((x.l.map Pat.cells).length : Int), x.n, x.min, x.max, x.name, x.set, .ds (x.set.map spanC)⟩ ⟨?_, .inl rfl⟩ 0 _ _ ⟨rfl, rfl, rfl, rfl, trivial⟩ rfl; clear K hR; simp_all [nodeM]; done)
                  · refine AOps.unw rfl rfl rfl rfl ?_
                    refine AOps.unw rfl rfl rfl rfl ?_
                    refine AOps.unw rfl rfl rfl rfl ?_
                    refine AOps.sim okL rfl rfl ?_
                    refine AOps.sim okL rfl rfl ?_
                    refine AOps.sim okL rfl rfl ?_
                    refine AOps.pln ?_; refine AOp.store okL rfl rfl rfl (isVal_or rfl) rfl rfl rfl .here rfl rfl rfl ?_
                    refine AOps.sim okL rfl rfl ?_
                    refine AOps.pln ?_; refine AOp.store okL rfl rfl rfl (isVal_or rfl) rfl rfl rfl .here rfl rfl rfl ?_
                    refine AOps.nil ?_
                    refine blockQ_n ?_
                    first | (refine hR _ _ _ (by intro h; cases h) ?_; refine bodyQ_r (by first | exact ResOk.one rfl rfl | exact ResOk.two rfl rfl rfl | exact ResOk.three rfl rfl rfl rfl | exact ResOk.none rfl) ?_; clear K hR; (first | (simp_all [nodeM]; done) | (simp_all [nodeM]; rfl))) | (refine K ⟨_, _, _, _, _, _, x.set, _⟩ ⟨?_, .inl rfl⟩ 0 _ _ ⟨rfl, rfl, rfl, rfl, trivial⟩ rfl; clear K hR; (first | (simp_all [nodeM]; done) | (simp_all [nodeM]; rfl))) | (refine K ⟨_, _, _, _, _, _, [], _⟩ ⟨?_, .inr ⟨rfl, rfl⟩⟩ 0 _ _ ⟨rfl, rfl, rfl, rfl, trivial⟩ rfl; clear K hR; (first | (simp_all [nodeM]; done) | (simp_all [nodeM]; rfl))) | (refine K ⟨decide (((x.l.map Pat.cells).length : Int) ≥ 2), ((x.l.map Pat.cells).length : Int), x.n, x.min, x.max, x.name, x.set, .ds (x.set.map spanC)⟩ ⟨?_, .inl rfl⟩ 0 _ _ ⟨rfl, rfl, rfl, rfl, trivial⟩ rfl; clear K hR; simp_all [nodeM]; done)
                · refine AWp.seq ?_
                  refine AWp.seq ?_
                  refine AWp.region ?_
                  refine AOps.sim okL rfl rfl ?_
                  refine AOps.sim okL rfl rfl ?_
                  refine AOps.nil ?_
                  refine seqQ_n ?_
                  refine AWp.condCase rfl (fun h => ?_) (fun h => ?_)
                  · refine AWp.skip ?_
                    refine AWp.condT rfl ?_
                    refine AWp.seq ?_
                    refine AWp.region ?_
                    refine AOps.sim okL rfl rfl ?_
                    refine AOps.pln ?_; refine AOp.load okL rfl (.tail _ (.head _)) rfl rfl rfl rfl ?_
                    refine AOps.sim okL rfl rfl ?_
                    refine AOps.sim okL rfl rfl ?_
                    refine AOps.sim okL rfl rfl ?_
                    refine AOps.nil ?_
                    refine AWp.region ?_
                    refine AOps.sim okL rfl rfl ?_
                    refine AOps.pln ?_; refine AOp.load okL rfl (.tail _ (.head _)) rfl rfl rfl rfl ?_
                    refine AOps.sim okL rfl rfl ?_
                    refine AOps.sim okL rfl rfl ?_
                    refine AOps.nil ?_
                    refine blockQ_n ?_
                    first | (refine hR _ _ _ (by intro h; cases h) ?_; refine bodyQ_r (by first | exact ResOk.one rfl rfl | exact ResOk.two rfl rfl rfl | exact ResOk.three rfl rfl rfl rfl | exact ResOk.none rfl) ?_; clear K hR; (first | (simp_all [nodeM]; done) | (simp_all [nodeM]; rfl))) | (refine K ⟨_, _, _, _, _, _, x.set, _⟩ ⟨?_, .inl rfl⟩ 0 _ _ ⟨rfl, rfl, rfl, rfl, trivial⟩ rfl; clear K hR; (first | (simp_all [nodeM]; done) | (simp_all [nodeM]; rfl))) | (refine K ⟨_, _, _, _, _, _, [], _⟩ ⟨?_, .inr ⟨rfl, rfl⟩⟩ 0 _ _ ⟨rfl, rfl, rfl, rfl, trivial⟩ rfl; clear K hR; (first | (simp_all [nodeM]; done) | (simp_all [nodeM]; rfl))) | (refine K ⟨decide (((x.l.map Pat.cells).length : Int) ≥ 2), ((x.l.map Pat.cells).length : Int), x.n, x.min, x.max, x.name, x.set, .ds (x.set.map spanC)⟩ ⟨?_, .inl rfl⟩ 0 _ _ ⟨rfl, rfl, rfl, rfl, trivial⟩ rfl; clear K hR; simp_all [nodeM]; done)
                  · refine AWp.region ?_
                    refine AOps.sim okL rfl rfl ?_
                    refine AOps.sim okL rfl rfl ?_
                    refine AOps.nil ?_
                    refine seqQ_n ?_
                    refine AWp.condCase rfl (fun h => ?_) (fun h => ?_)
                    · refine AWp.seq ?_
                      refine AWp.region ?_
                      refine AOps.sim okL rfl rfl ?_
                      refine AOps.pln ?_; refine AOp.load okL rfl (.tail _ (.head _)) rfl rfl rfl rfl ?_
                      refine AOps.sim okL rfl rfl ?_
                      refine AOps.sim okL rfl rfl ?_
                      refine AOps.sim okL rfl rfl ?_
                      refine AOps.nil ?_
                      refine AWp.region ?_
                      refine AOps.sim okL rfl rfl ?_
                      refine AOps.pln ?_; refine AOp.load okL rfl (.tail _ (.head _)) rfl rfl rfl rfl ?_
                      refine AOps.sim okL rfl rfl ?_
                      refine AOps.sim okL rfl rfl ?_
                      refine AOps.nil ?_
                      refine blockQ_n ?_
                      first | (refine hR _ _ _ (by intro h; cases h) ?_; refine bodyQ_r (by first | exact ResOk.one rfl rfl | exact ResOk.two rfl rfl rfl | exact ResOk.three rfl rfl rfl rfl | exact ResOk.none rfl) ?_; clear K hR; (first | (simp_all [nodeM]; done) | (simp_all [nodeM]; rfl))) | (refine K ⟨_, _, _, _, _, _, x.set, _⟩ ⟨?_, .inl rfl⟩ 0 _ _ ⟨rfl, rfl, rfl, rfl, trivial⟩ rfl; clear K hR; (first | (simp_all [nodeM]; done) | (simp_all [nodeM]; rfl))) | (refine K ⟨_, _, _, _, _, _, [], _⟩ ⟨?_, .inr ⟨rfl, rfl⟩⟩ 0 _ _ ⟨rfl, rfl, rfl, rfl, trivial⟩ rfl; clear K hR; (first | (simp_all [nodeM]; done) | (simp_all [nodeM]; rfl))) | (refine K ⟨decide (((x.l.map Pat.cells).length : Int) ≥ 2), ((x.l.map Pat.cells).length : Int), x.n, x.min, x.max, x.name, x.set, .ds (x.set.map spanC)⟩ ⟨?_, .inl rfl⟩ 0 _ _ ⟨rfl, rfl, rfl, rfl, trivial⟩ rfl; clear K hR; simp_all [nodeM]; done)
                    · refine AWp.seq ?_
                      refine AWp.region ?_
                      refine AOps.sim okL rfl rfl ?_
                      refine AOps.sim okL rfl rfl ?_
                      refine AOps.nil ?_
                      refine seqQ_n ?_
                      refine AWp.condCase rfl (fun h => ?_) (fun h => ?_)
                      · refine AWp.seq ?_
                        refine AWp.region ?_
                        refine AOps.sim okL rfl rfl ?_
                        refine AOps.pln ?_; refine AOp.load okL rfl (.tail _ (.head _)) rfl rfl rfl rfl ?_
                        refine AOps.pln ?_; focus (refine AOp.callP (v := ?_) rfl rfl rfl ?_ ?_; rotate_left; exact (patWithin_tr _ _ _))
                        refine AOps.sim okL rfl rfl ?_
                        refine AOps.guardCase rfl rfl rfl (fun h => ?_) (fun h => ?_)
                        · refine AOps.simW okL rfl rfl rfl rfl ?_
                          refine AOps.wtd rfl rfl rfl ?_; refine AOp.load okL rfl (.tail _ (.head _)) rfl rfl rfl rfl ?_
                          refine AOps.wtd rfl rfl rfl ?_; focus (refine AOp.callP (v := ?_) rfl rfl rfl ?_ ?_; rotate_left; exact (patWithin_tr _ _ _))
                          refine AOps.sim okL rfl rfl ?_
                          refine AOps.sim okL rfl rfl ?_
                          refine AOps.guardCase rfl rfl rfl (fun h => ?_) (fun h => ?_)
                          · refine AOps.simW okL rfl rfl rfl rfl ?_
                            refine AOps.wtd rfl rfl rfl ?_; refine AOp.load okL rfl (.tail _ (.head _)) rfl rfl rfl rfl ?_
                            refine AOps.simW okL rfl rfl rfl rfl ?_
                            refine AOps.simW okL rfl rfl rfl rfl ?_
                            refine AOps.guardCase rfl rfl rfl (fun h => ?_) (fun h => ?_)
                            · refine AOps.unw rfl rfl rfl rfl ?_
                              refine AOps.unw rfl rfl rfl rfl ?_
                              refine AOps.unw rfl rfl rfl rfl ?_
                              refine AOps.unw rfl rfl rfl rfl ?_
                              refine AOps.unw rfl rfl rfl rfl ?_
                              refine AOps.unw rfl rfl rfl rfl ?_
                              refine AOps.simW okL rfl rfl rfl rfl ?_
                              refine AOps.sim okL rfl rfl ?_
                              refine AOps.sim okL rfl rfl ?_
                              refine AOps.nil ?_
                              refine AWp.region ?_
                              refine AOps.sim okL rfl rfl ?_
                              refine AOps.sim okL rfl rfl ?_
                              refine AOps.pln ?_; refine AOp.store okL rfl rfl rfl (isVal_or rfl) rfl rfl rfl .here rfl rfl rfl ?_
                              refine AOps.sim okL rfl rfl ?_
                              refine AOps.pln ?_; refine AOp.store okL rfl rfl rfl (isVal_or rfl) rfl rfl rfl .here rfl rfl rfl ?_
                              refine AOps.sim okL rfl rfl ?_
                              refine AOps.pln ?_; refine AOp.store okL rfl rfl rfl (isVal_or rfl) rfl rfl rfl .here rfl rfl rfl ?_
                              refine AOps.nil ?_
                              refine blockQ_n ?_
                              first | (refine hR _ _ _ (by intro h; cases h) ?_; refine bodyQ_r (by first | exact ResOk.one rfl rfl | exact ResOk.two rfl rfl rfl | exact ResOk.three rfl rfl rfl rfl | exact ResOk.none rfl) ?_; clear K hR; (first | (simp_all [nodeM]; done) | (simp_all [nodeM]; rfl))) | (refine K ⟨_, _, _, _, _, _, x.set, _⟩ ⟨?_, .inl rfl⟩ 0 _ _ ⟨rfl, rfl, rfl, rfl, trivial⟩ rfl; clear K hR; (first | (simp_all [nodeM]; done) | (simp_all [nodeM]; rfl))) | (refine K ⟨_, _, _, _, _, _, [], _⟩ ⟨?_, .inr ⟨rfl, rfl⟩⟩ 0 _ _ ⟨rfl, rfl, rfl, rfl, trivial⟩ rfl; clear K hR; (first | (simp_all [nodeM]; done) | (simp_all [nodeM]; rfl))) | (refine K ⟨decide (((x.l.map Pat.cells).length : Int) ≥ 2), ((x.l.map Pat.cells).length : Int), x.n, x.min, x.max, x.name, x.set, .ds (x.set.map spanC)⟩ ⟨?_, .inl rfl⟩ 0 _ _ ⟨rfl, rfl, rfl, rfl, trivial⟩ rfl; clear K hR; simp_all [nodeM]; done)
                            · refine AOps.simW okL rfl rfl rfl rfl ?_
                              refine AOps.wtd rfl rfl rfl ?_; refine AOp.load okL rfl (.tail _ (.head _)) rfl rfl rfl rfl ?_
                              refine AOps.simW okL rfl rfl rfl rfl ?_
                              refine AOps.wtd rfl rfl rfl ?_; refine AOp.load okL rfl (.tail _ (.head _)) rfl rfl rfl rfl ?_
                              refine AOps.simW okL rfl rfl rfl rfl ?_
                              refine AOps.wtd rfl rfl rfl ?_; focus (refine AOp.callP (v := ?_) rfl rfl rfl ?_ ?_; rotate_left; exact (patWithin_tr _ _ _))
                              refine AOps.simW okL rfl rfl rfl rfl ?_
                              refine AOps.sim okL rfl rfl ?_
                              refine AOps.sim okL rfl rfl ?_
                              refine AOps.nil ?_
                              refine AWp.region ?_
                              refine AOps.sim okL rfl rfl ?_
                              refine AOps.sim okL rfl rfl ?_
                              refine AOps.pln ?_; refine AOp.store okL rfl rfl rfl (isVal_or rfl) rfl rfl rfl .here rfl rfl rfl ?_
                              refine AOps.sim okL rfl rfl ?_
                              refine AOps.pln ?_; refine AOp.store okL rfl rfl rfl (isVal_or rfl) rfl rfl rfl .here rfl rfl rfl ?_
                              refine AOps.sim okL rfl rfl ?_
                              refine AOps.pln ?_; refine AOp.store okL rfl rfl rfl (isVal_or rfl) rfl rfl rfl .here rfl rfl rfl ?_
                              refine AOps.nil ?_
                              refine blockQ_n ?_
                              first | (refine hR _ _ _ (by intro h; cases h) ?_; refine bodyQ_r (by first | exact ResOk.one rfl rfl | exact ResOk.two rfl rfl rfl | exact ResOk.three rfl rfl rfl rfl | exact ResOk.none rfl) ?_; clear K hR; (first | (simp_all [nodeM]; done) | (simp_all [nodeM]; rfl))) | (refine K ⟨_, _, _, _, _, _, x.set, _⟩ ⟨?_, .inl rfl⟩ 0 _ _ ⟨rfl, rfl, rfl, rfl, trivial⟩ rfl; clear K hR; (first | (simp_all [nodeM]; done) | (simp_all [nodeM]; rfl))) | (refine K ⟨_, _, _, _, _, _, [], _⟩ ⟨?_, .inr ⟨rfl, rfl⟩⟩ 0 _ _ ⟨rfl, rfl, rfl, rfl, trivial⟩ rfl; clear K hR; (first | (simp_all [nodeM]; done) | (simp_all [nodeM]; rfl))) | (refine K ⟨decide (((x.l.map Pat.cells).length : Int) ≥ 2), ((x.l.map Pat.cells).length : Int), x.n, x.min, x.max, x.name, x.set, .ds (x.set.map spanC)⟩ ⟨?_, .inl rfl⟩ 0 _ _ ⟨rfl, rfl, rfl, rfl, trivial⟩ rfl; clear K hR; simp_all [nodeM]; done)
                          · refine AOps.unw rfl rfl rfl rfl ?_
                            refine AOps.unw rfl rfl rfl rfl ?_
                            refine AOps.unw rfl rfl rfl rfl ?_
                            refine AOps.unw rfl rfl rfl rfl ?_
                            refine AOps.unwU rfl rfl rfl ?_
                            refine AOps.unwU rfl rfl rfl ?_
                            refine AOps.unwU rfl rfl rfl ?_
                            refine AOps.unwU rfl rfl rfl ?_
                            refine AOps.unwU rfl rfl rfl ?_
                            refine AOps.unwU rfl rfl rfl ?_
                            refine AOps.unw rfl rfl rfl rfl ?_
                            refine AOps.sim okL rfl rfl ?_
                            refine AOps.sim okL rfl rfl ?_
                            refine AOps.nil ?_
                            refine AWp.region ?_
                            refine AOps.sim okL rfl rfl ?_
                            refine AOps.sim okL rfl rfl ?_
                            refine AOps.pln ?_; refine AOp.store okL rfl rfl rfl (isVal_or rfl) rfl rfl rfl .here rfl rfl rfl ?_
                            refine AOps.sim okL rfl rfl ?_
                            refine AOps.pln ?_; refine AOp.store okL rfl rfl rfl (isVal_or rfl) rfl rfl rfl .here rfl rfl rfl ?_
                            refine AOps.sim okL rfl rfl ?_
                            refine AOps.pln ?_; refine AOp.store okL rfl rfl rfl (isVal_or rfl) rfl rfl rfl .here rfl rfl rfl ?_
                            refine AOps.nil ?_
                            refine blockQ_n ?_
                            first | (refine hR _ _ _ (by intro h; cases h) ?_; refine bodyQ_r (by first | exact ResOk.one rfl rfl | exact ResOk.two rfl rfl rfl | exact ResOk.three rfl rfl rfl rfl | exact ResOk.none rfl) ?_; clear K hR; (first | (simp_all [nodeM]; done) | (simp_all [nodeM]; rfl))) | (refine K ⟨_, _, _, _, _, _, x.set, _⟩ ⟨?_, .inl rfl⟩ 0 _ _ ⟨rfl, rfl, rfl, rfl, trivial⟩ rfl; clear K hR; (first | (simp_all [nodeM]; done) | (simp_all [nodeM]; rfl))) | (refine K ⟨_, _, _, _, _, _, [], _⟩ ⟨?_, .inr ⟨rfl, rfl⟩⟩ 0 _ _ ⟨rfl, rfl, rfl, rfl, trivial⟩ rfl; clear K hR; (first | (simp_all [nodeM]; done) | (simp_all [nodeM]; rfl))) | (refine K ⟨decide (((x.l.map Pat.cells).length : Int) ≥ 2), ((x.l.map Pat.cells).length : Int), x.n, x.min, x.max, x.name, x.set, .ds (x.set.map spanC)⟩ ⟨?_, .inl rfl⟩ 0 _ _ ⟨rfl, rfl, rfl, rfl, trivial⟩ rfl; clear K hR; simp_all [nodeM]; done)
                        · refine AOps.unw rfl rfl rfl rfl ?_
                          refine AOps.unw rfl rfl rfl rfl ?_
                          refine AOps.unw rfl rfl rfl rfl ?_
                          refine AOps.sim okL rfl rfl ?_
                          refine AOps.sim okL rfl rfl ?_
                          refine AOps.unw rfl rfl rfl rfl ?_
                          refine AOps.unw rfl rfl rfl rfl ?_
                          refine AOps.unw rfl rfl rfl rfl ?_
                          refine AOps.unw rfl rfl rfl rfl ?_
                          refine AOps.unwU rfl rfl rfl ?_
                          refine AOps.unwU rfl rfl rfl ?_
                          refine AOps.unwU rfl rfl rfl ?_
                          refine AOps.unwU rfl rfl rfl ?_
                          refine AOps.unwU rfl rfl rfl ?_
                          refine AOps.unwU rfl rfl rfl ?_
                          refine AOps.unw rfl rfl rfl rfl ?_
                          refine AOps.sim okL rfl rfl ?_
                          refine AOps.sim okL rfl rfl ?_
                          refine AOps.nil ?_
                          refine AWp.region ?_
                          refine AOps.sim okL rfl rfl ?_
                          refine AOps.sim okL rfl rfl ?_
                          refine AOps.pln ?_; refine AOp.store okL rfl rfl rfl (isVal_or rfl) rfl rfl rfl .here rfl rfl rfl ?_
                          refine AOps.sim okL rfl rfl ?_
                          refine AOps.pln ?_; refine AOp.store okL rfl rfl rfl (isVal_or rfl) rfl rfl rfl .here rfl rfl rfl ?_
                          refine AOps.sim okL rfl rfl ?_
                          refine AOps.pln ?_; refine AOp.store okL rfl rfl rfl (isVal_or rfl) rfl rfl rfl .here rfl rfl rfl ?_
                          refine AOps.nil ?_
                          refine blockQ_n ?_
                          first | (refine hR _ _ _ (by intro h; cases h) ?_; refine bodyQ_r (by first | exact ResOk.one rfl rfl | exact ResOk.two rfl rfl rfl | exact ResOk.three rfl rfl rfl rfl | exact ResOk.none rfl) ?_; clear K hR; (first | (simp_all [nodeM]; done) | (simp_all [nodeM]; rfl))) | (refine K ⟨_, _, _, _, _, _, x.set, _⟩ ⟨?_, .inl rfl⟩ 0 _ _ ⟨rfl, rfl, rfl, rfl, trivial⟩ rfl; clear K hR; (first | (simp_all [nodeM]; done) | (simp_all [nodeM]; rfl))) | (refine K ⟨_, _, _, _, _, _, [], _⟩ ⟨?_, .inr ⟨rfl, rfl⟩⟩ 0 _ _ ⟨rfl, rfl, rfl, rfl, trivial⟩ rfl; clear K hR; (first | (simp_all [nodeM]; done) | (simp_all [nodeM]; rfl))) | (refine K ⟨decide (((x.l.map Pat.cells).length : Int) ≥ 2), ((x.l.map Pat.cells).length : Int), x.n, x.min, x.max, x.name, x.set, .ds (x.set.map spanC)⟩ ⟨?_, .inl rfl⟩ 0 _ _ ⟨rfl, rfl, rfl, rfl, trivial⟩ rfl; clear K hR; simp_all [nodeM]; done)
                      · refine AWp.seq ?_
                        refine AWp.region ?_
                        refine AOps.sim okL rfl rfl ?_
                        refine AOps.sim okL rfl rfl ?_
                        refine AOps.nil ?_
                        refine seqQ_n ?_
                        refine AWp.condCase rfl (fun h => ?_) (fun h => ?_)
                        · refine AWp.seq ?_
                          refine AWp.region ?_
                          refine AOps.sim okL rfl rfl ?_
                          refine AOps.pln ?_; refine AOp.load okL rfl (.tail _ (.head _)) rfl rfl rfl rfl ?_
                          refine AOps.sim okL rfl rfl ?_
                          refine AOps.sim okL rfl rfl ?_
                          refine AOps.guardCase rfl rfl rfl (fun h => ?_) (fun h => ?_)
                          · refine AOps.unw rfl rfl rfl rfl ?_
                            refine AOps.unw rfl rfl rfl rfl ?_
                            refine AOps.unw rfl rfl rfl rfl ?_
                            refine AOps.sim okL rfl rfl ?_
                            refine AOps.sim okL rfl rfl ?_
                            refine AOps.nil ?_
                            refine AWp.region ?_
                            refine AOps.sim okL rfl rfl ?_
                            refine AOps.sim okL rfl rfl ?_
                            refine AOps.pln ?_; refine AOp.store okL rfl rfl rfl (isVal_or rfl) rfl rfl rfl .here rfl rfl rfl ?_
                            refine AOps.sim okL rfl rfl ?_
                            refine AOps.pln ?_; refine AOp.store okL rfl rfl rfl (isVal_or rfl) rfl rfl rfl .here rfl rfl rfl ?_
                            refine AOps.nil ?_
                            refine blockQ_n ?_
                            first | (refine hR _ _ _ (by intro h; cases h) ?_; refine bodyQ_r (by first | exact ResOk.one rfl rfl | exact ResOk.two rfl rfl rfl | exact ResOk.three rfl rfl rfl rfl | exact ResOk.none rfl) ?_; clear K hR; (first | (simp_all [nodeM]; done) | (simp_all [nodeM]; rfl))) | (refine K ⟨_, _, _, _, _, _, x.set, _⟩ ⟨?_, .inl rfl⟩ 0 _ _ ⟨rfl, rfl, rfl, rfl, trivial⟩ rfl; clear K hR; (first | (simp_all [nodeM]; done) | (simp_all [nodeM]; rfl))) | (refine K ⟨_, _, _, _, _, _, [], _⟩ ⟨?_, .inr ⟨rfl, rfl⟩⟩ 0 _ _ ⟨rfl, rfl, rfl, rfl, trivial⟩ rfl; clear K hR; (first | (simp_all [nodeM]; done) | (simp_all [nodeM]; rfl))) | (refine K ⟨decide (((x.l.map Pat.cells).length : Int) ≥ 2), ((x.l.map Pat.cells).length : Int), x.n, x.min, x.max, x.name, x.set, .ds (x.set.map spanC)⟩ ⟨?_, .inl rfl⟩ 0 _ _ ⟨rfl, rfl, rfl, rfl, trivial⟩ rfl; clear K hR; simp_all [nodeM]; done)
                          · refine AOps.simW okL rfl rfl rfl rfl ?_
                            refine AOps.wtd rfl rfl rfl ?_; refine AOp.load okL rfl (.tail _ (.head _)) rfl rfl rfl rfl ?_
                            refine AOps.wtd rfl rfl rfl ?_; focus (refine AOp.callP (v := ?_) rfl rfl rfl ?_ ?_; rotate_left; exact (patIsName_tr _))
                            refine AOps.sim okL rfl rfl ?_
                            refine AOps.sim okL rfl rfl ?_
                            refine AOps.nil ?_
                            refine AWp.region ?_
                            refine AOps.sim okL rfl rfl ?_
                            refine AOps.sim okL rfl rfl ?_
                            refine AOps.pln ?_; refine AOp.store okL rfl rfl rfl (isVal_or rfl) rfl rfl rfl .here rfl rfl rfl ?_
                            refine AOps.sim okL rfl rfl ?_
                            refine AOps.pln ?_; refine AOp.store okL rfl rfl rfl (isVal_or rfl) rfl rfl rfl .here rfl rfl rfl ?_
                            refine AOps.nil ?_
                            refine blockQ_n ?_
                            first | (refine hR _ _ _ (by intro h; cases h) ?_; refine bodyQ_r (by first | exact ResOk.one rfl rfl | exact ResOk.two rfl rfl rfl | exact ResOk.three rfl rfl rfl rfl | exact ResOk.none rfl) ?_; clear K hR; (first | (simp_all [nodeM]; done) | (simp_all [nodeM]; rfl))) | (refine K ⟨_, _, _, _, _, _, x.set, _⟩ ⟨?_, .inl rfl⟩ 0 _ _ ⟨rfl, rfl, rfl, rfl, trivial⟩ rfl; clear K hR; (first | (simp_all [nodeM]; done) | (simp_all [nodeM]; rfl))) | (refine K ⟨_, _, _, _, _, _, [], _⟩ ⟨?_, .inr ⟨rfl, rfl⟩⟩ 0 _ _ ⟨rfl, rfl, rfl, rfl, trivial⟩ rfl; clear K hR; (first | (simp_all [nodeM]; done) | (simp_all [nodeM]; rfl))) | (refine K ⟨decide (((x.l.map Pat.cells).length : Int) ≥ 2), ((x.l.map Pat.cells).length : Int), x.n, x.min, x.max, x.name, x.set, .ds (x.set.map spanC)⟩ ⟨?_, .inl rfl⟩ 0 _ _ ⟨rfl, rfl, rfl, rfl, trivial⟩ rfl; clear K hR; simp_all [nodeM]; done)
                        · refine AWp.seq ?_
                          refine AWp.region ?_
                          refine AOps.sim okL rfl rfl ?_
                          refine AOps.sim okL rfl rfl ?_
                          refine AOps.nil ?_
                          refine seqQ_n ?_
                          refine AWp.condCase rfl (fun h => ?_) (fun h => ?_)
                          · refine AWp.region ?_
                            refine AOps.sim okL rfl rfl ?_
                            refine AOps.nil ?_
                            refine blockQ_n ?_
                            first | (refine hR _ _ _ (by intro h; cases h) ?_; refine bodyQ_r (by first | exact ResOk.one rfl rfl | exact ResOk.two rfl rfl rfl | exact ResOk.three rfl rfl rfl rfl | exact ResOk.none rfl) ?_; clear K hR; (first | (simp_all [nodeM]; done) | (simp_all [nodeM]; rfl))) | (refine K ⟨_, _, _, _, _, _, x.set, _⟩ ⟨?_, .inl rfl⟩ 0 _ _ ⟨rfl, rfl, rfl, rfl, trivial⟩ rfl; clear K hR; (first | (simp_all [nodeM]; done) | (simp_all [nodeM]; rfl))) | (refine K ⟨_, _, _, _, _, _, [], _⟩ ⟨?_, .inr ⟨rfl, rfl⟩⟩ 0 _ _ ⟨rfl, rfl, rfl, rfl, trivial⟩ rfl; clear K hR; (first | (simp_all [nodeM]; done) | (simp_all [nodeM]; rfl))) | (refine K ⟨decide (((x.l.map Pat.cells).length : Int) ≥ 2), ((x.l.map Pat.cells).length : Int), x.n, x.min, x.max, x.name, x.set, .ds (x.set.map spanC)⟩ ⟨?_, .inl rfl⟩ 0 _ _ ⟨rfl, rfl, rfl, rfl, trivial⟩ rfl; clear K hR; simp_all [nodeM]; done)
                          · refine AWp.seq ?_
                            refine AWp.region ?_
                            refine AOps.sim okL rfl rfl ?_
                            refine AOps.sim okL rfl rfl ?_
                            refine AOps.nil ?_
                            refine seqQ_n ?_
                            refine AWp.condCase rfl (fun h => ?_) (fun h => ?_)
                            · refine AWp.region ?_
                              refine AOps.sim okL rfl rfl ?_
                              refine AOps.pln ?_; refine AOp.load okL rfl (.tail _ (.head _)) rfl rfl rfl rfl ?_
                              refine AOps.pln ?_; focus (refine AOp.callP (v := ?_) rfl rfl rfl ?_ ?_; rotate_left; exact (patWithin_tr _ _ _))
                              refine AOps.sim okL rfl rfl ?_
                              refine AOps.sim okL rfl rfl ?_
                              refine AOps.sim okL rfl rfl ?_
                              refine AOps.pln ?_; refine AOp.store okL rfl rfl rfl (isVal_or rfl) rfl rfl rfl .here rfl rfl rfl ?_
                              refine AOps.nil ?_
                              refine blockQ_n ?_
                              first | (refine hR _ _ _ (by intro h; cases h) ?_; refine bodyQ_r (by first | exact ResOk.one rfl rfl | exact ResOk.two rfl rfl rfl | exact ResOk.three rfl rfl rfl rfl | exact ResOk.none rfl) ?_; clear K hR; (first | (simp_all [nodeM]; done) | (simp_all [nodeM]; rfl))) | (refine K ⟨_, _, _, _, _, _, x.set, _⟩ ⟨?_, .inl rfl⟩ 0 _ _ ⟨rfl, rfl, rfl, rfl, trivial⟩ rfl; clear K hR; (first | (simp_all [nodeM]; done) | (simp_all [nodeM]; rfl))) | (refine K ⟨_, _, _, _, _, _, [], _⟩ ⟨?_, .inr ⟨rfl, rfl⟩⟩ 0 _ _ ⟨rfl, rfl, rfl, rfl, trivial⟩ rfl; clear K hR; (first | (simp_all [nodeM]; done) | (simp_all [nodeM]; rfl))) | (refine K ⟨decide (((x.l.map Pat.cells).length : Int) ≥ 2), ((x.l.map Pat.cells).length : Int), x.n, x.min, x.max, x.name, x.set, .ds (x.set.map spanC)⟩ ⟨?_, .inl rfl⟩ 0 _ _ ⟨rfl, rfl, rfl, rfl, trivial⟩ rfl; clear K hR; simp_all [nodeM]; done)
                            · refine AWp.seq ?_
                              refine AWp.region ?_
                              refine AOps.sim okL rfl rfl ?_
                              refine AOps.sim okL rfl rfl ?_
                              refine AOps.nil ?_
                              refine seqQ_n ?_
                              refine AWp.condCase rfl (fun h => ?_) (fun h => ?_)
                              · refine AWp.region ?_
                                refine AOps.sim okL rfl rfl ?_
                                refine AOps.pln ?_; refine AOp.load okL rfl (.tail _ (.head _)) rfl rfl rfl rfl ?_
                                refine AOps.sim okL rfl rfl ?_
                                refine AOps.pln ?_; focus (refine AOp.callP (v := ?_) rfl rfl rfl ?_ ?_; rotate_left; exact (patWithin_tr _ _ _))
                                refine AOps.sim okL rfl rfl ?_
                                refine AOps.sim okL rfl rfl ?_
                                refine AOps.pln ?_; refine AOp.store okL rfl rfl rfl (isVal_or rfl) rfl rfl rfl .here rfl rfl rfl ?_
                                refine AOps.nil ?_
                                refine blockQ_n ?_
                                first | (refine hR _ _ _ (by intro h; cases h) ?_; refine bodyQ_r (by first | exact ResOk.one rfl rfl | exact ResOk.two rfl rfl rfl | exact ResOk.three rfl rfl rfl rfl | exact ResOk.none rfl) ?_; clear K hR; (first | (simp_all [nodeM]; done) | (simp_all [nodeM]; rfl))) | (refine K ⟨_, _, _, _, _, _, x.set, _⟩ ⟨?_, .inl rfl⟩ 0 _ _ ⟨rfl, rfl, rfl, rfl, trivial⟩ rfl; clear K hR; (first | (simp_all [nodeM]; done) | (simp_all [nodeM]; rfl))) | (refine K ⟨_, _, _, _, _, _, [], _⟩ ⟨?_, .inr ⟨rfl, rfl⟩⟩ 0 _ _ ⟨rfl, rfl, rfl, rfl, trivial⟩ rfl; clear K hR; (first | (simp_all [nodeM]; done) | (simp_all [nodeM]; rfl))) | (refine K ⟨decide (((x.l.map Pat.cells).length : Int) ≥ 2), ((x.l.map Pat.cells).length : Int), x.n, x.min, x.max, x.name, x.set, .ds (x.set.map spanC)⟩ ⟨?_, .inl rfl⟩ 0 _ _ ⟨rfl, rfl, rfl, rfl, trivial⟩ rfl; clear K hR; simp_all [nodeM]; done)
                              · refine AWp.seq ?_
                                refine AWp.region ?_
                                refine AOps.sim okL rfl rfl ?_
                                refine AOps.sim okL rfl rfl ?_
                                refine AOps.nil ?_
                                refine seqQ_n ?_
                                refine AWp.condCase rfl (fun h => ?_) (fun h => ?_)
                                · refine AWp.region ?_
                                  refine AOps.sim okL rfl rfl ?_
                                  refine AOps.pln ?_; refine AOp.load okL rfl (.tail _ (.head _)) rfl rfl rfl rfl ?_
                                  refine AOps.pln ?_; focus (refine AOp.callP (v := ?_) rfl rfl rfl ?_ ?_; rotate_left; exact (patWithin_tr _ _ _))
                                  refine AOps.sim okL rfl rfl ?_
                                  refine AOps.sim okL rfl rfl ?_
                                  refine AOps.pln ?_; refine AOp.store okL rfl rfl rfl (isVal_or rfl) rfl rfl rfl .here rfl rfl rfl ?_
                                  refine AOps.nil ?_
                                  refine blockQ_n ?_
                                  first | (refine hR _ _ _ (by intro h; cases h) ?_; refine bodyQ_r (by first | exact ResOk.one rfl rfl | exact ResOk.two rfl rfl rfl | exact ResOk.three rfl rfl rfl rfl | exact ResOk.none rfl) ?_; clear K hR; (first | (simp_all [nodeM]; done) | (simp_all [nodeM]; rfl))) | (refine K ⟨_, _, _, _, _, _, x.set, _⟩ ⟨?_, .inl rfl⟩ 0 _ _ ⟨rfl, rfl, rfl, rfl, trivial⟩ rfl; clear K hR; (first | (simp_all [nodeM]; done) | (simp_all [nodeM]; rfl))) | (refine K ⟨_, _, _, _, _, _, [], _⟩ ⟨?_, .inr ⟨rfl, rfl⟩⟩ 0 _ _ ⟨rfl, rfl, rfl, rfl, trivial⟩ rfl; clear K hR; (first | (simp_all [nodeM]; done) | (simp_all [nodeM]; rfl))) | (refine K ⟨decide (((x.l.map Pat.cells).length : Int) ≥ 2), ((x.l.map Pat.cells).length : Int), x.n, x.min, x.max, x.name, x.set, .ds (x.set.map spanC)⟩ ⟨?_, .inl rfl⟩ 0 _ _ ⟨rfl, rfl, rfl, rfl, trivial⟩ rfl; clear K hR; simp_all [nodeM]; done)
                                · refine AWp.seq ?_
                                  refine AWp.region ?_
                                  refine AOps.sim okL rfl rfl ?_
                                  refine AOps.sim okL rfl rfl ?_
                                  refine AOps.nil ?_
                                  refine seqQ_n ?_
                                  refine AWp.condCase rfl (fun h => ?_) (fun h => ?_)
                                  · refine AWp.region ?_
                                    refine AOps.sim okL rfl rfl ?_
                                    refine AOps.pln ?_; refine AOp.load okL rfl (.tail _ (.head _)) rfl rfl rfl rfl ?_
                                    refine AOps.sim okL rfl rfl ?_
                                    refine AOps.pln ?_; focus (refine AOp.callP (v := ?_) rfl rfl rfl ?_ ?_; rotate_left; exact (patWithin_tr _ _ _))
                                    refine AOps.sim okL rfl rfl ?_
                                    refine AOps.sim okL rfl rfl ?_
                                    refine AOps.pln ?_; refine AOp.store okL rfl rfl rfl (isVal_or rfl) rfl rfl rfl .here rfl rfl rfl ?_
                                    refine AOps.nil ?_
                                    refine blockQ_n ?_
                                    first | (refine hR _ _ _ (by intro h; cases h) ?_; refine bodyQ_r (by first | exact ResOk.one rfl rfl | exact ResOk.two rfl rfl rfl | exact ResOk.three rfl rfl rfl rfl | exact ResOk.none rfl) ?_; clear K hR; (first | (simp_all [nodeM]; done) | (simp_all [nodeM]; rfl))) | (refine K ⟨_, _, _, _, _, _, x.set, _⟩ ⟨?_, .inl rfl⟩ 0 _ _ ⟨rfl, rfl, rfl, rfl, trivial⟩ rfl; clear K hR; (first | (simp_all [nodeM]; done) | (simp_all [nodeM]; rfl))) | (refine K ⟨_, _, _, _, _, _, [], _⟩ ⟨?_, .inr ⟨rfl, rfl⟩⟩ 0 _ _ ⟨rfl, rfl, rfl, rfl, trivial⟩ rfl; clear K hR; (first | (simp_all [nodeM]; done) | (simp_all [nodeM]; rfl))) | (refine K ⟨decide (((x.l.map Pat.cells).length : Int) ≥ 2), ((x.l.map Pat.cells).length : Int), x.n, x.min, x.max, x.name, x.set, .ds (x.set.map spanC)⟩ ⟨?_, .inl rfl⟩ 0 _ _ ⟨rfl, rfl, rfl, rfl, trivial⟩ rfl; clear K hR; simp_all [nodeM]; done)
                                  · refine AWp.seq ?_
                                    refine AWp.region ?_
                                    refine AOps.sim okL rfl rfl ?_
                                    refine AOps.sim okL rfl rfl ?_
                                    refine AOps.nil ?_
                                    refine seqQ_n ?_
                                    refine AWp.condCase rfl (fun h => ?_) (fun h => ?_)
                                    · refine AWp.region ?_
                                      refine AOps.sim okL rfl rfl ?_
                                      refine AOps.pln ?_; refine AOp.load okL rfl (.tail _ (.head _)) rfl rfl rfl rfl ?_
                                      refine AOps.sim okL rfl rfl ?_
                                      refine AOps.pln ?_; focus (refine AOp.callP (v := ?_) rfl rfl rfl ?_ ?_; rotate_left; exact (patWithin_tr _ _ _))
                                      refine AOps.sim okL rfl rfl ?_
                                      refine AOps.sim okL rfl rfl ?_
                                      refine AOps.sim okL rfl rfl ?_
                                      refine AOps.pln ?_; refine AOp.store okL rfl rfl rfl (isVal_or rfl) rfl rfl rfl .here rfl rfl rfl ?_
                                      refine AOps.nil ?_
                                      refine blockQ_n ?_
                                      first | (refine hR _ _ _ (by intro h; cases h) ?_; refine bodyQ_r (by first | exact ResOk.one rfl rfl | exact ResOk.two rfl rfl rfl | exact ResOk.three rfl rfl rfl rfl | exact ResOk.none rfl) ?_; clear K hR; (first | (simp_all [nodeM]; done) | (simp_all [nodeM]; rfl))) | (refine K ⟨_, _, _, _, _, _, x.set, _⟩ ⟨?_, .inl rfl⟩ 0 _ _ ⟨rfl, rfl, rfl, rfl, trivial⟩ rfl; clear K hR; (first | (simp_all [nodeM]; done) | (simp_all [nodeM]; rfl))) | (refine K ⟨_, _, _, _, _, _, [], _⟩ ⟨?_, .inr ⟨rfl, rfl⟩⟩ 0 _ _ ⟨rfl, rfl, rfl, rfl, trivial⟩ rfl; clear K hR; (first | (simp_all [nodeM]; done) | (simp_all [nodeM]; rfl))) | (refine K ⟨decide (((x.l.map Pat.cells).length : Int) ≥ 2), ((x.l.map Pat.cells).length : Int), x.n, x.min, x.max, x.name, x.set, .ds (x.set.map spanC)⟩ ⟨?_, .inl rfl⟩ 0 _ _ ⟨rfl, rfl, rfl, rfl, trivial⟩ rfl; clear K hR; simp_all [nodeM]; done)
                                    · refine AWp.seq ?_
                                      refine AWp.region ?_
                                      refine AOps.sim okL rfl rfl ?_
                                      refine AOps.sim okL rfl rfl ?_
                                      refine AOps.nil ?_
                                      refine seqQ_n ?_
                                      refine AWp.condCase rfl (fun h => ?_) (fun h => ?_)
                                      · refine AWp.region ?_
                                        refine AOps.sim okL rfl rfl ?_
                                        refine AOps.pln ?_; refine AOp.load okL rfl (.tail _ (.head _)) rfl rfl rfl rfl ?_
                                        refine AOps.pln ?_; focus (refine AOp.callP (v := ?_) rfl rfl rfl ?_ ?_; rotate_left; exact (patWithin_tr _ _ _))
                                        refine AOps.sim okL rfl rfl ?_
                                        refine AOps.sim okL rfl rfl ?_
                                        refine AOps.pln ?_; refine AOp.store okL rfl rfl rfl (isVal_or rfl) rfl rfl rfl .here rfl rfl rfl ?_
                                        refine AOps.nil ?_
                                        refine blockQ_n ?_
                                        first | (refine hR _ _ _ (by intro h; cases h) ?_; refine bodyQ_r (by first | exact ResOk.one rfl rfl | exact ResOk.two rfl rfl rfl | exact ResOk.three rfl rfl rfl rfl | exact ResOk.none rfl) ?_; clear K hR; (first | (simp_all [nodeM]; done) | (simp_all [nodeM]; rfl))) | (refine K ⟨_, _, _, _, _, _, x.set, _⟩ ⟨?_, .inl rfl⟩ 0 _ _ ⟨rfl, rfl, rfl, rfl, trivial⟩ rfl; clear K hR; (first | (simp_all [nodeM]; done) | (simp_all [nodeM]; rfl))) | (refine K ⟨_, _, _, _, _, _, [], _⟩ ⟨?_, .inr ⟨rfl, rfl⟩⟩ 0 _ _ ⟨rfl, rfl, rfl, rfl, trivial⟩ rfl; clear K hR; (first | (simp_all [nodeM]; done) | (simp_all [nodeM]; rfl))) | (refine K ⟨decide (((x.l.map Pat.cells).length : Int) ≥ 2), ((x.l.map Pat.cells).length : Int), x.n, x.min, x.max, x.name, x.set, .ds (x.set.map spanC)⟩ ⟨?_, .inl rfl⟩ 0 _ _ ⟨rfl, rfl, rfl, rfl, trivial⟩ rfl; clear K hR; simp_all [nodeM]; done)
                                      · refine AWp.seq ?_
                                        refine AWp.region ?_
                                        refine AOps.sim okL rfl rfl ?_
                                        refine AOps.sim okL rfl rfl ?_
                                        refine AOps.nil ?_
                                        refine seqQ_n ?_
                                        refine AWp.condCase rfl (fun h => ?_) (fun h => ?_)
                                        · refine AWp.region ?_
                                          refine AOps.sim okL rfl rfl ?_
                                          refine AOps.pln ?_; refine AOp.load okL rfl (.tail _ (.head _)) rfl rfl rfl rfl ?_
                                          refine AOps.pln ?_; focus (refine AOp.callP (v := ?_) rfl rfl rfl ?_ ?_; rotate_left; exact (patWithin_tr _ _ _))
                                          refine AOps.sim okL rfl rfl ?_
                                          refine AOps.sim okL rfl rfl ?_
                                          refine AOps.pln ?_; refine AOp.store okL rfl rfl rfl (isVal_or rfl) rfl rfl rfl .here rfl rfl rfl ?_
                                          refine AOps.nil ?_
                                          refine blockQ_n ?_
                                          first | (refine hR _ _ _ (by intro h; cases h) ?_; refine bodyQ_r (by first | exact ResOk.one rfl rfl | exact ResOk.two rfl rfl rfl | exact ResOk.three rfl rfl rfl rfl | exact ResOk.none rfl) ?_; clear K hR; (first | (simp_all [nodeM]; done) | (simp_all [nodeM]; rfl))) | (refine K ⟨_, _, _, _, _, _, x.set, _⟩ ⟨?_, .inl rfl⟩ 0 _ _ ⟨rfl, rfl, rfl, rfl, trivial⟩ rfl; clear K hR; (first | (simp_all [nodeM]; done) | (simp_all [nodeM]; rfl))) | (refine K ⟨_, _, _, _, _, _, [], _⟩ ⟨?_, .inr ⟨rfl, rfl⟩⟩ 0 _ _ ⟨rfl, rfl, rfl, rfl, trivial⟩ rfl; clear K hR; (first | (simp_all [nodeM]; done) | (simp_all [nodeM]; rfl))) | (refine K ⟨decide (((x.l.map Pat.cells).length : Int) ≥ 2), ((x.l.map Pat.cells).length : Int), x.n, x.min, x.max, x.name, x.set, .ds (x.set.map spanC)⟩ ⟨?_, .inl rfl⟩ 0 _ _ ⟨rfl, rfl, rfl, rfl, trivial⟩ rfl; clear K hR; simp_all [nodeM]; done)
                                        · refine AWp.seq ?_
                                          refine AWp.region ?_
                                          refine AOps.sim okL rfl rfl ?_
                                          refine AOps.nil ?_
                                          refine AWp.ret ?_
                                          refine blockQ_r ?_
                                          first | (refine hR _ _ _ (by intro h; cases h) ?_; refine bodyQ_r (by first | exact ResOk.one rfl rfl | exact ResOk.two rfl rfl rfl | exact ResOk.three rfl rfl rfl rfl | exact ResOk.none rfl) ?_; clear K hR; (first | (simp_all [nodeM]; done) | (simp_all [nodeM]; rfl))) | (refine K ⟨_, _, _, _, _, _, x.set, _⟩ ⟨?_, .inl rfl⟩ 0 _ _ ⟨rfl, rfl, rfl, rfl, trivial⟩ rfl; clear K hR; (first | (simp_all [nodeM]; done) | (simp_all [nodeM]; rfl))) | (refine K ⟨_, _, _, _, _, _, [], _⟩ ⟨?_, .inr ⟨rfl, rfl⟩⟩ 0 _ _ ⟨rfl, rfl, rfl, rfl, trivial⟩ rfl; clear K hR; (first | (simp_all [nodeM]; done) | (simp_all [nodeM]; rfl))) | (refine K ⟨decide (((x.l.map Pat.cells).length : Int) ≥ 2), ((x.l.map Pat.cells).length : Int), x.n, x.min, x.max, x.name, x.set, .ds (x.set.map spanC)⟩ ⟨?_, .inl rfl⟩ 0 _ _ ⟨rfl, rfl, rfl, rfl, trivial⟩ rfl; clear K hR; simp_all [nodeM]; done)
end Go.Proofs.Ytiaogfkkfoakpaa

namespace Go.Proofs.Ytiaogfkkfoakpaa
open Go Go.Abs
set_option linter.unusedVariables false
set_option maxRecDepth 100000
set_option linter.unusedSimpArgs false

mutual
def hasP : Pat → Int → Bool
  | .mk op _ _ _ _ _ l, o => decide (op = o) || hasL l o
def hasL : List Pat → Int → Bool
  | [], _ => false
  | y :: l, o => hasP y o || hasL l o
end
theorem hasP_eq (x : Pat) (o : Int) : hasP x o = (decide (x.op = o) || hasL x.l o) := by cases x; rfl
theorem has_tr (x : Pat) (o : Int) : PTr Try.prog 30 [.agg x.C, i64 o] (.bool (hasP x o)) := by
  induction x using Pat.ind with | h x IH => _
  refine PTr.of_body (N := 22) Try.func30 rfl rfl rfl ?_
  refine AWp.know (t := 0) rfl (Known.agg (x := .ds (x.l.map Pat.cells)) (by simp [Pat.C]) (Known.ds _)) fun hlen => ?_
  rw [List.length_map] at hlen
  refine AWp.seq ?_
  refine AWp.region ?_
  refine AOps.pln ?_; refine AOp.box rfl rfl (isVal_or rfl) rfl rfl ?_; intro _ _
  refine AOps.sim okL rfl rfl ?_
  refine AOps.nil ?_
  refine AWp.seq ?_
  refine AWp.seq ?_
  refine AWp.region ?_
  refine AOps.sim okL rfl rfl ?_
  refine AOps.pln ?_; refine AOp.load okL rfl (.head _) rfl rfl rfl rfl ?_
  refine AOps.sim okL rfl rfl ?_
  refine AOps.sim okL rfl rfl ?_
  refine AOps.nil ?_
  refine seqQ_n ?_
  first | refine AWp.condCase rfl (fun h0 => ?_) (fun h0 => ?_) | refine AWp.cond rfl (fun h0 => ?_) (fun h0 => ?_)
  · refine AWp.seq ?_
    refine AWp.region ?_
    refine AOps.sim okL rfl rfl ?_
    refine AOps.nil ?_
    refine AWp.ret ?_
    refine seqQ_r ?_
    refine bodyQ_r (by first | exact ResOk.one rfl rfl | exact ResOk.two rfl rfl rfl | exact ResOk.three rfl rfl rfl rfl | exact ResOk.none rfl) ?_
    rw [hasP_eq]; simp at h0; simp [h0]
  refine AWp.skip ?_
  refine AWp.seq ?_
  refine AWp.seq ?_
  refine AWp.region ?_
  refine AOps.sim okL rfl rfl ?_
  refine AOps.pln ?_; refine AOp.load okL rfl (.head _) rfl rfl rfl rfl ?_
  refine AOps.sim okL rfl rfl ?_
  refine AOps.sim okL rfl rfl ?_
  refine AOps.nil ?_
  refine AWp.block ?_
  rename_i r _
  refine AWp.loopM (α := Nat) (fun a => x.l.length - a) (fun a => [(1, i64 o), (2, .ptr r 7 0 0), (12, .ds (x.l.map Pat.cells)), (13, i64 (x.l.map Pat.cells).length), (14, i64 a)]) (fun _ => _)
    (fun a => a ≤ x.l.length ∧ hasL (x.l.drop a) o = hasP x o) 0 ⟨Nat.zero_le _, ?_⟩ ?_ (List.Perm.refl _) ?_
  · rw [hasP_eq]; simp at h0; simp [h0]
  · simp only [AllIn]
    refine ⟨rfl, rfl, rfl, rfl, rfl, trivial⟩
  rintro k ⟨hk, hm⟩ ih
  refine AWp.seq ?_
  refine AWp.region ?_
  refine AOps.sim okL rfl rfl ?_
  refine AOps.nil ?_
  refine AWp.seq ?_
  first | refine AWp.condCase rfl (fun h => ?_) (fun h => ?_) | refine AWp.cond rfl (fun h => ?_) (fun h => ?_)
  · have h := of_decide_eq_true h
    simp only [List.length_map] at h
    obtain ⟨y, hy⟩ : ∃ y, x.l[k]? = some y := ⟨x.l[k], by simp [show k < x.l.length by omega]⟩
    have nx := nxt (k := k) (n := x.l.length) (by omega) hlen
    rw [drop_get hy, hasL] at hm
    refine AWp.skip ?_
    refine AWp.seq ?_
    refine AWp.block ?_
    refine AWp.seq ?_
    refine AWp.region ?_
    refine AOps.sim okL (sOp_idxD rfl rfl rfl rfl rfl (by omega) (getC hy) rfl) rfl ?_
    refine AOps.sim okL rfl rfl ?_
    refine AOps.pln ?_; refine AOp.alloc okL rfl rfl rfl ?_; intro _ _
    refine AOps.pln ?_; refine AOp.store okL rfl rfl rfl (isVal_or rfl) rfl rfl rfl .here rfl rfl rfl ?_
    refine AOps.nil ?_
    refine AWp.seq ?_
    refine AWp.region ?_
    refine AOps.pln ?_; refine AOp.load okL rfl (.head _) rfl rfl rfl rfl ?_
    refine AOps.sim okL rfl rfl ?_
    refine AOps.pln ?_; focus (refine AOp.callP (v := ?_) rfl rfl rfl ?_ ?_; rotate_left; exact (IH y (List.mem_of_getElem? hy)))
    refine AOps.nil ?_
    refine seqQ_n ?_
    first | refine AWp.condCase rfl (fun h2 => ?_) (fun h2 => ?_) | refine AWp.cond rfl (fun h2 => ?_) (fun h2 => ?_)
    · rw [h2] at hm
      refine AWp.seq ?_
      refine AWp.region ?_
      refine AOps.sim okL rfl rfl ?_
      refine AOps.nil ?_
      refine AWp.ret ?_
      refine blockQ_r ?_
      refine seqQ_r ?_
      refine seqQ_r ?_
      refine blockQ_r ?_
      refine seqQ_r ?_
      refine bodyQ_r (by first | exact ResOk.one rfl rfl | exact ResOk.two rfl rfl rfl | exact ResOk.three rfl rfl rfl rfl | exact ResOk.none rfl) ?_
      rw [← hm]; rfl
    · rw [h2] at hm
      refine AWp.skip ?_
      refine AWp.region ?_
      refine AOps.sim okL rfl rfl ?_
      refine AOps.sim okL rfl rfl ?_
      refine AOps.nil ?_
      refine seqQ_n ?_
      (refine AIn.nextN 1 (ih (k + 1) (⟨by omega, hm⟩) (by first | omega | (simp only; omega))) ?_ rfl; repeat (first | exact trivial | refine ⟨rfl, ?_⟩ | refine ⟨congrArg some nx, ?_⟩))
  · have h := of_decide_eq_false h
    simp only [List.length_map] at h
    rw [List.drop_eq_nil_of_le (by omega), hasL] at hm
    refine AWp.exit ?_
    refine AWp.seq ?_
    refine AWp.region ?_
    refine AOps.sim okL rfl rfl ?_
    refine AOps.nil ?_
    refine AWp.ret ?_
    refine bodyQ_r (by first | exact ResOk.one rfl rfl | exact ResOk.two rfl rfl rfl | exact ResOk.three rfl rfl rfl rfl | exact ResOk.none rfl) ?_
    rw [← hm]
def largeM (x : Pat) : Bool := decide ((szP x).1 > 60) || (decide ((szP x).2.2 > 12) || decide ((szP x).2.1 > 9))
theorem isLarge_tr (x : Pat) : PTr Try.prog 21 [.agg x.C] (.bool (largeM x)) := by
  refine PTr.of_body (N := 19) Try.func21 rfl rfl rfl ?_
  refine AWp.seq ?_
  refine AWp.region ?_
  refine AOps.pln ?_; refine AOp.box rfl rfl (isVal_or rfl) rfl rfl ?_; intro _ _
  refine AOps.sim okL rfl rfl ?_
  refine AOps.nil ?_
  refine AWp.seq ?_
  refine AWp.region ?_
  refine AOps.pln ?_; refine AOp.load okL rfl (.head _) rfl rfl rfl rfl ?_
  refine AOps.pln ?_; focus (refine AOp.callP (v := ?_) rfl rfl rfl ?_ ?_; rotate_left; exact (ref12Size_tr x))
  refine AOps.pln ?_; refine AOp.alloc okL rfl rfl rfl ?_; intro _ _
  refine AOps.pln ?_; refine AOp.store okL rfl rfl rfl (isVal_or rfl) rfl rfl rfl .here rfl rfl rfl ?_
  refine AOps.nil ?_
  refine AWp.seq ?_
  refine AWp.region ?_
  refine AOps.sim okL rfl rfl ?_
  refine AOps.pln ?_; refine AOp.load okL rfl (.head _) rfl rfl rfl rfl ?_
  refine AOps.sim okL rfl rfl ?_
  refine AOps.sim okL rfl rfl ?_
  refine AOps.guardCase rfl rfl rfl (fun h => ?_) (fun h => ?_)
  · refine AOps.unw rfl rfl rfl rfl ?_
    refine AOps.unw rfl rfl rfl rfl ?_
    refine AOps.unw rfl rfl rfl rfl ?_
    refine AOps.sim okL rfl rfl ?_
    refine AOps.sim okL rfl rfl ?_
    refine AOps.unw rfl rfl rfl rfl ?_
    refine AOps.unw rfl rfl rfl rfl ?_
    refine AOps.unw rfl rfl rfl rfl ?_
    refine AOps.sim okL rfl rfl ?_
    refine AOps.sim okL rfl rfl ?_
    refine AOps.nil ?_
    refine AWp.ret ?_
    refine bodyQ_r (by first | exact ResOk.one rfl rfl | exact ResOk.two rfl rfl rfl | exact ResOk.three rfl rfl rfl rfl | exact ResOk.none rfl) ?_; (simp_all [largeM] <;> first | omega | (rw [Bool.eq_iff_iff]; simp <;> omega))
  · refine AOps.simW okL rfl rfl rfl rfl ?_
    refine AOps.wtd rfl rfl rfl ?_; refine AOp.load okL rfl (.head _) rfl rfl rfl rfl ?_
    refine AOps.simW okL rfl rfl rfl rfl ?_
    refine AOps.sim okL rfl rfl ?_
    refine AOps.sim okL rfl rfl ?_
    refine AOps.guardCase rfl rfl rfl (fun h => ?_) (fun h => ?_)
    · refine AOps.unw rfl rfl rfl rfl ?_
      refine AOps.unw rfl rfl rfl rfl ?_
      refine AOps.unw rfl rfl rfl rfl ?_
      refine AOps.sim okL rfl rfl ?_
      refine AOps.sim okL rfl rfl ?_
      refine AOps.nil ?_
      refine AWp.ret ?_
      refine bodyQ_r (by first | exact ResOk.one rfl rfl | exact ResOk.two rfl rfl rfl | exact ResOk.three rfl rfl rfl rfl | exact ResOk.none rfl) ?_; (simp_all [largeM] <;> first | omega | (rw [Bool.eq_iff_iff]; simp <;> omega))
    · refine AOps.simW okL rfl rfl rfl rfl ?_
      refine AOps.wtd rfl rfl rfl ?_; refine AOp.load okL rfl (.head _) rfl rfl rfl rfl ?_
      refine AOps.simW okL rfl rfl rfl rfl ?_
      refine AOps.sim okL rfl rfl ?_
      refine AOps.sim okL rfl rfl ?_
      refine AOps.nil ?_
      refine AWp.ret ?_
      refine bodyQ_r (by first | exact ResOk.one rfl rfl | exact ResOk.two rfl rfl rfl | exact ResOk.three rfl rfl rfl rfl | exact ResOk.none rfl) ?_; (simp_all [largeM] <;> first | omega | (rw [Bool.eq_iff_iff]; simp <;> omega))

def lenS (op : Int) (first : Bool) (a b : Int × Int) : Int × Int :=
  if first then b else if op = 4 then (w64 (a.1 + b.1), plusM a.2 b.2) else (if b.1 < a.1 then b.1 else a.1, if a.2 ≥ 0 ∧ (b.2 < 0 ∨ b.2 > a.2) then b.2 else a.2)
mutual
def lenP : Pat → Int × Int
  | .mk op _ mn mx _ _ l =>
    if op = 1 ∨ op = 2 ∨ op = 3 then (1, 1) else if op = 10 ∨ op = 14 then (0, -1) else if op = 9 then (0, 0)
    else if op = 6 then (timesM mn (lenH l).1, timesM mx (lenH l).2) else lenL op l true (0, 0)
def lenH : List Pat → Int × Int
  | [] => (0, 0)
  | y :: _ => lenP y
def lenL : Int → List Pat → Bool → Int × Int → Int × Int
  | _, [], _, a => a
  | op, y :: l, f, a => lenL op l false (lenS op f a (lenP y))
end
theorem lenP_eq (x : Pat) : lenP x = if x.op = 1 ∨ x.op = 2 ∨ x.op = 3 then (1, 1) else if x.op = 10 ∨ x.op = 14 then (0, -1) else if x.op = 9 then (0, 0)
    else if x.op = 6 then (timesM x.min (lenH x.l).1, timesM x.max (lenH x.l).2) else lenL x.op x.l true (0, 0) := by cases x; rw [lenP]; rfl
/-- Where one goes into the first part, there is one. -/
inductive Sh : Pat → Prop
  | mk (x : Pat) (h : x.op = 5 ∨ x.op = 6 ∨ x.op = 7 ∨ x.op = 8 ∨ x.op = 15 → x.l ≠ []) (t : ∀ y ∈ x.l, Sh y) : Sh x
theorem Sh.tl {x : Pat} (h : Sh x) : ∀ y ∈ x.l, Sh y := by cases h; assumption
theorem Sh.hd {x : Pat} (h : Sh x) : x.op = 5 ∨ x.op = 6 ∨ x.op = 7 ∨ x.op = 8 ∨ x.op = 15 → x.l ≠ [] := by cases h; assumption
theorem lenP_6 {x : Pat} {a : Int × Int} (h : x.op = 6) (hH : lenH x.l = a) : lenP x = (timesM x.min a.1, timesM x.max a.2) := by rw [lenP_eq, hH]; simp [h]
theorem mem_C {x : Pat} : A.ds (x.l.map Pat.cells) ∈ x.C := by simp [Pat.C]
set_option maxHeartbeats 2000000 in
theorem lengths_tr (x : Pat) (hs : Sh x) : PTr Try.prog 52 [.agg x.C] (.tup [i64 (lenP x).1, i64 (lenP x).2]) := by
  induction x using Pat.ind with | h x IH => _
  refine PTr.of_body (N := 87) Try.func52 rfl rfl rfl ?_
  refine AWp.know (t := 0) rfl (Known.agg mem_C (Known.ds _)) fun hlen => ?_
  rw [List.length_map] at hlen
  refine AWp.seq ?_
  refine AWp.region ?_
  refine AOps.pln ?_; refine AOp.box rfl rfl (isVal_or rfl) rfl rfl ?_; intro _ _
  refine AOps.sim okL rfl rfl ?_
  refine AOps.sim okL rfl rfl ?_
  refine AOps.nil ?_
  refine AWp.seq ?_
  refine AWp.seq ?_
  refine AWp.region ?_
  refine AOps.sim okL rfl rfl ?_
  refine AOps.pln ?_; refine AOp.load okL rfl (.head _) rfl rfl rfl rfl ?_
  refine AOps.nil ?_
  refine seqQ_n ?_
  rename_i r _
  refine AWp.join (α := Unit) (fun _ => [(1, .ptr r 7 0 0)]) (fun _ => [(r, .row 25 7 [x.C])]) (fun _ => lenP x = lenL x.op x.l true (0, 0)) ?_ fun R K hR => ?_
  · rintro _ hl
    refine AWp.seq ?_
    refine AWp.region ?_
    refine AOps.sim okL rfl rfl ?_
    refine AOps.sim okL rfl rfl ?_
    refine AOps.nil ?_
    refine AWp.seq ?_
    refine AWp.seq ?_
    refine AWp.region ?_
    refine AOps.sim okL rfl rfl ?_
    refine AOps.pln ?_; refine AOp.load okL rfl (.head _) rfl rfl rfl rfl ?_
    refine AOps.sim okL rfl rfl ?_
    refine AOps.sim okL rfl rfl ?_
    refine AOps.nil ?_
    refine AWp.block ?_
    refine AWp.loopM (α := Nat × Int × Int) (fun a => x.l.length - a.1) (fun a => [(1, .ptr r 7 0 0), (6, i64 a.2.1), (7, i64 a.2.2), (42, .ds (x.l.map Pat.cells)), (43, i64 (x.l.map Pat.cells).length), (44, i64 a.1)]) (fun _ => [(r, .row 25 7 [x.C])])
      (fun a => a.1 ≤ x.l.length ∧ lenL x.op (x.l.drop a.1) (decide ((a.1 : Int) = 0)) a.2 = lenP x) (0, 0, 0) ⟨Nat.zero_le _, hl.symm⟩ ?_ (List.Perm.refl _) ?_
    · simp only [AllIn]
      refine ⟨rfl, rfl, rfl, rfl, rfl, rfl, trivial⟩
    rintro ⟨k, m⟩ ⟨hk, hm⟩ ih
    simp only at hk hm
    refine AWp.seq ?_
    refine AWp.region ?_
    refine AOps.sim okL rfl rfl ?_
    refine AOps.nil ?_
    refine AWp.seq ?_
    first | refine AWp.condCase rfl (fun h => ?_) (fun h => ?_) | refine AWp.cond rfl (fun h => ?_) (fun h => ?_)
    · have h := of_decide_eq_true h
      simp only [List.length_map] at h
      obtain ⟨y, hy⟩ : ∃ y, x.l[k]? = some y := ⟨x.l[k], by simp [show k < x.l.length by omega]⟩
      have nx := nxt (k := k) (n := x.l.length) (by omega) hlen
      rw [drop_get hy, lenL] at hm
      have hk1 : decide (((k + 1 : Nat) : Int) = 0) = false := decide_eq_false (by omega)
      have hc := IH y (List.mem_of_getElem? hy) (hs.tl y (List.mem_of_getElem? hy))
      refine AWp.skip ?_
      refine AWp.seq ?_
      refine AWp.block ?_
      refine AWp.seq ?_
      refine AWp.region ?_
      refine AOps.sim okL rfl rfl ?_
      refine AOps.sim okL (sOp_idxD rfl rfl rfl rfl rfl (by omega) (getC hy) rfl) rfl ?_
      refine AOps.sim okL rfl rfl ?_
      refine AOps.pln ?_; refine AOp.alloc okL rfl rfl rfl ?_; intro _ _
      refine AOps.sim okL rfl rfl ?_
      refine AOps.pln ?_; refine AOp.store okL rfl rfl rfl (isVal_or rfl) rfl rfl rfl .here rfl rfl rfl ?_
      refine AOps.nil ?_
      refine AWp.seq ?_
      refine AWp.region ?_
      refine AOps.pln ?_; refine AOp.load okL rfl (.head _) rfl rfl rfl rfl ?_
      refine AOps.pln ?_; focus (refine AOp.callP (v := ?_) rfl rfl rfl ?_ ?_; rotate_left; exact (hc))
      refine AOps.sim okL rfl rfl ?_
      refine AOps.sim okL rfl rfl ?_
      refine AOps.sim okL rfl rfl ?_
      refine AOps.sim okL rfl rfl ?_
      refine AOps.sim okL rfl rfl ?_
      refine AOps.nil ?_
      refine AWp.block ?_
      refine AWp.seq ?_
      refine AWp.region ?_
      refine AOps.sim okL rfl rfl ?_
      refine AOps.sim okL rfl rfl ?_
      refine AOps.sim okL rfl rfl ?_
      refine AOps.nil ?_
      refine seqQ_n ?_
      refine AWp.condCase rfl (fun h => ?_) (fun h => ?_)
      · refine AWp.region ?_
        refine AOps.sim okL rfl rfl ?_
        refine AOps.sim okL rfl rfl ?_
        refine AOps.sim okL rfl rfl ?_
        refine AOps.sim okL rfl rfl ?_
        refine AOps.nil ?_
        refine AWp.region ?_
        refine AOps.sim okL rfl rfl ?_
        refine AOps.sim okL rfl rfl ?_
        refine AOps.nil ?_
        refine seqQ_n ?_
        (refine AIn.nextN 1 (ih ((k + 1, lenS x.op (decide ((k : Int) = 0)) m (lenP y))) (⟨by omega, by simp only [hk1]; exact hm⟩) (by first | omega | (simp only; omega))) ?_ rfl; repeat (first | exact trivial | refine ⟨rfl, ?_⟩ | refine ⟨congrArg some nx, ?_⟩ | refine ⟨congrArg (fun v => some (A.int .i64 v)) (by clear ih IH hc hm; simp_all [lenS, w64] <;> omega), ?_⟩))
      · refine AWp.seq ?_
        refine AWp.region ?_
        refine AOps.sim okL rfl rfl ?_
        refine AOps.pln ?_; refine AOp.load okL rfl (.tail _ (.head _)) rfl rfl rfl rfl ?_
        refine AOps.sim okL rfl rfl ?_
        refine AOps.sim okL rfl rfl ?_
        refine AOps.nil ?_
        refine seqQ_n ?_
        refine AWp.condCase rfl (fun h => ?_) (fun h => ?_)
        · refine AWp.region ?_
          refine AOps.sim okL rfl rfl ?_
          refine AOps.sim okL rfl rfl ?_
          refine AOps.sim okL rfl rfl ?_
          refine AOps.sim okL rfl rfl ?_
          refine AOps.sim okL rfl rfl ?_
          refine AOps.pln ?_; focus (refine AOp.callP (v := ?_) rfl rfl rfl ?_ ?_; rotate_left; exact (plus_tr _ _))
          refine AOps.sim okL rfl rfl ?_
          refine AOps.sim okL rfl rfl ?_
          refine AOps.nil ?_
          refine AWp.region ?_
          refine AOps.sim okL rfl rfl ?_
          refine AOps.sim okL rfl rfl ?_
          refine AOps.nil ?_
          refine seqQ_n ?_
          (refine AIn.nextN 1 (ih ((k + 1, lenS x.op (decide ((k : Int) = 0)) m (lenP y))) (⟨by omega, by simp only [hk1]; exact hm⟩) (by first | omega | (simp only; omega))) ?_ rfl; repeat (first | exact trivial | refine ⟨rfl, ?_⟩ | refine ⟨congrArg some nx, ?_⟩ | refine ⟨congrArg (fun v => some (A.int .i64 v)) (by clear ih IH hc hm; simp_all [lenS, w64] <;> omega), ?_⟩))
        · refine AWp.seq ?_
          refine AWp.region ?_
          refine AOps.sim okL rfl rfl ?_
          refine AOps.sim okL rfl rfl ?_
          refine AOps.sim okL rfl rfl ?_
          refine AOps.sim okL rfl rfl ?_
          refine AOps.nil ?_
          refine AWp.seq ?_
          refine AWp.region ?_
          refine AOps.sim okL rfl rfl ?_
          refine AOps.sim okL rfl rfl ?_
          refine AOps.sim okL rfl rfl ?_
          refine AOps.guardCase rfl rfl rfl (fun h => ?_) (fun h => ?_)
          · refine AOps.simW okL rfl rfl rfl rfl ?_
            refine AOps.simW okL rfl rfl rfl rfl ?_
            refine AOps.simW okL rfl rfl rfl rfl ?_
            refine AOps.guardCase rfl rfl rfl (fun h => ?_) (fun h => ?_)
            · refine AOps.unw rfl rfl rfl rfl ?_
              refine AOps.unw rfl rfl rfl rfl ?_
              refine AOps.unw rfl rfl rfl rfl ?_
              refine AOps.simW okL rfl rfl rfl rfl ?_
              refine AOps.sim okL rfl rfl ?_
              refine AOps.nil ?_
              refine AWp.condT rfl ?_
              refine AWp.region ?_
              refine AOps.sim okL rfl rfl ?_
              refine AOps.sim okL rfl rfl ?_
              refine AOps.nil ?_
              refine AWp.region ?_
              refine AOps.sim okL rfl rfl ?_
              refine AOps.sim okL rfl rfl ?_
              refine AOps.nil ?_
              refine seqQ_n ?_
              (refine AIn.nextN 1 (ih ((k + 1, lenS x.op (decide ((k : Int) = 0)) m (lenP y))) (⟨by omega, by simp only [hk1]; exact hm⟩) (by first | omega | (simp only; omega))) ?_ rfl; repeat (first | exact trivial | refine ⟨rfl, ?_⟩ | refine ⟨congrArg some nx, ?_⟩ | refine ⟨congrArg (fun v => some (A.int .i64 v)) (by clear ih IH hc hm; simp_all [lenS, w64] <;> omega), ?_⟩))
            · refine AOps.simW okL rfl rfl rfl rfl ?_
              refine AOps.simW okL rfl rfl rfl rfl ?_
              refine AOps.simW okL rfl rfl rfl rfl ?_
              refine AOps.simW okL rfl rfl rfl rfl ?_
              refine AOps.sim okL rfl rfl ?_
              refine AOps.nil ?_
              refine seqQ_n ?_
              refine AWp.condCase rfl (fun h => ?_) (fun h => ?_)
              · refine AWp.region ?_
                refine AOps.sim okL rfl rfl ?_
                refine AOps.sim okL rfl rfl ?_
                refine AOps.nil ?_
                refine AWp.region ?_
                refine AOps.sim okL rfl rfl ?_
                refine AOps.sim okL rfl rfl ?_
                refine AOps.nil ?_
                refine seqQ_n ?_
                (refine AIn.nextN 1 (ih ((k + 1, lenS x.op (decide ((k : Int) = 0)) m (lenP y))) (⟨by omega, by simp only [hk1]; exact hm⟩) (by first | omega | (simp only; omega))) ?_ rfl; repeat (first | exact trivial | refine ⟨rfl, ?_⟩ | refine ⟨congrArg some nx, ?_⟩ | refine ⟨congrArg (fun v => some (A.int .i64 v)) (by clear ih IH hc hm; simp_all [lenS, w64] <;> omega), ?_⟩))
              · refine AWp.skip ?_
                refine AWp.region ?_
                refine AOps.sim okL rfl rfl ?_
                refine AOps.sim okL rfl rfl ?_
                refine AOps.nil ?_
                refine seqQ_n ?_
                (refine AIn.nextN 1 (ih ((k + 1, lenS x.op (decide ((k : Int) = 0)) m (lenP y))) (⟨by omega, by simp only [hk1]; exact hm⟩) (by first | omega | (simp only; omega))) ?_ rfl; repeat (first | exact trivial | refine ⟨rfl, ?_⟩ | refine ⟨congrArg some nx, ?_⟩ | refine ⟨congrArg (fun v => some (A.int .i64 v)) (by clear ih IH hc hm; simp_all [lenS, w64] <;> omega), ?_⟩))
          · refine AOps.unw rfl rfl rfl rfl ?_
            refine AOps.unw rfl rfl rfl rfl ?_
            refine AOps.unw rfl rfl rfl rfl ?_
            refine AOps.unwU rfl rfl rfl ?_
            refine AOps.unwU rfl rfl rfl ?_
            refine AOps.unwU rfl rfl rfl ?_
            refine AOps.unw rfl rfl rfl rfl ?_
            refine AOps.sim okL rfl rfl ?_
            refine AOps.nil ?_
            refine AWp.condF rfl ?_
            refine AWp.skip ?_
            refine AWp.region ?_
            refine AOps.sim okL rfl rfl ?_
            refine AOps.sim okL rfl rfl ?_
            refine AOps.nil ?_
            refine seqQ_n ?_
            (refine AIn.nextN 1 (ih ((k + 1, lenS x.op (decide ((k : Int) = 0)) m (lenP y))) (⟨by omega, by simp only [hk1]; exact hm⟩) (by first | omega | (simp only; omega))) ?_ rfl; repeat (first | exact trivial | refine ⟨rfl, ?_⟩ | refine ⟨congrArg some nx, ?_⟩ | refine ⟨congrArg (fun v => some (A.int .i64 v)) (by clear ih IH hc hm; simp_all [lenS, w64] <;> omega), ?_⟩))
    · have h := of_decide_eq_false h
      simp only [List.length_map] at h
      rw [List.drop_eq_nil_of_le (by omega), lenL] at hm
      refine AWp.exit ?_
      refine AWp.seq ?_
      refine AWp.region ?_
      refine AOps.sim okL rfl rfl ?_
      refine AOps.sim okL rfl rfl ?_
      refine AOps.sim okL rfl rfl ?_
      refine AOps.sim okL rfl rfl ?_
      refine AOps.nil ?_
      refine AWp.ret ?_
      refine bodyQ_r (by first | exact ResOk.one rfl rfl | exact ResOk.two rfl rfl rfl | exact ResOk.three rfl rfl rfl rfl | exact ResOk.none rfl) ?_
      rw [← hm]
  · have hR' := hR .ret
    cases hxl : x.l with
    | nil =>
      refine AWp.block ?_
      refine AWp.seq ?_
      refine AWp.seq ?_
      refine AWp.region ?_
      refine AOps.sim okL rfl rfl ?_
      refine AOps.sim okL rfl rfl ?_
      refine AOps.nil ?_
      refine seqQ_n ?_
      refine AWp.condCase rfl (fun h => ?_) (fun h => ?_)
      · refine AWp.skip ?_
        refine AWp.condT rfl ?_
        refine AWp.seq ?_
        refine AWp.region ?_
        refine AOps.sim okL rfl rfl ?_
        refine AOps.sim okL rfl rfl ?_
        refine AOps.nil ?_
        refine AWp.ret ?_
        refine blockQ_r ?_
        first | (refine hR _ _ _ (by intro h; cases h) ?_; refine bodyQ_r (by first | exact ResOk.one rfl rfl | exact ResOk.two rfl rfl rfl | exact ResOk.three rfl rfl rfl rfl | exact ResOk.none rfl) ?_; clear K hR hR' IH; rw [lenP_eq]; simp_all; done) | (refine K () ?_ 0 _ _ ⟨rfl, trivial⟩ rfl; clear K hR hR' IH; rw [lenP_eq]; simp_all; done) | (exfalso; exact hs.hd (by simp_all) hxl)
      · refine AWp.seq ?_
        refine AWp.region ?_
        refine AOps.sim okL rfl rfl ?_
        refine AOps.sim okL rfl rfl ?_
        refine AOps.nil ?_
        refine seqQ_n ?_
        refine AWp.condCase rfl (fun h => ?_) (fun h => ?_)
        · refine AWp.skip ?_
          refine AWp.condT rfl ?_
          refine AWp.seq ?_
          refine AWp.region ?_
          refine AOps.sim okL rfl rfl ?_
          refine AOps.sim okL rfl rfl ?_
          refine AOps.nil ?_
          refine AWp.ret ?_
          refine blockQ_r ?_
          first | (refine hR _ _ _ (by intro h; cases h) ?_; refine bodyQ_r (by first | exact ResOk.one rfl rfl | exact ResOk.two rfl rfl rfl | exact ResOk.three rfl rfl rfl rfl | exact ResOk.none rfl) ?_; clear K hR hR' IH; rw [lenP_eq]; simp_all; done) | (refine K () ?_ 0 _ _ ⟨rfl, trivial⟩ rfl; clear K hR hR' IH; rw [lenP_eq]; simp_all; done) | (exfalso; exact hs.hd (by simp_all) hxl)
        · refine AWp.region ?_
          refine AOps.sim okL rfl rfl ?_
          refine AOps.sim okL rfl rfl ?_
          refine AOps.nil ?_
          refine seqQ_n ?_
          refine AWp.condCase rfl (fun h => ?_) (fun h => ?_)
          · refine AWp.seq ?_
            refine AWp.region ?_
            refine AOps.sim okL rfl rfl ?_
            refine AOps.sim okL rfl rfl ?_
            refine AOps.nil ?_
            refine AWp.ret ?_
            refine blockQ_r ?_
            first | (refine hR _ _ _ (by intro h; cases h) ?_; refine bodyQ_r (by first | exact ResOk.one rfl rfl | exact ResOk.two rfl rfl rfl | exact ResOk.three rfl rfl rfl rfl | exact ResOk.none rfl) ?_; clear K hR hR' IH; rw [lenP_eq]; simp_all; done) | (refine K () ?_ 0 _ _ ⟨rfl, trivial⟩ rfl; clear K hR hR' IH; rw [lenP_eq]; simp_all; done) | (exfalso; exact hs.hd (by simp_all) hxl)
          · refine AWp.seq ?_
            refine AWp.seq ?_
            refine AWp.region ?_
            refine AOps.sim okL rfl rfl ?_
            refine AOps.sim okL rfl rfl ?_
            refine AOps.nil ?_
            refine seqQ_n ?_
            refine AWp.condCase rfl (fun h => ?_) (fun h => ?_)
            · refine AWp.skip ?_
              refine AWp.condT rfl ?_
              refine AWp.seq ?_
              refine AWp.region ?_
              refine AOps.sim okL rfl rfl ?_
              refine AOps.sim okL rfl rfl ?_
              refine AOps.nil ?_
              refine AWp.ret ?_
              refine blockQ_r ?_
              first | (refine hR _ _ _ (by intro h; cases h) ?_; refine bodyQ_r (by first | exact ResOk.one rfl rfl | exact ResOk.two rfl rfl rfl | exact ResOk.three rfl rfl rfl rfl | exact ResOk.none rfl) ?_; clear K hR hR' IH; rw [lenP_eq]; simp_all; done) | (refine K () ?_ 0 _ _ ⟨rfl, trivial⟩ rfl; clear K hR hR' IH; rw [lenP_eq]; simp_all; done) | (exfalso; exact hs.hd (by simp_all) hxl)
            · refine AWp.region ?_
              refine AOps.sim okL rfl rfl ?_
              refine AOps.sim okL rfl rfl ?_
              refine AOps.nil ?_
              refine seqQ_n ?_
              refine AWp.condCase rfl (fun h => ?_) (fun h => ?_)
              · refine AWp.seq ?_
                refine AWp.region ?_
                refine AOps.sim okL rfl rfl ?_
                refine AOps.sim okL rfl rfl ?_
                refine AOps.nil ?_
                refine AWp.ret ?_
                refine blockQ_r ?_
                first | (refine hR _ _ _ (by intro h; cases h) ?_; refine bodyQ_r (by first | exact ResOk.one rfl rfl | exact ResOk.two rfl rfl rfl | exact ResOk.three rfl rfl rfl rfl | exact ResOk.none rfl) ?_; clear K hR hR' IH; rw [lenP_eq]; simp_all; done) | (refine K () ?_ 0 _ _ ⟨rfl, trivial⟩ rfl; clear K hR hR' IH; rw [lenP_eq]; simp_all; done) | (exfalso; exact hs.hd (by simp_all) hxl)
              · refine AWp.seq ?_
                refine AWp.region ?_
                refine AOps.sim okL rfl rfl ?_
                refine AOps.sim okL rfl rfl ?_
                refine AOps.nil ?_
                refine seqQ_n ?_
                refine AWp.condCase rfl (fun h => ?_) (fun h => ?_)
                · refine AWp.seq ?_
                  refine AWp.region ?_
                  refine AOps.sim okL rfl rfl ?_
                  refine AOps.sim okL rfl rfl ?_
                  refine AOps.nil ?_
                  refine AWp.ret ?_
                  refine blockQ_r ?_
                  first | (refine hR _ _ _ (by intro h; cases h) ?_; refine bodyQ_r (by first | exact ResOk.one rfl rfl | exact ResOk.two rfl rfl rfl | exact ResOk.three rfl rfl rfl rfl | exact ResOk.none rfl) ?_; clear K hR hR' IH; rw [lenP_eq]; simp_all; done) | (refine K () ?_ 0 _ _ ⟨rfl, trivial⟩ rfl; clear K hR hR' IH; rw [lenP_eq]; simp_all; done) | (exfalso; exact hs.hd (by simp_all) hxl)
                · refine AWp.seq ?_
                  refine AWp.region ?_
                  refine AOps.sim okL rfl rfl ?_
                  refine AOps.sim okL rfl rfl ?_
                  refine AOps.nil ?_
                  refine seqQ_n ?_
                  refine AWp.condCase rfl (fun h => ?_) (fun h => ?_)
                  · refine AWp.seq ?_
                    refine AWp.region ?_
                    refine AOps.sim okL rfl rfl ?_
                    refine AOps.pln ?_; refine AOp.load okL rfl (.head _) rfl rfl rfl rfl ?_
                    first | (refine hR _ _ _ (by intro h; cases h) ?_; refine bodyQ_r (by first | exact ResOk.one rfl rfl | exact ResOk.two rfl rfl rfl | exact ResOk.three rfl rfl rfl rfl | exact ResOk.none rfl) ?_; clear K hR hR' IH; rw [lenP_eq]; simp_all; done) | (refine K () ?_ 0 _ _ ⟨rfl, trivial⟩ rfl; clear K hR hR' IH; rw [lenP_eq]; simp_all; done) | (exfalso; exact hs.hd (by simp_all) hxl)
                  · refine AWp.skip ?_
                    refine blockQ_n ?_
                    first | (refine hR _ _ _ (by intro h; cases h) ?_; refine bodyQ_r (by first | exact ResOk.one rfl rfl | exact ResOk.two rfl rfl rfl | exact ResOk.three rfl rfl rfl rfl | exact ResOk.none rfl) ?_; clear K hR hR' IH; rw [lenP_eq]; simp_all; done) | (refine K () ?_ 0 _ _ ⟨rfl, trivial⟩ rfl; clear K hR hR' IH; rw [lenP_eq]; simp_all; done) | (exfalso; exact hs.hd (by simp_all) hxl)
    | cons y0 l0 =>
      have hy0 : y0 ∈ x.l := by rw [hxl]; exact List.mem_cons_self
      have hc := IH y0 hy0 (hs.tl y0 hy0)
      have hH : lenH x.l = lenP y0 := by rw [hxl]; rfl
      have hg : x.l[0]? = some y0 := by rw [hxl]; rfl
      refine AWp.block ?_
      refine AWp.seq ?_
      refine AWp.seq ?_
      refine AWp.region ?_
      refine AOps.sim okL rfl rfl ?_
      refine AOps.sim okL rfl rfl ?_
      refine AOps.nil ?_
      refine seqQ_n ?_
      refine AWp.condCase rfl (fun h => ?_) (fun h => ?_)
      · refine AWp.skip ?_
        refine AWp.condT rfl ?_
        refine AWp.seq ?_
        refine AWp.region ?_
        refine AOps.sim okL rfl rfl ?_
        refine AOps.sim okL rfl rfl ?_
        refine AOps.nil ?_
        refine AWp.ret ?_
        refine blockQ_r ?_
        first | (refine hR _ _ _ (by intro h; cases h) ?_; refine bodyQ_r (by first | exact ResOk.one rfl rfl | exact ResOk.two rfl rfl rfl | exact ResOk.three rfl rfl rfl rfl | exact ResOk.none rfl) ?_; rw [lenP_6 (by simpa using h) hH]; done) | (refine hR _ _ _ (by intro h; cases h) ?_; refine bodyQ_r (by first | exact ResOk.one rfl rfl | exact ResOk.two rfl rfl rfl | exact ResOk.three rfl rfl rfl rfl | exact ResOk.none rfl) ?_; clear K hR hR' IH hc; rw [lenP_eq]; simp_all; done) | (refine K () ?_ 0 _ _ ⟨rfl, trivial⟩ rfl; clear K hR hR' IH hc; rw [lenP_eq]; simp_all; done)
      · refine AWp.seq ?_
        refine AWp.region ?_
        refine AOps.sim okL rfl rfl ?_
        refine AOps.sim okL rfl rfl ?_
        refine AOps.nil ?_
        refine seqQ_n ?_
        refine AWp.condCase rfl (fun h => ?_) (fun h => ?_)
        · refine AWp.skip ?_
          refine AWp.condT rfl ?_
          refine AWp.seq ?_
          refine AWp.region ?_
          refine AOps.sim okL rfl rfl ?_
          refine AOps.sim okL rfl rfl ?_
          refine AOps.nil ?_
          refine AWp.ret ?_
          refine blockQ_r ?_
          first | (refine hR _ _ _ (by intro h; cases h) ?_; refine bodyQ_r (by first | exact ResOk.one rfl rfl | exact ResOk.two rfl rfl rfl | exact ResOk.three rfl rfl rfl rfl | exact ResOk.none rfl) ?_; rw [lenP_6 (by simpa using h) hH]; done) | (refine hR _ _ _ (by intro h; cases h) ?_; refine bodyQ_r (by first | exact ResOk.one rfl rfl | exact ResOk.two rfl rfl rfl | exact ResOk.three rfl rfl rfl rfl | exact ResOk.none rfl) ?_; clear K hR hR' IH hc; rw [lenP_eq]; simp_all; done) | (refine K () ?_ 0 _ _ ⟨rfl, trivial⟩ rfl; clear K hR hR' IH hc; rw [lenP_eq]; simp_all; done)
        · refine AWp.region ?_
          refine AOps.sim okL rfl rfl ?_
          refine AOps.sim okL rfl rfl ?_
          refine AOps.nil ?_
          refine seqQ_n ?_
          refine AWp.condCase rfl (fun h => ?_) (fun h => ?_)
          · refine AWp.seq ?_
            refine AWp.region ?_
            refine AOps.sim okL rfl rfl ?_
            refine AOps.sim okL rfl rfl ?_
            refine AOps.nil ?_
            refine AWp.ret ?_
            refine blockQ_r ?_
            first | (refine hR _ _ _ (by intro h; cases h) ?_; refine bodyQ_r (by first | exact ResOk.one rfl rfl | exact ResOk.two rfl rfl rfl | exact ResOk.three rfl rfl rfl rfl | exact ResOk.none rfl) ?_; rw [lenP_6 (by simpa using h) hH]; done) | (refine hR _ _ _ (by intro h; cases h) ?_; refine bodyQ_r (by first | exact ResOk.one rfl rfl | exact ResOk.two rfl rfl rfl | exact ResOk.three rfl rfl rfl rfl | exact ResOk.none rfl) ?_; clear K hR hR' IH hc; rw [lenP_eq]; simp_all; done) | (refine K () ?_ 0 _ _ ⟨rfl, trivial⟩ rfl; clear K hR hR' IH hc; rw [lenP_eq]; simp_all; done)
          · refine AWp.seq ?_
            refine AWp.seq ?_
            refine AWp.region ?_
            refine AOps.sim okL rfl rfl ?_
            refine AOps.sim okL rfl rfl ?_
            refine AOps.nil ?_
            refine seqQ_n ?_
            refine AWp.condCase rfl (fun h => ?_) (fun h => ?_)
            · refine AWp.skip ?_
              refine AWp.condT rfl ?_
              refine AWp.seq ?_
              refine AWp.region ?_
              refine AOps.sim okL rfl rfl ?_
              refine AOps.sim okL rfl rfl ?_
              refine AOps.nil ?_
              refine AWp.ret ?_
              refine blockQ_r ?_
              first | (refine hR _ _ _ (by intro h; cases h) ?_; refine bodyQ_r (by first | exact ResOk.one rfl rfl | exact ResOk.two rfl rfl rfl | exact ResOk.three rfl rfl rfl rfl | exact ResOk.none rfl) ?_; rw [lenP_6 (by simpa using h) hH]; done) | (refine hR _ _ _ (by intro h; cases h) ?_; refine bodyQ_r (by first | exact ResOk.one rfl rfl | exact ResOk.two rfl rfl rfl | exact ResOk.three rfl rfl rfl rfl | exact ResOk.none rfl) ?_; clear K hR hR' IH hc; rw [lenP_eq]; simp_all; done) | (refine K () ?_ 0 _ _ ⟨rfl, trivial⟩ rfl; clear K hR hR' IH hc; rw [lenP_eq]; simp_all; done)
            · refine AWp.region ?_
              refine AOps.sim okL rfl rfl ?_
              refine AOps.sim okL rfl rfl ?_
              refine AOps.nil ?_
              refine seqQ_n ?_
              refine AWp.condCase rfl (fun h => ?_) (fun h => ?_)
              · refine AWp.seq ?_
                refine AWp.region ?_
                refine AOps.sim okL rfl rfl ?_
                refine AOps.sim okL rfl rfl ?_
                refine AOps.nil ?_
                refine AWp.ret ?_
                refine blockQ_r ?_
                first | (refine hR _ _ _ (by intro h; cases h) ?_; refine bodyQ_r (by first | exact ResOk.one rfl rfl | exact ResOk.two rfl rfl rfl | exact ResOk.three rfl rfl rfl rfl | exact ResOk.none rfl) ?_; rw [lenP_6 (by simpa using h) hH]; done) | (refine hR _ _ _ (by intro h; cases h) ?_; refine bodyQ_r (by first | exact ResOk.one rfl rfl | exact ResOk.two rfl rfl rfl | exact ResOk.three rfl rfl rfl rfl | exact ResOk.none rfl) ?_; clear K hR hR' IH hc; rw [lenP_eq]; simp_all; done) | (refine K () ?_ 0 _ _ ⟨rfl, trivial⟩ rfl; clear K hR hR' IH hc; rw [lenP_eq]; simp_all; done)
              · refine AWp.seq ?_
                refine AWp.region ?_
                refine AOps.sim okL rfl rfl ?_
                refine AOps.sim okL rfl rfl ?_
                refine AOps.nil ?_
                refine seqQ_n ?_
                refine AWp.condCase rfl (fun h => ?_) (fun h => ?_)
                · refine AWp.seq ?_
                  refine AWp.region ?_
                  refine AOps.sim okL rfl rfl ?_
                  refine AOps.sim okL rfl rfl ?_
                  refine AOps.nil ?_
                  refine AWp.ret ?_
                  refine blockQ_r ?_
                  first | (refine hR _ _ _ (by intro h; cases h) ?_; refine bodyQ_r (by first | exact ResOk.one rfl rfl | exact ResOk.two rfl rfl rfl | exact ResOk.three rfl rfl rfl rfl | exact ResOk.none rfl) ?_; rw [lenP_6 (by simpa using h) hH]; done) | (refine hR _ _ _ (by intro h; cases h) ?_; refine bodyQ_r (by first | exact ResOk.one rfl rfl | exact ResOk.two rfl rfl rfl | exact ResOk.three rfl rfl rfl rfl | exact ResOk.none rfl) ?_; clear K hR hR' IH hc; rw [lenP_eq]; simp_all; done) | (refine K () ?_ 0 _ _ ⟨rfl, trivial⟩ rfl; clear K hR hR' IH hc; rw [lenP_eq]; simp_all; done)
                · refine AWp.seq ?_
                  refine AWp.region ?_
                  refine AOps.sim okL rfl rfl ?_
                  refine AOps.sim okL rfl rfl ?_
                  refine AOps.nil ?_
                  refine seqQ_n ?_
                  refine AWp.condCase rfl (fun h => ?_) (fun h => ?_)
                  · refine AWp.seq ?_
                    refine AWp.region ?_
                    refine AOps.sim okL rfl rfl ?_
                    refine AOps.pln ?_; refine AOp.load okL rfl (.head _) rfl rfl rfl rfl ?_
                    refine AOps.sim okL (sOp_idxD rfl rfl rfl rfl rfl (Int.le_refl _) (getC hg) rfl) rfl ?_
                    refine AOps.sim okL rfl rfl ?_
                    refine AOps.pln ?_; focus (refine AOp.callP (v := ?_) rfl rfl rfl ?_ ?_; rotate_left; exact (hc))
                    refine AOps.sim okL rfl rfl ?_
                    refine AOps.sim okL rfl rfl ?_
                    refine AOps.sim okL rfl rfl ?_
                    refine AOps.sim okL rfl rfl ?_
                    refine AOps.sim okL rfl rfl ?_
                    refine AOps.nil ?_
                    refine AWp.seq ?_
                    refine AWp.drawn okL hmix (by kernel_rfl) ?_
                    refine Pl.pure rfl rfl ?_
                    refine Pl.quiet rfl rfl rfl (AOp.load okL rfl (.head _) rfl rfl rfl rfl (AOps.nil (Qn_n ⟨rfl, rfl⟩))) ?_
                    refine Pl.pure rfl rfl ?_
                    focus (refine Pl.quiet (v := ?_) rfl rfl rfl (AOp.callP rfl rfl rfl ?_ (AOps.nil (Qn_n ⟨rfl, rfl⟩))) ?_; rotate_left; exact (times_tr _ _))
                    refine Pl.pure rfl rfl ?_
                    refine Pl.quiet rfl rfl rfl (AOp.load okL rfl (.head _) rfl rfl rfl rfl (AOps.nil (Qn_n ⟨rfl, rfl⟩))) ?_
                    refine Pl.pure rfl rfl ?_
                    focus (refine Pl.quiet (v := ?_) rfl rfl rfl (AOp.callP rfl rfl rfl ?_ (AOps.nil (Qn_n ⟨rfl, rfl⟩))) ?_; rotate_left; exact (times_tr _ _))
                    refine Pl.pure rfl rfl ?_
                    refine Pl.pure rfl rfl ?_
                    refine Pl.nil ?_
                    refine AWp.ret ?_
                    refine blockQ_r ?_
                    first | (refine hR _ _ _ (by intro h; cases h) ?_; refine bodyQ_r (by first | exact ResOk.one rfl rfl | exact ResOk.two rfl rfl rfl | exact ResOk.three rfl rfl rfl rfl | exact ResOk.none rfl) ?_; rw [lenP_6 (by simpa using h) hH]; done) | (refine hR _ _ _ (by intro h; cases h) ?_; refine bodyQ_r (by first | exact ResOk.one rfl rfl | exact ResOk.two rfl rfl rfl | exact ResOk.three rfl rfl rfl rfl | exact ResOk.none rfl) ?_; clear K hR hR' IH hc; rw [lenP_eq]; simp_all; done) | (refine K () ?_ 0 _ _ ⟨rfl, trivial⟩ rfl; clear K hR hR' IH hc; rw [lenP_eq]; simp_all; done)
                  · refine AWp.skip ?_
                    refine blockQ_n ?_
                    first | (refine hR _ _ _ (by intro h; cases h) ?_; refine bodyQ_r (by first | exact ResOk.one rfl rfl | exact ResOk.two rfl rfl rfl | exact ResOk.three rfl rfl rfl rfl | exact ResOk.none rfl) ?_; rw [lenP_6 (by simpa using h) hH]; done) | (refine hR _ _ _ (by intro h; cases h) ?_; refine bodyQ_r (by first | exact ResOk.one rfl rfl | exact ResOk.two rfl rfl rfl | exact ResOk.three rfl rfl rfl rfl | exact ResOk.none rfl) ?_; clear K hR hR' IH hc; rw [lenP_eq]; simp_all; done) | (refine K () ?_ 0 _ _ ⟨rfl, trivial⟩ rfl; clear K hR hR' IH hc; rw [lenP_eq]; simp_all; done)
end Go.Proofs.Ytiaogfkkfoakpaa

