/- A part of the proof: a layer of abstract values over the kit's walks, an evaluator over it, and walks of functions. -/
import Derived.Test.YtpopmiodjibljaaGreatDoorBpsE
set_option linter.unusedVariables false
set_option linter.unusedSimpArgs false
set_option maxRecDepth 100000

namespace Go.Proofs.YtpopmiodjibljaaGreatDoor
open Go Go.Abs Go.Bk
set_option maxRecDepth 100000
def srch (B : Bk) (root : Pat) (n : Nat) : Nat → Int → Wk → Option (BOut × Wk)
 | 0, _, w => some (.no, w)
 | k + 1, p, w => match brun B n (.try_ root (s0 p) [.fin]) w with
  | none => none
  | some (.yes s, w') => some (.yes s, w')
  | some (.tired, w') => some (.tired, w')
  | some (_, w') => srch B root n k (p + 1) w'
set_option maxHeartbeats 1000000 in
theorem search_tr {X : Mt} {body : Int → Pat} {g : Int} (hP : Prog zbE X (bkP X body fun _ => true) g X.s.length) (hg : 1 ≤ X.ge.length ∧ X.ge.length ≤ 10) {a : MS} (ha : MOk zbE X a) (hf : zaF (bkP X body fun _ => true) a.w) (hx : Vd g X.root) {p : Int} (h0 : 0 ≤ p) (hp : p ≤ X.s.length)
  {n : Nat} {o : BOut} {w' : Wk} (hr : srch (bkP X body fun _ => true) X.root n (X.s.length + 1 - p.toNat) p a.w = some (o, w')) :
  TrG [] Tryz.prog 73 [X.p, i64 p] (Hm X a) fun v H' => v = .tup [.agg (zbk X (outS o)), .bool (zkJ o), i64 (errB o)] ∧ ∃ a' G, a'.w = w' ∧ MOk zbE X a' ∧ H'.Perm (G ++ Hm X a') := by
 have hN := hP.hN; refine Ja (N := 37) Tryz.func73 I I I ?_; refine ae0 (ag 2 I (J (Jb okL I I I (fun _ _ => (ab (ag 12 I (Y ?_))))))); rename_i r4 _; refine Jg (α := Int × MS) (fun b => X.s.length + 1 - b.1.toNat) (fun b => [(0, X.p), (4, .ptr r4 3 0 0), (7, i64 b.1)]) (fun b => (r4, .row 37 3 [zbk X none]) :: Hm X b.2)
  (fun b => 0 ≤ b.1 ∧ b.1 ≤ X.s.length + 1 ∧ MOk zbE X b.2 ∧ zaF (bkP X body fun _ => true) b.2.w ∧ srch (bkP X body fun _ => true) X.root n (X.s.length + 1 - b.1.toNat) b.1 b.2.w = some (o, w')) (p, a) ⟨h0, by simp only; omega, ha, hf, hr⟩ ?_ (List.Perm.refl _) ?_
 ·simp only [za8]
  refine ⟨rfl, rfl, rfl, trivial⟩
 rintro ⟨q, b⟩ ⟨hq0, hq1, hb, hfb, hs⟩ ih; simp only at hq0 hq1 hb hfb hs; rw [zaX]; refine ae0 (ag 7 rfl (J (U okL rfl (.tail _ (.head _)) rfl rfl rfl rfl (ab (ag 4 rfl (Y ?_)))))); rw [List.length_map]
 (refine J1 I (fun h => ?_) (fun h => ?_))
 ·have h : q ≤ (X.s.length : Int) := of_decide_eq_true h
  have nx : A.int .i64 (IntKind.i64.wrap (q + 1)) = .int .i64 (q + 1) := by rw [zaY ⟨by omega, by omega⟩]
  have ek : X.s.length + 1 - q.toNat = (X.s.length + 1 - (q + 1).toNat) + 1 := by omega
  rw [ek, srch] at hs; cases h1 : brun (bkP X body fun _ => true) n (.try_ X.root (s0 q) [.fin]) b.w with
  | none => rw [h1] at hs; cases hs
  | some r =>
   obtain ⟨o1, w1⟩ := r; have hm := match_tr hP hg hb hfb hx hq0 h h1; have hro := zmT hP.hB n _ _ _ _ hfb (zo3 hx hq0 h) h1; rw [h1] at hs; refine ae (ag 8 rfl (J3 ?_)); refine J5 (Jc [_] rfl rfl rfl rfl hm fun v H' hv => ?_)
   obtain ⟨rfl, b', G, e1, e2, e3⟩ := hv; refine Jp (H' := G ++ ((r4, .row 37 3 [zbk X none]) :: Hm X b')) ((e3.cons _).trans List.perm_middle.symm) (AOps.dropL G ?_)
   subst e1; cases o1 with
   | yes s =>
    cases hs; refine ab (ag 4 I (J (Jb okL I I I (fun _ _ => (ab (J (J4 okL I I I (zaa I) rfl I I .here I I I (ab (ag 16 I (J (U okL I (.head _) rfl I I I (ab (ag 2 I (J (J4 okL I I I (zaa I) rfl I I (.there .here) rfl I I (ab (ag 7 I (O (ax (ag 2 I (O ?_))))))))))))))))))))); refine zab (Jj okL I I (.tail _ (.head _)) I I I I I) ?_; exact ⟨rfl, b', [_, _], rfl, e2, .refl _⟩
   | tired =>
    cases hs; refine ab (ag 4 I (J (Jb okL I I I (fun _ _ => (ab (J (J4 okL I I I (zaa I) rfl I I .here I I I (ab (ag 16 I (J (U okL I (.head _) rfl I I I (ab (ag 2 I (J (J4 okL I I I (zaa I) rfl I I (.there .here) rfl I I (ab (ag 7 I (O (ax (ag 2 I (O ?_))))))))))))))))))))); refine zab (Jj okL I I (.tail _ (.head _)) I I I I I) ?_; exact ⟨rfl, b', [_, _], rfl, e2, .refl _⟩
   | no =>
    refine ab (ag 4 I (J (Jb okL I I I (fun _ _ => (ab (J (J4 okL I I I (zaa I) rfl I I .here I I I (ab (ag 22 I (O (zar ?_)))))))))))
    (refine AIn.nextN 1 (ih ((q + 1, b')) (⟨by simp only; omega, by simp only; omega, e2, hro.fr (fun h => nomatch h), hs⟩) (by omega)) ?_ rfl; repeat (first | exact trivial | refine ⟨rfl, ?_⟩ | refine ⟨congrArg some nx, ?_⟩))
   | cut j =>
    refine ab (ag 4 I (J (Jb okL I I I (fun _ _ => (ab (J (J4 okL I I I (zaa I) rfl I I .here I I I (ab (ag 22 I (O (zar ?_)))))))))))
    (refine AIn.nextN 1 (ih ((q + 1, b')) (⟨by simp only; omega, by simp only; omega, e2, hro.fr (fun h => nomatch h), hs⟩) (by omega)) ?_ rfl; repeat (first | exact trivial | refine ⟨rfl, ?_⟩ | refine ⟨congrArg some nx, ?_⟩))
 ·have h : ¬ q ≤ (X.s.length : Int) := of_decide_eq_false h
  have ek : X.s.length + 1 - q.toNat = 0 := by omega
  rw [ek, srch] at hs; cases hs; refine ae (ag 2 I (O (ae (ag 3 I (J (J4 okL I I I (zaa I) rfl I I .here I I I (ab (ag 5 I (O ?_))))))))); refine zab (Jj okL I I (.head _) rfl I I I I) ?_; exact ⟨rfl, b, [_], rfl, hb, .refl _⟩
def bkF (x : Pat) (fl s : List UInt8) (stop : List Int → Bool) : Bk := bkP (mtX x fl s 0 0 0) (zbY x) stop
theorem zpa {x : Pat} {fl s : List UInt8} {X : Mt} (h : NewX x fl s X) (stop : List Int → Bool) : bkP X (zbY x) stop = bkF x fl s stop := by
 obtain ⟨m, rg, rw, root, ss, fold, lines, all, mask, ge⟩ := X; obtain ⟨h1, h2, h3, h4, h5, h6, h7⟩ := h; simp only at h1 h2 h3 h4 h5 h6 h7; subst h2 h3 h4 h5 h6; rfl
def zeX (ng : Nat) : Option Sg → List A
 | some s => [i64 s.keep, i64 s.at_, .ds ((zef ng s.caps).map zaf)]
 | none => [i64 0, i64 0, .nils]
theorem zh6 (X : Mt) (q : Option Sg) : zbk X q = zeX X.ge.length q := by cases q <;> rfl
def w0 : Wk := ⟨0, 0, [], []⟩
def ngOf (x : Pat) : Nat := (opnP x).length + 1
theorem zki {x : Pat} (hb : zaq x ≤ 1000000) {fl s : List UInt8} {p : Int} (he : zat x fl s p = 0) {X : Mt} (h : NewX x fl s X) (stop : List Int → Bool) :
  Prog zbE X (bkP X (zbY x) stop) (opnP x).length X.s.length ∧ (1 ≤ X.ge.length ∧ X.ge.length ≤ 10) ∧ X.ge.length = ngOf x ∧ MOk zbE X ms0 ∧ Vd (opnP x).length X.root ∧ 0 ≤ p ∧ p ≤ X.s.length := by
 unfold zat at he; by_cases h1 : valP x = 0
 ·rw [if_neg (fun k => k h1)] at he
  by_cases h2 : flgM 0 fl = false
  ·rw [if_pos h2] at he; cases he
  rw [if_neg h2] at he; by_cases h3 : subE s = 0
  ·rw [if_neg (fun k => k h3)] at he
   by_cases h4 : p < 0 ∨ p > ((rns s).length : Int)
   ·rw [if_pos h4] at he; cases he
   obtain ⟨v1, v2, v3, v4, v5⟩ := zin hb h1; have hl : X.ge.length = ngOf x := by rw [h.ge]; simp [grpE, ngOf]
   have hsl : (rns s).length ≤ 200 := by
    unfold subE at h3; split at h3
    ·rename_i k; exact absurd h3 k
    ·split at h3
     ·cases h3
     ·omega
   refine ⟨zp9 (by rw [h.s]; omega) (by omega) (fun n k0 k1 => zqb v1 k0 k1) (fun n k0 k1 => ?_), ⟨by rw [hl, ngOf]; omega, by rw [hl, ngOf]; omega⟩, hl, ⟨fun _ => rfl, by simp [ms0], ⟨Int.le_refl _, Int.le_refl _⟩, ⟨[], rfl, fun l hl => by cases hl⟩⟩, by rw [h.root]; exact v1, by omega, by rw [h.s]; omega⟩
   obtain ⟨i, hi⟩ := zqw v3 k0 k1; exact ⟨i, by rw [h.ge, zjh, hi]; rfl⟩
  ·rw [if_pos h3] at he; exact absurd he h3
 ·rw [if_pos h1] at he; exact absurd he h1
def resA (x : Pat) (e : Int) (o : BOut) : A := if e ≠ 0 then .tup [.agg (zeX 0 none), .bool false, i64 e] else .tup [.agg (zeX (ngOf x) (outS o)), .bool (zkJ o), i64 (errB o)]
theorem ze1 (x : Pat) (hb : zaq x ≤ 1000000) (fl s : List UInt8) (p : Int) (o : BOut) (w' : Wk) (hr : zat x fl s p = 0 → ∃ n, brun (bkF x fl s fun _ => true) n (.try_ x (s0 p) [.fin]) w0 = some (o, w')) :
  PTrG tabG Tryz.prog 22 [.agg x.C, .str fl, .str s, i64 p] (resA x (zat x fl s p) o) := by
 refine PTrG.of_body (N := 31) Tryz.func22 I I I ?_; refine ae0 (ag 2 I (J (J9 4 I I (zaa I) rfl (ab (J (Jb okL I I I (fun _ _ => (ab (ag 10 I (J3 ?_)))))))))); rename_i r8 _; refine J5 (Jc [_] rfl I I (by rw [List.append_nil]) (newMatcher_tr x hb fl s p) fun v H' hv => ?_)
 obtain ⟨hv1, hv2⟩ := hv; by_cases he : zat x fl s p = 0
 ·obtain ⟨X, G, hX, rfl, hp⟩ := hv2 he
  obtain ⟨q1, q2, q3, q4, q5, q6, q7⟩ := zki hb he hX (fun _ => true); obtain ⟨n, hr⟩ := hr he; have hm := match_tr q1 q2 q4 rfl q5 q6 q7 (n := n) (o := o) (w' := w') (by rw [hX.root, zpa hX]; exact hr); refine Jp (H' := G ++ ((r8, .row 37 3 [zbk X none]) :: Hm X ms0)) ((hp.cons _).trans List.perm_middle.symm) (AOps.dropL G ?_)
  rw [show resA x (zat x fl s p) o = .tup [.agg (zeX (ngOf x) (outS o)), .bool (zkJ o), i64 (errB o)] from if_neg (fun h => h he), ← q3, ← zh6]
  refine ab (ag 21 I (J3 ?_)); refine J5 (Jc [_] rfl I I I hm.weak fun v H' hv => ?_)
  obtain ⟨rfl, a', G', e1, e2, e3⟩ := hv; cases o with
  | yes s =>
   refine ab (ag 3 I (J (J4 okL I I I (zaa I) rfl I I .here I I I (ab (ag 5 I (O ?_)))))); refine zab (Jj okL I I (.head _) rfl I I I I) ?_; rfl
  | tired =>
   refine ab (ag 3 I (J (J4 okL I I I (zaa I) rfl I I .here I I I (ab (ag 5 I (O ?_)))))); refine zab (Jj okL I I (.head _) rfl I I I I) ?_; rfl
  | no =>
   refine ab (ag 3 I (J (J4 okL I I I (zaa I) rfl I I .here I I I (ab (ag 5 I (O ?_)))))); refine zab (Jj okL I I (.head _) rfl I I I I) ?_; rfl
  | cut j =>
   refine ab (ag 3 I (J (J4 okL I I I (zaa I) rfl I I .here I I I (ab (ag 5 I (O ?_)))))); refine zab (Jj okL I I (.head _) rfl I I I I) ?_; rfl
 ·have hv := hv1 he
  subst hv; have hne : (zat x fl s p != 0) = true := by simpa using he
  rw [show resA x (zat x fl s p) o = .tup [.agg (zeX 0 none), .bool false, i64 (zat x fl s p)] from if_pos he]
  refine ab (ag 14 I (Y ?_)); rw [hne]; refine ae (ag 5 I (J (J4 okL I I I (zaa I) rfl I I .here I I I (ab (ag 6 I (O ?_)))))); refine zab (Jj okL I I (.head _) rfl I I I I) ?_; rfl
theorem zgZ (x : Pat) (hb : zaq x ≤ 1000000) (fl s : List UInt8) (p : Int) (o : BOut) (w' : Wk) (hr : zat x fl s p = 0 → ∃ n, srch (bkF x fl s fun _ => true) x n ((rns s).length + 1 - p.toNat) p w0 = some (o, w')) :
  PTrG tabG Tryz.prog 26 [.agg x.C, .str fl, .str s, i64 p] (resA x (zat x fl s p) o) := by
 refine PTrG.of_body (N := 31) Tryz.func26 I I I ?_; refine ae0 (ag 2 I (J (J9 4 I I (zaa I) rfl (ab (J (Jb okL I I I (fun _ _ => (ab (ag 10 I (J3 ?_)))))))))); rename_i r8 _; refine J5 (Jc [_] rfl I I (by rw [List.append_nil]) (newMatcher_tr x hb fl s p) fun v H' hv => ?_)
 obtain ⟨hv1, hv2⟩ := hv; by_cases he : zat x fl s p = 0
 ·obtain ⟨X, G, hX, rfl, hp⟩ := hv2 he
  obtain ⟨q1, q2, q3, q4, q5, q6, q7⟩ := zki hb he hX (fun _ => true); obtain ⟨n, hr⟩ := hr he; have hm := search_tr q1 q2 q4 rfl q5 q6 q7 (n := n) (o := o) (w' := w') (by rw [hX.root, zpa hX, hX.s]; exact hr); refine Jp (H' := G ++ ((r8, .row 37 3 [zbk X none]) :: Hm X ms0)) ((hp.cons _).trans List.perm_middle.symm) (AOps.dropL G ?_)
  rw [show resA x (zat x fl s p) o = .tup [.agg (zeX (ngOf x) (outS o)), .bool (zkJ o), i64 (errB o)] from if_neg (fun h => h he), ← q3, ← zh6]
  refine ab (ag 21 I (J3 ?_)); refine J5 (Jc [_] rfl I I I hm.weak fun v H' hv => ?_)
  obtain ⟨rfl, a', G', e1, e2, e3⟩ := hv; cases o with
  | yes s =>
   refine ab (ag 3 I (J (J4 okL I I I (zaa I) rfl I I .here I I I (ab (ag 5 I (O ?_)))))); refine zab (Jj okL I I (.head _) rfl I I I I) ?_; rfl
  | tired =>
   refine ab (ag 3 I (J (J4 okL I I I (zaa I) rfl I I .here I I I (ab (ag 5 I (O ?_)))))); refine zab (Jj okL I I (.head _) rfl I I I I) ?_; rfl
  | no =>
   refine ab (ag 3 I (J (J4 okL I I I (zaa I) rfl I I .here I I I (ab (ag 5 I (O ?_)))))); refine zab (Jj okL I I (.head _) rfl I I I I) ?_; rfl
  | cut j =>
   refine ab (ag 3 I (J (J4 okL I I I (zaa I) rfl I I .here I I I (ab (ag 5 I (O ?_)))))); refine zab (Jj okL I I (.head _) rfl I I I I) ?_; rfl
 ·have hv := hv1 he
  subst hv; have hne : (zat x fl s p != 0) = true := by simpa using he
  rw [show resA x (zat x fl s p) o = .tup [.agg (zeX 0 none), .bool false, i64 (zat x fl s p)] from if_pos he]
  refine ab (ag 14 I (Y ?_)); rw [hne]; refine ae (ag 5 I (J (J4 okL I I I (zaa I) rfl I I .here I I I (ab (ag 6 I (O ?_)))))); refine zab (Jj okL I I (.head _) rfl I I I I) ?_; rfl
end Go.Proofs.YtpopmiodjibljaaGreatDoor
namespace Go.Bk
open Go Go.Abs
def TSim (a b : Pat) (t t' : Task) : Prop := t = t' ∨ ∃ s k, t = .try_ a s k ∧ t' = .try_ b s k
inductive TmS (a b : Pat) : Tm → Tm → Prop
 | ret (o : BOut) (w w' : Wk) : TmS a b (.ret (o, w)) (.ret (o, w'))
 | ask (t t' : Task) (w w' : Wk) (f f' : BOut × Wk → Tm) (h : TSim a b t t') (hf : ∀ o w w', TmS a b (f (o, w)) (f' (o, w'))) : TmS a b (.ask t w f) (.ask t' w' f')
def Bk.other (B : Bk) (body : Int → Pat) : Bk := { B with body := body }
section
variable {a b : Pat}
theorem TmS.last {t t' : Task} (h : TSim a b t t') (w w' : Wk) : TmS a b (.last t w) (.last t' w') := .ask _ _ _ _ _ _ h fun o w w' => .ret o w w'
theorem TmS.same (t : Task) (w w' : Wk) : TmS a b (.last t w) (.last t w') := TmS.last (.inl I) w w'
theorem TmS.ite {c : Prop} [Decidable c] {A A' C C' : Tm} (h1 : c → TmS a b A A') (h2 : ¬ c → TmS a b C C') : TmS a b (if c then A else C) (if c then A' else C') := by
 by_cases h : c
 ·rw [if_pos h, if_pos h]; exact h1 h
 ·rw [if_neg h, if_neg h]; exact h2 h
theorem zek (k : List Fm) (s : Sg) (o : BOut) (w w' : Wk) : TmS a b (thenS k s (o, w)) (thenS k s (o, w')) := by
 cases o with
 | yes e => exact TmS.same _ _ _
 | tired => exact .ret _ _ _
 | no => exact .ret _ _ _
 | cut j => exact .ret _ _ _
theorem zh1 (x : Pat) (k : List Fm) (s : Sg) (o : BOut) (w w' : Wk) : TmS a b (za9 x k s (o, w)) (za9 x k s (o, w')) := by
 cases o with
 | yes e => exact TmS.ite (fun _ => TmS.same _ _ _) (fun _ => .ret _ _ _)
 | tired => exact .ret _ _ _
 | no => exact TmS.ite (fun _ => .ret _ _ _) (fun _ => TmS.same _ _ _)
 | cut j => exact TmS.ite (fun _ => .ret _ _ _) (fun _ => TmS.same _ _ _)
theorem zma (k : List Fm) (o : BOut) (w w' : Wk) : TmS a b (ze6 k (o, w)) (ze6 k (o, w')) := by
 cases o with
 | cut j => exact TmS.ite (fun _ => .ret _ _ _) (fun _ => .ret _ _ _)
 | yes e => exact .ret _ _ _
 | tired => exact .ret _ _ _
 | no => exact .ret _ _ _
theorem zme (k : List Fm) (o : BOut) (w w' : Wk) : TmS a b (zh9 k (o, w)) (zh9 k (o, w')) := by
 cases o <;> exact .ret _ _ _
theorem zfS {f f' : Wk → Tm} (hf : ∀ w w', TmS a b (f w) (f' w')) (o : BOut) (w w' : Wk) : TmS a b (ze3 f (o, w)) (ze3 f' (o, w')) := by
 cases o with
 | no => exact hf w w'
 | yes e => exact .ret _ _ _
 | tired => exact .ret _ _ _
 | cut j => exact .ret _ _ _
theorem zkp (x : Pat) (n : Nat) (s : Sg) (k : List Fm) (w w' : Wk) : TmS a b (catS x n s k w) (catS x n s k w') := by
 unfold catS; cases x.l[n]? with
 | none => exact TmS.same _ _ _
 | some y => exact TmS.same _ _ _
theorem zmv (x : Pat) (m : Int) (s : Sg) (k : List Fm) (w w' : Wk) : TmS a b (zcZ x m s k w) (zcZ x m s k w') := by
 unfold zcZ; refine TmS.ite (fun _ => TmS.ite (fun _ => ?_) (fun _ => ?_)) (fun _ => TmS.ite (fun _ => ?_) (fun _ => ?_))
 ·exact .ask _ _ _ _ _ _ (.inl I) fun o w w' => zfS (fun w w' => TmS.ite (fun _ => TmS.same _ _ _) (fun _ => .ret _ _ _)) o w w'
 ·exact TmS.ite (fun _ => TmS.same _ _ _) (fun _ => .ret _ _ _)
 ·exact .ask _ _ _ _ _ _ (.inl I) fun o w w' => zfS (fun w w' => TmS.ite (fun _ => TmS.same _ _ _) (fun _ => .ret _ _ _)) o w w'
 ·exact TmS.ite (fun _ => TmS.same _ _ _) (fun _ => .ret _ _ _)
theorem znl (s : Sg) (k : List Fm) (w w' : Wk) (l : List Pat) : TmS a b (zmQ s k w l) (zmQ s k w' l) := by
 cases l with
 | nil => exact .ret _ _ _
 | cons y l => exact .ask _ _ _ _ _ _ (.inl rfl) fun o w w' => zfS (fun w w' => TmS.same _ _ _) o w w'
variable {B : Bk} {body : Int → Pat}
theorem zpX (hs : ∀ l, B.stop l = true) (s : Sg) (w w' : Wk) (k : List Fm) : TmS a b (goS B s w k) (goS (B.other body) s w' k) := by
 match k with
 | [] => exact .ret _ _ _
 | .cat x n :: k => exact zkp x n s k w w'
 | .turn x many fr :: k => exact TmS.ite (fun _ => .ret _ _ _) (fun _ => TmS.same _ _ _)
 | .group x fr :: k => exact TmS.same _ _ _
 | .call o :: k => exact TmS.same _ _ _
 | .stop want :: k => exact TmS.ite (fun _ => .ret _ _ _) (fun _ => .ret _ _ _)
 | .fin :: k =>
  show TmS a b (if B.stop (w.acc ++ [s.at_]) = true then _ else _) (if B.stop (w'.acc ++ [s.at_]) = true then _ else _)
  rw [if_pos (hs _), if_pos (hs _)]; exact .ret _ _ _
theorem zmR (hτ : ∀ p r, B.tau p r = false) (hb : ∀ n, B.body n = body n ∨ (B.body n = a ∧ body n = b)) (x : Pat) (s : Sg) (k : List Fm) (w w' : Wk) : TmS a b (zaR B x s k w) (zaR (B.other body) x s k w') := by
 unfold zaR; refine TmS.ite (fun _ => TmS.ite (fun _ => TmS.same _ _ _) (fun _ => .ret _ _ _)) (fun _ => ?_)
 refine TmS.ite (fun _ => zkp _ _ _ _ _ _) (fun _ => ?_)
 refine TmS.ite (fun _ => TmS.same _ _ _) (fun _ => ?_)
 refine TmS.ite (fun _ => TmS.ite (fun _ => .ask _ _ _ _ _ _ (.inl I) (zek k s)) (fun _ => TmS.same _ _ _)) (fun _ => ?_)
 refine TmS.ite (fun _ => TmS.same _ _ _) (fun _ => ?_)
 refine TmS.ite (fun _ => TmS.ite (fun _ => ?_) (fun _ => .ask _ _ _ _ _ _ (.inl I) (zek k s))) (fun _ => ?_)
 ·rw [if_neg (by rw [hτ]; exact Bool.false_ne_true), if_neg (by rw [show (B.other body).tau = B.tau from rfl, hτ]; exact Bool.false_ne_true)]
  exact .ask _ _ _ _ _ _ (.inl I) (zek k s)
 refine TmS.ite (fun _ => TmS.ite (fun _ => zh1 x k s .no w w') (fun _ => .ask _ _ _ _ _ _ (.inl I) (zh1 x k s))) (fun _ => ?_)
 refine TmS.ite (fun _ => TmS.ite (fun _ => .ret _ _ _) (fun _ => TmS.same _ _ _)) (fun _ => ?_)
 refine TmS.ite (fun _ => TmS.ite (fun _ => TmS.same _ _ _) (fun _ => .ret _ _ _)) (fun _ => ?_)
 refine TmS.ite (fun _ => TmS.ite (fun _ => .ret _ _ _) (fun _ => .ask _ _ _ _ _ _ ?_ (zma k))) (fun _ => ?_)
 ·rcases hb x.n with h | ⟨h1, h2⟩
  ·exact .inl (by rw [show (B.other body).body = body from rfl, h])
  ·exact .inr ⟨_, _, by rw [h1], by rw [show (B.other body).body = body from rfl, h2]⟩
 refine TmS.ite (fun _ => TmS.ite (fun _ => TmS.same _ _ _) (fun _ => TmS.same _ _ _)) (fun _ => ?_)
 refine TmS.ite (fun _ => TmS.ite (fun _ => .ret _ _ _) (fun _ => TmS.ite (fun _ => TmS.same _ _ _) (fun _ => .ask _ _ _ _ _ _ (.inl I) (zme k)))) (fun _ => ?_)
 refine TmS.ite (fun _ => TmS.ite (fun _ => TmS.same _ _ _) (fun _ => .ret _ _ _)) (fun _ => ?_)
 exact TmS.ite (fun _ => TmS.same _ _ _) (fun _ => TmS.same _ _ _)
theorem zoA {rec rec' : Task → Wk → BRes} (h : ∀ t t' w w' o w1, TSim a b t t' → rec t w = some (o, w1) → ∃ w2, rec' t' w' = some (o, w2)) : ∀ {T T' : Tm} {o : BOut} {w1 : Wk}, TmS a b T T' → T.eval rec = some (o, w1) → ∃ w2, T'.eval rec' = some (o, w2) := by
 intro T T' o w1 hs
 induction hs with
 | ret o' w w' =>
  intro e; simp only [Tm.eval, Option.some.injEq, Prod.mk.injEq] at e; exact ⟨w', by simp only [Tm.eval, e.1]⟩
 | ask t t' w w' f f' ht hf ih =>
  intro e; simp only [Tm.eval, Option.bind_eq_some_iff] at e ⊢; obtain ⟨⟨o2, w2⟩, e1, e2⟩ := e; obtain ⟨w3, e3⟩ := h _ _ _ w' _ _ ht e1; obtain ⟨w4, e4⟩ := ih o2 w2 w3 e2; exact ⟨w4, (o2, w3), e3, e4⟩
theorem zmi (hτ : ∀ p r, B.tau p r = false) (hs : ∀ l, B.stop l = true) (hb : ∀ n, B.body n = body n ∨ (B.body n = a ∧ body n = b)) (hab : ∀ s k w w', TmS a b (zaR B a s k w) (zaR (B.other body) b s k w')) :
  ∀ (n : Nat) (t t' : Task) (w w' : Wk) (o : BOut) (w1 : Wk), TSim a b t t' → brun B n t w = some (o, w1) → ∃ w2, brun (B.other body) n t' w' = some (o, w2)
 | 0, _, _, _, _, _, _, _, h => by cases h
 | n + 1, t, t', w, w', o, w1, ht, h => by
  refine zoA (zmi hτ hs hb hab n) (T := runS B t w) (T' := runS (B.other body) t' w') ?_ h; rcases ht with rfl | ⟨s, k, rfl, rfl⟩
  ·cases t with
   | try_ x s k =>
    unfold runS; simp only; rw [if_neg (by rw [hτ]; exact Bool.false_ne_true), if_neg (by rw [show (B.other body).tau = B.tau from rfl, hτ]; exact Bool.false_ne_true)]
    exact zmR hτ hb x s k _ _
   | go k s => exact zpX hs s w w' k
   | alts l s k => exact znl s k w w' l
   | turn x m s k => exact zmv x m s k w w'
  ·unfold runS
   simp only
   rw [if_neg (by rw [hτ]; exact Bool.false_ne_true), if_neg (by rw [show (B.other body).tau = B.tau from rfl, hτ]; exact Bool.false_ne_true)]
   exact hab s k _ _
end
def posA (x : Pat) : Pat := .mk 6 2 0 (-1) [] [] [x]
def posG (x : Pat) : Pat := .mk 6 0 0 (-1) [] [] [x]
def posB (x : Pat) : Pat := .mk 8 0 0 0 [] [] [posG x]
theorem zn8 {B : Bk} {body : Int → Pat} (hτ : ∀ p r, B.tau p r = false) (x : Pat) (s : Sg) (k : List Fm) (w w' : Wk) : TmS (posA x) (posB x) (zaR B (posA x) s k w) (zaR (B.other body) (posB x) s k w') := by
 have e1 : zaR B (posA x) s k w = .ask (.turn (posG x) 0 s [.stop (-1)]) w (thenS k s) := by
  unfold zaR posA posG zdG; simp only [Pat.op, Pat.n, Pat.min, Pat.max, Pat.name, Pat.set, Pat.l]; simp
 have e2 : zaR (B.other body) (posB x) s k w' = .ask (.turn (posG x) 0 s [.stop (-1)]) { w' with p := w'.p + 1 } (thenS k s) := by
  rw [zhQ _ _ _ _ _ I I, if_neg (by rw [show (B.other body).tau = B.tau from rfl, hτ]; exact Bool.false_ne_true)]
  rfl
 rw [e1, e2]; exact .ask _ _ _ _ _ _ (.inl I) (zek k s)
def znL (p r : Nat) : Bool := false
theorem zhR {B : Bk} {n : Nat} {t : Task} {w : Wk} {o : BOut} {w' : Wk} (i : Inv w) (h : brun B n t w = some (o, w')) (ho : o ≠ .tired) : brun (B.quota znL) n t w = some (o, w') :=
 zhS B znL (fun _ _ _ h => by cases h) n t w o w' i h ho
end Go.Bk
namespace Go.Proofs.YtpopmiodjibljaaGreatDoor
open Go Go.Abs
def eqS (x y : Int × Int) : Bool := decide (x.1 = y.1) && (decide (x.2 = y.2) && true)
theorem zp5 (x y : Int × Int) : eqS x y = decide (x = y) := by
 cases x; cases y; simp [eqS, Prod.mk.injEq, Bool.decide_and]
def zcI : List (Int × Int) → List (Int × Int) → Bool
 | [], [] => true
 | x :: a, y :: b => eqS x y && zcI a b
 | _, _ => false
theorem zeM : ∀ a : List (Int × Int), zcI a a = true
 | [] => rfl
 | x :: a => by rw [zcI, zp5, zeM a]; simp
theorem zfO : ∀ {a b : List (Int × Int)}, a.length ≠ b.length → zcI a b = false
 | [], [], h => absurd rfl h
 | [], _ :: _, _ => rfl
 | _ :: _, [], _ => rfl
 | x :: a, y :: b, h => by rw [zcI, zfO (fun e => h (by simp [e]))]; simp
mutual
def zcU : Pat → Int
 | .mk _ _ _ _ nm st l => zdx l (mxI st.length nm.length)
def zdx : List Pat → Int → Int
 | [], n => n
 | y :: l, n => zdx l (mxI n (zcU y))
end
theorem ziV (x : Pat) : zcU x = zdx x.l (mxI x.set.length x.name.length) := by cases x; rw [zcU]; rfl
theorem zlo (x : Pat) : PTr Tryz.prog 49 [.agg x.C] (i64 (zcU x)) := by
 induction x using Pat.ind with | h x IH => _
 refine PTr.of_body (N := 28) Tryz.func49 I I I ?_; refine Jo (t := 0) rfl (zbw.agg (x := .ds (x.l.map Pat.cells)) (by simp [Pat.C]) (zbw.ds _)) fun hlen => ?_; rw [List.length_map] at hlen; refine ae0 (ag 2 I (J (Jf I I (zaa I) rfl I (fun _ _ => (ab (ag 6 I (J (U okL I (.head _) rfl I I I (ab (ag 2 I (J (U okL I (.head _) rfl I I I (ab (ag 12 I (Y ?_))))))))))))))); rename_i r _; refine Jg (α := Nat × Int) (fun a => x.l.length - a.1) (fun a => [(1, .ptr r 7 0 0), (3, i64 a.2), (4, i64 a.1)]) (fun _ => _)
  (fun a => a.1 ≤ x.l.length ∧ zdx (x.l.drop a.1) a.2 = zcU x) (0, mxI x.set.length x.name.length) ⟨Nat.zero_le _, ?_⟩ ?_ (List.Perm.refl _) ?_
 ·rw [ziV]; rfl
 ·simp only [za8]
  refine ⟨rfl, ?_, rfl, trivial⟩; simp [Abs.get, put, mxI]
 rintro ⟨k, m⟩ ⟨hk, hm⟩ ih; simp only at hk hm; refine ae0 (ag 5 rfl (J (U okL rfl (.head _) rfl rfl rfl rfl (ab (ag 4 rfl (Y ?_))))))
 (refine J1 I (fun h => ?_) (fun h => ?_))
 ·have h := of_decide_eq_true h
  simp only [List.length_map] at h; obtain ⟨y, hy⟩ : ∃ y, x.l[k]? = some y := ⟨x.l[k], by simp [show k < x.l.length by omega]⟩
  have nx := nxt (k := k) (n := x.l.length) (by omega) hlen; rw [za2 hy, zdx] at hm; refine ae (ag 7 I (J (U okL I (.head _) rfl I I I (ab (ag 1 I (Jm okL (zai I I I I I (by omega) (getC hy) rfl) rfl (ag 1 I (J (J7 I I I (IH y (List.mem_of_getElem? hy)) (ab (ag 10 I (O (zar ?_)))))))))))))
  (refine AIn.nextN 0 (ih ((k + 1, mxI m (zcU y))) (⟨by omega, hm⟩) (by omega)) ?_ rfl; repeat (first | exact trivial | refine ⟨rfl, ?_⟩ | refine ⟨congrArg some nx, ?_⟩))
 ·have h := of_decide_eq_false h
  simp only [List.length_map] at h; rw [List.drop_eq_nil_of_le (by omega), zdx] at hm; refine ae (ag 2 I (O (ae (ag 7 I (O ?_))))); refine zab (J2 I I) ?_; rw [← hm]
def zis (x : Pat) : Bool := decide ((szP x).1 > 300) || (decide ((szP x).2.2 > 100) || decide (zcU x > 300))
theorem zqp (x : Pat) : PTr Tryz.prog 15 [.agg x.C] (.bool (zis x)) := by
 refine PTr.of_body (N := 19) Tryz.func15 I I I ?_; refine ae0 (ag 2 I (J (Jf I I (zaa I) rfl I (fun _ _ => (ab (ag 5 I (J (U okL I (.head _) rfl I I I (ab (J (J7 I I I (ref12Size_tr x) (ab (J (Jb okL I I I (fun _ _ => (ab (J (J4 okL I I I (zaa I) rfl I I .here I I I (ab (ag 5 I (J (U okL I (.head _) rfl I I I (ab (ag 2 I (J3 ?_))))))))))))))))))))))))); refine J6 I I I (fun h => ?_) (fun h => ?_)
 ·refine ab (ag 13 I (O ?_))
  (refine zab (J2 I I) ?_; simp_all [zis] <;> (rw [decide_eq_false (show ¬ (300 < (szP x).1) by omega), decide_eq_false (show ¬ (100 < (szP x).2.2) by omega)]; rfl))
 ·refine ab (ag 1 I (Jd I I I (U okL I (.head _) rfl I I I (ab (ag 3 I (J3 ?_))))))
  refine J6 I I I (fun h => ?_) (fun h => ?_)
  ·refine ab (ag 8 I (O ?_))
   (refine zab (J2 I I) ?_; simp_all [zis] <;> (rw [decide_eq_false (show ¬ (300 < (szP x).1) by omega), decide_eq_false (show ¬ (100 < (szP x).2.2) by omega)]; rfl))
  ·refine ab (Jd I I I (U okL I (.tail _ (.head _)) I I I I (ab (Jd I I I (J7 I I I (zlo x) (ab (ag 6 I (O ?_))))))))
   (refine zab (J2 I I) ?_; simp_all [zis] <;> (rw [decide_eq_false (show ¬ (300 < (szP x).1) by omega), decide_eq_false (show ¬ (100 < (szP x).2.2) by omega)]; rfl))
open Go.Bk
def qV (e : Int) (o : BOut) : Option Sg := if e ≠ 0 then none else outS o
def kF (q : Option Sg) : Int := match q with | some s => s.keep | none => 0
def tQF (q : Option Sg) : Int := match q with | some s => s.at_ | none => 0
def gF (ng : Nat) (q : Option Sg) : List (Int × Int) := match q with | some s => zef ng s.caps | none => []
def bV (e : Int) (o : BOut) : Bool := if e ≠ 0 then false else zkJ o
def eV (e : Int) (o : BOut) : Int := if e ≠ 0 then e else errB o
def resV (ng : Nat) (e : Int) (o : BOut) : A := .tup [.agg [i64 (kF (qV e o)), i64 (tQF (qV e o)), .ds ((gF ng (qV e o)).map zaf)], .bool (bV e o), i64 (eV e o)]
theorem zm1 (ng : Nat) (q : Option Sg) : SubL (zeX ng q) [i64 (kF q), i64 (tQF q), .ds ((gF ng q).map zaf)] := by
 cases q with
 | none => exact .cons (Sub.refl _) (.cons (Sub.refl _) (.cons Sub.nils .nil))
 | some s => exact .cons (Sub.refl _) (.cons (Sub.refl _) (.cons (Sub.refl _) .nil))
theorem zqu (x : Pat) (e : Int) (o : BOut) : Sub (resA x e o) (resV (ngOf x) e o) := by
 unfold resA resV qV bV eV; by_cases h : e ≠ 0
 ·rw [if_pos h, if_pos h, if_pos h, if_pos h]
  exact Sub.tup (.cons (Sub.agg (.cons (Sub.refl _) (.cons (Sub.refl _) (.cons Sub.nils .nil)))) (.cons (Sub.refl _) (.cons (Sub.refl _) .nil)))
 ·rw [if_neg h, if_neg h, if_neg h, if_neg h]
  exact Sub.tup (.cons (Sub.agg (zm1 _ _)) (.cons (Sub.refl _) (.cons (Sub.refl _) .nil)))
theorem zrF (B : Bk) (hB : B.tau = tauP) (t : Task) (w : Wk) (i : Inv w) : ∃ n o w', brun B n t w = some (o, w') := by
 obtain ⟨n, ⟨o, w'⟩, h⟩ := znz B 20000 (fun p r h1 h2 => by rw [hB]; exact decide_eq_true (by omega)) _ w (Nat.le_refl _) i t
 exact ⟨n, o, w', h⟩
theorem ziA (x : Pat) (hb : zaq x ≤ 1000000) (fl s : List UInt8) (p : Int) : ∃ o, (zat x fl s p = 0 → ∃ n w', brun (bkF x fl s fun _ => true) n (.try_ x (s0 p) [.fin]) w0 = some (o, w')) ∧ PTrG tabG Tryz.prog 22 [.agg x.C, .str fl, .str s, i64 p] (resV (ngOf x) (zat x fl s p) o) := by
 obtain ⟨n, o, w', h⟩ := zrF (bkF x fl s fun _ => true) rfl (.try_ x (s0 p) [.fin]) w0 (Nat.le_refl _); exact ⟨o, fun _ => ⟨n, w', h⟩, (ze1 x hb fl s p o w' fun _ => ⟨n, h⟩).subR (zqu x _ o)⟩
theorem znJ (x y : Pat) (fl s : List UInt8) : ((bkF x fl s fun _ => true).quota znL).other (zbY y) = (bkF y fl s fun _ => true).quota znL := rfl
theorem zht {x : Pat} (h : x.op ≠ 7) : opnP x = opnL x.l := by
 have hop : opnP x = (if x.op = 7 then [x] else []) ++ opnL x.l := by cases x; rw [zfx]
 rw [hop, if_neg h, List.nil_append]
theorem zfb (x : Pat) : opnP (posA x) = opnP x := (zht (x := posA x) (show (6 : Int) ≠ 7 by decide)).trans (zd2 x)
theorem zfj (x : Pat) : opnP (posB x) = opnP x := ((zht (x := posB x) (show (8 : Int) ≠ 7 by decide)).trans (zd2 (posG x))).trans ((zht (x := posG x) (show (6 : Int) ≠ 7 by decide)).trans (zd2 x))
theorem zn4 (x : Pat) (n : Int) : zbY (posA x) n = zbY (posB x) n ∨ (zbY (posA x) n = posA x ∧ zbY (posB x) n = posB x) := by
 unfold zbY; by_cases h : n = 0
 ·rw [if_pos h, if_pos h]; exact .inr ⟨rfl, rfl⟩
 ·rw [if_neg h, if_neg h, zfb, zfj]; exact .inl I
theorem zoN {x : Pat} {fl s : List UInt8} {p : Int} {n m : Nat} {oA oB : BOut} {wA wB : Wk} (hA : brun (bkF (posA x) fl s fun _ => true) n (.try_ (posA x) (s0 p) [.fin]) w0 = some (oA, wA)) (hB : brun (bkF (posB x) fl s fun _ => true) m (.try_ (posB x) (s0 p) [.fin]) w0 = some (oB, wB))
  (tA : oA ≠ .tired) (tB : oB ≠ .tired) : oA = oB := by
 have h1 := zhR (Nat.le_refl _) hA tA; have h2 := zhR (Nat.le_refl _) hB tB; obtain ⟨w2, h3⟩ := zmi (a := posA x) (b := posB x) (body := zbY (posB x)) (fun _ _ => rfl) (fun _ => rfl) (zn4 x) (zn8 (fun _ _ => rfl) x) n (.try_ (posA x) (s0 p) [.fin]) (.try_ (posB x) (s0 p) [.fin]) w0 w0 oA wA (.inr ⟨_, _, rfl, rfl⟩) h1; rw [znJ] at h3; have e1 := zj0 _ (Nat.le_max_left n m) h3; have e2 := zj0 _ (Nat.le_max_right n m) h2; rw [e1] at e2; cases e2; rfl
theorem zfI (x : Pat) : zaP [x] = zaq x := by rw [zaP, zaP]; omega
theorem zfz (x : Pat) : zbf [x] = zbr x := by rw [zbf, zbf]; omega
theorem zeD (x : Pat) : zaq (posA x) = 1 + zaq x := by rw [zb7]; show 1 + zaP [x] = _; rw [zfI]
theorem zew (x : Pat) : zaq (posB x) = 2 + zaq x := by
 rw [zb7]; show 1 + zaP [posG x] = _; rw [zfI, zb7]; show 1 + (1 + zaP [x]) = _; rw [zfI]; omega
theorem zlv (x : Pat) : zbr (posA x) = zbr x + 1 := by rw [zc5]; show zbf [x] + 1 = _; rw [zfz]
theorem zlr (x : Pat) : zbr (posB x) = zbr x + 2 := by
 rw [zc5]; show zbf [posG x] + 1 = _; rw [zfz, zc5]; show zbf [x] + 1 + 1 = _; rw [zfz]
theorem zn0 (x : Pat) (g : Int) (st : RSt) : rgtP (posA x) g false st = rgtP x g false st := by
 rw [zbA]; have e1 : zaA (posA x) g = true := by
  show zaA (Pat.mk 6 2 0 (-1) [] [] [x]) g = true
  simp [zaA, zbR, zfa, Pat.op, Pat.n, Pat.min, Pat.max, Pat.name, Pat.set, Pat.l, wiM]
 rw [e1]
 show (if (!true || (decide ((6 : Int) = 18) && false)) = true then none else match zaJ (posA x) st with | none => none | some s1 => match rgtL 6 [x] g (false || decide ((6 : Int) = 9)) s1 with | none => none | some s2 => if za9 (posA x) = true then some s2 else none) = _
 rw [if_neg (by decide)]; rw [show zaJ (posA x) st = some st from if_neg (show ¬ ((6 : Int) = 7) by decide)]
 simp only
 rw [show (false || decide ((6 : Int) = 9)) = false by decide]
 rw [rgtL, if_pos (by rfl)]; rw [show za9 (posA x) = true by rfl]
 cases rgtP x g false st with
 | none => rfl
 | some s1 => simp only [show rgtL 6 [] g false s1 = some s1 by rw [rgtL]]; rfl
theorem znW (x : Pat) (g : Int) (st : RSt) : rgtP (posG x) g false st = rgtP x g false st := by
 rw [zbA]; have e1 : zaA (posG x) g = true := by
  show zaA (Pat.mk 6 0 0 (-1) [] [] [x]) g = true
  simp [zaA, zbR, zfa, Pat.op, Pat.n, Pat.min, Pat.max, Pat.name, Pat.set, Pat.l, wiM]
 rw [e1]
 show (if (!true || (decide ((6 : Int) = 18) && false)) = true then none else match zaJ (posG x) st with | none => none | some s1 => match rgtL 6 [x] g (false || decide ((6 : Int) = 9)) s1 with | none => none | some s2 => if za9 (posG x) = true then some s2 else none) = _
 rw [if_neg (by decide)]; rw [show zaJ (posG x) st = some st from if_neg (show ¬ ((6 : Int) = 7) by decide)]
 simp only
 rw [show (false || decide ((6 : Int) = 9)) = false by decide]
 rw [rgtL, if_pos (by rfl)]; rw [show za9 (posG x) = true by rfl]
 cases rgtP x g false st with
 | none => rfl
 | some s1 => simp only [show rgtL 6 [] g false s1 = some s1 by rw [rgtL]]; rfl
theorem zoI (x : Pat) (g : Int) (st : RSt) : rgtP (posB x) g false st = rgtP x g false st := by
 rw [zbA]; have e1 : zaA (posB x) g = true := by
  show zaA (Pat.mk 8 0 0 0 [] [] [posG x]) g = true
  simp [zaA, zbR, zfa, Pat.op, Pat.n, Pat.min, Pat.max, Pat.name, Pat.set, Pat.l, wiM]
 rw [e1]
 show (if (!true || (decide ((8 : Int) = 18) && false)) = true then none else match zaJ (posB x) st with | none => none | some s1 => match rgtL 8 [posG x] g (false || decide ((8 : Int) = 9)) s1 with | none => none | some s2 => if za9 (posB x) = true then some s2 else none) = _
 rw [if_neg (by decide)]; rw [show zaJ (posB x) st = some st from if_neg (show ¬ ((8 : Int) = 7) by decide)]
 simp only
 rw [show (false || decide ((8 : Int) = 9)) = false by decide]
 rw [rgtL, if_pos (by rfl)]; rw [show za9 (posB x) = true by rfl, znW]
 cases rgtP x g false st with
 | none => rfl
 | some s1 => simp only [show rgtL 8 [] g false s1 = some s1 by rw [rgtL]]; rfl
theorem zpM {x : Pat} (hb : zaq x ≤ 1000) (h : valP (posB x) ≠ 3) : valP (posA x) = valP (posB x) := by
 have sA := zcz (posA x) (by rw [zeD]; omega); have sB := zcz (posB x) (by rw [zew]; omega); unfold valP at h ⊢; by_cases hB : zcj (posB x) = true
 ·rw [if_pos hB] at h; exact absurd I h
 have hA : ¬ zcj (posA x) = true := by
  unfold zcj at hB ⊢; rw [sA]; rw [sB] at hB; simp only [Bool.or_eq_true, decide_eq_true_eq, zeD, zew, zlv, zlr, zfb, zfj] at hB ⊢; omega
 rw [if_neg hA, if_neg hB, sA, sB]; simp only; rw [zn0, zoI, zfb, zfj]
theorem zpO {x : Pat} (hb : zaq x ≤ 1000) (fl s : List UInt8) (p : Int) (h : zat (posB x) fl s p ≠ 3) : zat (posA x) fl s p = zat (posB x) fl s p := by
 have hv : valP (posA x) = valP (posB x) := zpM hb fun e => h (by unfold zat; rw [if_pos (by rw [e]; decide), e]); unfold zat; rw [hv]
end Go.Proofs.YtpopmiodjibljaaGreatDoor

