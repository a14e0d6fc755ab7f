/- A part of the proof: a layer of abstract values over the kit's walks, an evaluator over it, and walks of functions. -/
import Derived.Test.YtbnnencnmplioaaOsqC
set_option linter.unusedVariables false
set_option linter.unusedSimpArgs false
namespace Go.Abs
open Go
set_option linter.unusedVariables false
set_option linter.unusedSimpArgs false
/-! The evaluator, of calls that may panic. -/
abbrev CallF := (Nat → Bool) → FuncId → List A → Tre Blk → Nat → Option (Fin × Tre Blk × Nat)
def retC (c : CallF) : CallC := fun lo f a H n => match c lo f a H n with
  | some (.ret v, H1, n1) => some (v, H1, n1)
  | _ => none
def OutF (ρ : Nat → Nat) (n : Nat) (lo : Nat → Bool) (fz : Nat → Prop) (H' : Heap) (x : Fin) (H1 : Tre Blk) (n1 : Nat) : Fin → Heap → Prop := fun y H1' => match x with
  | .ret v => ∃ r, y = .ret r ∧ Out ρ n lo fz H' v H1 n1 r H1'
  | .pan u => y = .pan u ∧ ∃ ρ1, Good ρ1 n1 lo fz H1 H1' ∧ Ltr ρ n fz H' ρ1 n1 H1'
def CallFOk (P : Program) (call : CallF) : Prop :=
  ∀ lo f args H n x H1 n1, call lo f args H n = some (x, H1, n1) → ∀ ρ fz H', scopeL n args = true → Good ρ n lo fz H H' → TrF P f (renL ρ args) H' (OutF ρ n lo fz H' x H1 n1)
theorem retC_ok {P : Program} {call : CallF} (h : CallFOk P call) : CallOk P (retC call) := by
  intro lo f args H n v H1 n1 hc ρ fz H' hs hg
  unfold retC at hc
  split at hc
  · rename_i hc'
    cases hc
    exact TrF.toTr (h _ _ _ _ _ _ _ _ hc' ρ fz H' hs hg)
  · cases hc
def noCall : CallC := fun _ _ _ _ _ => none
theorem noCall_ok {P : Program} : CallOk P noCall := fun _ _ _ _ _ _ _ _ h => by cases h
def evOpF (P : Program) (E : Exts) (M : ExtsM) (L : Lay) (call : CallF) (lo : Nat → Bool) (T : Tre A) (H : Tre Blk) (n : Nat) : Op → Option (Fin × Tre Blk × Nat)
  | .panic x => match evC T x with
    | some (.iface t v) => match datA v with
      | some u => some (.pan (.iface t u), H, n)
      | none => none
    | _ => none
  | .call { callee := .value c, args := ⟨args⟩, argTypes := _ } => match evC T c with
    | some (.fn f first cap) => match evsC T args with
      | some xs => match E f (first ++ xs ++ cap) with
        | some v => match scope n v with
          | true => some (.ret v, H, n)
          | false => none
        | none => match M f (first ++ xs ++ cap) H with
          | some e => match eApply lo H n e with
            | some (v, H1, n1) => some (.ret v, H1, n1)
            | none => none
          | none => call lo f (first ++ xs ++ cap) H n
      | none => none
    | _ => none
  | op => match evOp P E L noCall lo T H n op with
    | some (v, H1, n1) => some (.ret v, H1, n1)
    | none => none
def evOpsF (P : Program) (E : Exts) (M : ExtsM) (N : Nat) (L : Lay) (call : CallF) (lo : Nat → Bool) (ops : List Oper) : List Oper → Tre A → Tre Blk → Nat → Res
  | [], T, H, n => some (.normal, T, H, n)
  | o :: rest, T, H, n => match dstOk ⟨N, [], []⟩ o.dst with
    | true => match wantC ops T o with
      | some true => match evOpF P E M L call lo T H n o.op with
        | some (.ret v, H1, n1) => evOpsF P E M N L call lo ops rest (putC o.dst v T) H1 n1
        | some (.pan u, H1, n1) => some (.panic [{ v := u, recovered := false }], T, H1, n1)
        | none => none
      | some false => evOpsF P E M N L call lo ops rest (putC o.dst (.tup []) T) H n
      | none => none
    | false => none
/-- Blocks that appends, and early stores, of a region turn. -/
def consOf (late : Oper → Bool) (T : Tre A) (n0 : Nat) : List Oper → List Nat
  | [] => []
  | o :: rest => match o.op with
    | .call { callee := .builtin .append, args := ⟨x :: _⟩, argTypes := _ } => match evC T x with
      | some (.os r _ _ _) => match Nat.blt r n0 && !memN r (consOf late T n0 rest) with
        | true => r :: consOf late T n0 rest
        | false => consOf late T n0 rest
      | _ => consOf late T n0 rest
    | .store _ x _ => match late o, evC T x with
      | false, some (.ptr r _ _ _) => match Nat.blt r n0 && !memN r (consOf late T n0 rest) with
        | true => r :: consOf late T n0 rest
        | false => consOf late T n0 rest
      | _, _ => consOf late T n0 rest
    | _ => consOf late T n0 rest
/-- The places of a region's operations, calls that turn memory (and what hangs on them) last. -/
def ordGo (b : List Nat) (hv : Oper → Bool) : List Oper → Nat → Nat → List Nat × List Nat
  | [], _, _ => ([], [])
  | o :: rest, i, mask => match hv o || !Nat.beq ((b.getD i 0) &&& mask) 0 with
    | true => match ordGo b hv rest (i + 1) (mask ||| 2 ^ i) with
      | (l, m) => (l, i :: m)
    | false => match ordGo b hv rest (i + 1) mask with
      | (l, m) => (i :: l, m)
def ordOf (ops : List Oper) (hv : Oper → Bool) : List (Nat × Oper) := match ordGo (anc ops) hv ops 0 0 with
  | (l, m) => ordL ops (l ++ m)
def tryPlan (P : Program) (E : Exts) (M : ExtsM) (N : Nat) (L : Lay) (call : CallF) (lo : Nat → Bool) (ops : List Oper) (ap : Bool) (hv : Oper → Bool) (xl : List Nat) (cons : Nat → Bool) (base : Option (Tre Blk)) (T : Tre A) (H : Tre Blk) (n : Nat) : Res :=
  match chk2 (lateIn (xl ++ lateGo ap (anc ops) ops 0 false 0 0)) (uniIn (match ap with | true => uniGo (anc ops) ops 0 false 0 | false => [])) hv ops (ordOf ops hv) with
  | true => match base with
    | some H0 => match evPlan P E N L (retC call) lo (lateIn (xl ++ lateGo ap (anc ops) ops 0 false 0 0)) (uniIn (match ap with | true => uniGo (anc ops) ops 0 false 0 | false => [])) hv ops cons H0 n ((ordOf ops hv).map (·.2)) true T H n with
      | some (e, T1, H1, n1, _, _) => some (e, T1, H1, n1)
      | none => none
    | none => none
  | false => none
/-- The blocks that a region's reads look at. -/
def keepOf (T : Tre A) : List Oper → List Nat
  | [] => []
  | o :: rest => match o.op with
    | .load _ x => match evC T x with
      | some (.ptr r _ _ _) => r :: keepOf T rest
      | _ => keepOf T rest
    | .lookup _ x _ _ => match evC T x with
      | some (.map r) => r :: keepOf T rest
      | _ => keepOf T rest
    | _ => keepOf T rest
/-- Reads that go before all calls of a region. -/
def ancAll (b : List Nat) (hv : Oper → Bool) (i : Nat) : List Oper → Nat → Bool
  | [], _ => true
  | o :: rest, j => match !hv o || !Nat.beq ((b.getD j 0) &&& (2 ^ i)) 0 with
    | true => ancAll b hv i rest (j + 1)
    | false => false
def preLate (b : List Nat) (hv : Oper → Bool) (ops : List Oper) : List Oper → Nat → List Nat
  | [], _ => []
  | o :: rest, i => match Nat.beq (clsH hv o) 1 && ancAll b hv i ops 0 with
    | true => addK o (preLate b hv ops rest (i + 1))
    | false => preLate b hv ops rest (i + 1)
/-- Blocks that a call may turn: all but some. -/
def consP (H : Tre Blk) (n : Nat) (keep : List Nat) (i : Nat) : Bool := match Nat.blt i n, memN i keep, H.get i with
  | true, false, some _ => true
  | _, _, _ => false
theorem consP_ok {H : Tre Blk} {n : Nat} {keep : List Nat} (i : Nat) (h : consP H n keep i = true) : i < n ∧ (H.get i).isSome = true := by
  unfold consP at h
  split at h
  · rename_i b h1 h2 h3; exact ⟨by simpa [Nat.blt_eq] using h1, by rw [h3]; rfl⟩
  · cases h
/-- Up to the last call. -/
def toLast : List Oper → List Oper
  | [] => []
  | o :: rest => match rest.any isCallV with
    | true => o :: toLast rest
    | false => match isCallV o with
      | true => [o]
      | false => []
/-- Up to the first call. -/
def toFirst : List Oper → List Oper
  | [] => []
  | o :: rest => match isCallV o with
    | true => []
    | false => o :: toFirst rest
def lastKey : List Oper → Option Nat → Option Nat
  | [], k => k
  | o :: rest, k => match isCallV o with
    | true => lastKey rest (keyOf o)
    | false => lastKey rest k
def lastC (k : Option Nat) (o : Oper) : Bool := match isCallV o, keyOf o, k with
  | true, some d, some d' => Nat.beq d d'
  | _, _, _ => false
def evHeavy (P : Program) (E : Exts) (M : ExtsM) (N : Nat) (L : Lay) (call : CallF) (lo : Nat → Bool) (hv : Oper → Bool) (ops pre : List Oper) (xl : List Nat) (T : Tre A) (H : Tre Blk) (n : Nat) : Res :=
  match evOpsF P E M N L call lo ops pre T H n with
  | some (_, T1, _, _) => tryPlan P E M N L call lo ops false hv xl (consP H n (keepOf T1 (ops.filter fun o => match keyOf o with | some d => !memN d xl | none => true))) (some (H.filt fun i => !(lo i && consP H n (keepOf T1 (ops.filter fun o => match keyOf o with | some d => !memN d xl | none => true)) i))) T H n
  | none => none
def evDrawn (P : Program) (E : Exts) (M : ExtsM) (N : Nat) (L : Lay) (call : CallF) (lo : Nat → Bool) (ops : List Oper) (T : Tre A) (H : Tre Blk) (n : Nat) : Res :=
  match tryPlan P E M N L call lo ops false (fun _ => false) [] (fun _ => false) (some H) T H n with
  | some r => some r
  | none => match ops.any isCallV with
    | false => match evOpsF P E M N L call lo ops ops T H n with
      | some (_, T1, _, _) => tryPlan P E M N L call lo ops true (fun _ => false) [] (fun i => memN i (consOf (lateIn (lateGo true (anc ops) ops 0 false 0 0)) T1 n ops)) (baseC lo n (consOf (lateIn (lateGo true (anc ops) ops 0 false 0 0)) T1 n ops) H) T H n
      | none => none
    | true => match evHeavy P E M N L call lo isCallV ops (toFirst ops) [] T H n with
      | some r => some r
      | none => match evHeavy P E M N L call lo (lastC (lastKey ops none)) ops (toFirst ops) (preLate (anc ops) (lastC (lastKey ops none)) ops ops 0) T H n with
        | some r => some r
        | none => evHeavy P E M N L call lo isCallV ops (toLast ops) [] T H n
def evCodeF (P : Program) (E : Exts) (M : ExtsM) (N : Nat) (L : Lay) (call : CallF) (lo : Nat → Bool) (fuel : Nat) : Code → Tre A → Tre Blk → Nat → Res
  | .skip, T, H, n => some (.normal, T, H, n)
  | .label _, T, H, n => some (.normal, T, H, n)
  | .exit id, T, H, n => some (.exit id, T, H, n)
  | .ret, T, H, n => some (.ret, T, H, n)
  | .seq a b, T, H, n => match evCodeF P E M N L call lo fuel a T H n with
    | some (.normal, T1, H1, n1) => evCodeF P E M N L call lo fuel b T1 H1 n1
    | r => r
  | .cond c a b, T, H, n => match evC T c with
    | some (.bool true) => evCodeF P E M N L call lo fuel a T H n
    | some (.bool false) => evCodeF P E M N L call lo fuel b T H n
    | _ => none
  | .block id c, T, H, n => match evCodeF P E M N L call lo fuel c T H n with
    | some (.exit id', T1, H1, n1) => match Nat.beq id' id with
      | true => some (.normal, T1, H1, n1)
      | false => some (.exit id', T1, H1, n1)
    | r => r
  | .loop c, T, H, n => evLoop (evCodeF P E M N L call lo fuel c) fuel T H n
  | .region _ ops false, T, H, n => evOpsF P E M N L call lo ops.toList ops.toList T H n
  | .region _ ops true, T, H, n => evDrawn P E M N L call lo ops.toList T H n
  | _, _, _, _ => none
section
variable {P : Program} {E : Exts} {M : ExtsM} {N : NN} {L : Lay} {call : CallF} {ρ : Nat → Nat} {n : Nat} {lo : Nat → Bool} {fz : Nat → Prop} {T : Tre A} {H : Tre Blk} {T' : Env} {H' : Heap}
theorem AOp.panicIface {N : NN} {T : Env} {H : Heap} {ops rest : List Oper} {dst : Option Nat} {x : Operand} {t : TypeId} {v : A} {u : Value} {ty : TypeId} {pos : String} {after : Array Edge} {guard : Option (Nat × Bool)} {Q : Exit → Env → Heap → Prop}
    (hx : ev T x = some (.iface t v)) (hu : datA v = some u) (k : Q (.panic [{ v := .iface t u, recovered := false }]) T H) :
    AOp P N ops { dst := dst, op := .panic x, type := ty, pos := pos, after := after, guard := guard } rest Q T H := by
  refine ⟨fun fr w a s st => ?_⟩
  have hr := ev_rep st hx
  have he := datA_eq (a := .iface t v) (u := .iface t u) (by simp only [datA, hu]) hr
  unfold Oper.wp execOp
  simp only [he, Sem.run_bind, run_panic_iface, Result.andThen_halt, Oper.upon_panic]
  exact ⟨T, H, k, s, st, Ext.refl H w⟩
theorem evOpF_ok (hL : LayOk P L) (hE : ExtOk P E) (hM : ExtMOk P M) (hc : CallFOk P call) (c : Cfg ρ n lo fz T H T' H') {o : Oper} (hd : dstOk N o.dst = true) {x : Fin} {H1 : Tre Blk} {n1 : Nat} (h : evOpF P E M L call lo T H n o.op = some (x, H1, n1))
    {ops rest : List Oper} {Q : Exit → Env → Heap → Prop} (k : ∀ v r H1', x = .ret v → Out ρ n lo fz H' v H1 n1 r H1' → AOps P N ops rest Q (put o.dst r T') H1')
    (kp : ∀ u ρ1 H1', x = .pan u → Good ρ1 n1 lo fz H1 H1' → Ltr ρ n fz H' ρ1 n1 H1' → Q (.panic [{ v := u, recovered := false }]) T' H1') : AOp P N ops o rest Q T' H' := by
  obtain ⟨dst, op, ty, pos, after, guard⟩ := o
  simp only at h hd k
  unfold evOpF at h
  split at h
  · split at h
    · rename_i hx
      have hx := c.r.ev hx
      simp only [ren] at hx
      split at h
      · rename_i u hu
        cases h
        exact AOp.panicIface hx (datA_ren ρ _ _ hu) (kp _ ρ H' rfl c.g (Ltr.refl ..))
      · cases h
    · cases h
  · split at h
    · rename_i hf
      have hf' := c.r.ev hf
      have sf := c.s.ev hf
      simp only [ren] at hf'
      simp only [scope, Bool.and_eq_true] at sf
      split at h
      · rename_i ha
        have ha' := c.r.evs ha
        have sa := c.s.evs ha
        split at h
        · rename_i v' hv
          split at h
          · rename_i hs
            cases h
            refine AOp.callExt hf' ha' (fun w o vs hr => hE _ _ _ hv ρ w o vs ?_) hd (k _ _ _ rfl ⟨ρ, rfl, hs, c.g, Ltr.refl ..⟩)
            rw [renL_append, renL_append]; exact hr
          · cases h
        · split at h
          · rename_i e hme
            split at h
            · rename_i v1 H2 n2 hap
              cases h
              exact eApply_ok (EffM.ok (N := N) hf' ha' (by simp only [renL_append]) hd (hM _ _ _ _ hme ρ n lo fz H' c.g)) c.g hap fun r H1' hr => k _ r H1' rfl hr
            · cases h
          · have ht := hc _ _ _ _ _ _ _ _ h ρ fz H' (scopeL_append (scopeL_append sf.1 sa) sf.2) c.g
            simp only [renL_append] at ht
            refine AOp.callF (F := []) hf' ha' hd (by simp) ht (fun r H1' hr => ?_) (fun u H1' hr => ?_)
            · rw [List.append_nil]
              cases x with
              | ret v =>
                obtain ⟨r', e, ho⟩ := hr
                cases e
                exact k v r H1' rfl ho
              | pan u => exact absurd hr.1 (by simp)
            · rw [List.append_nil]
              cases x with
              | ret v =>
                obtain ⟨r', e, ho⟩ := hr
                cases e
              | pan u' =>
                obtain ⟨e, ρ1, hg, hl⟩ := hr
                cases e
                exact kp _ ρ1 H1' rfl hg hl
      · cases h
    · cases h
  · split at h
    · rename_i ho
      cases h
      exact evOp_ok hL hE noCall_ok c (o := ⟨dst, op, ty, pos, after, guard⟩) hd ho fun r H1' hr => k _ r H1' rfl hr
    · cases h
theorem evOpsF_ok (hL : LayOk P L) (hE : ExtOk P E) (hM : ExtMOk P M) (hc : CallFOk P call) {ops : List Oper} {Q : Exit → Env → Heap → Prop} {e : Exit} {T1 : Tre A} {H1 : Tre Blk} {n1 : Nat} : ∀ (rest : List Oper) {ρ : Nat → Nat} {n : Nat} {T : Tre A} {H : Tre Blk} {T' : Env} {H' : Heap},
    Cfg ρ n lo fz T H T' H' → evOpsF P E M N.n L call lo ops rest T H n = some (e, T1, H1, n1) →
    (∀ ρ1 T1' H1', Cfg ρ1 n1 lo fz T1 H1 T1' H1' → Ltr ρ n fz H' ρ1 n1 H1' → Q e T1' H1') → AOps P N ops rest Q T' H'
  | [], ρ, n, T, H, T', H', c, h, k => by
    simp only [evOpsF] at h
    cases h
    exact AOps.nil (k _ _ _ c (Ltr.refl ..))
  | o :: rest, ρ, n, T, H, T', H', c, h, k => by
    simp only [evOpsF] at h
    split at h
    · rename_i hd
      have hd : dstOk N o.dst = true := hd
      split at h
      · rename_i hw
        have key : AOp P N ops o rest Q T' H' := by
          split at h
          · rename_i v H2 n2 ho
            refine evOpF_ok hL hE hM hc c hd ho (fun v' r H1' hv hr => ?_) (fun u ρ1 H1' hu _ _ => by cases hu)
            cases hv
            obtain ⟨ρ1, c1, l1⟩ := c.next hr o.dst
            exact evOpsF_ok hL hE hM hc rest c1 h fun ρ2 T2' H2' c2 l2 => k _ _ _ c2 (l1.trans l2)
          · rename_i u H2 n2 ho
            cases h
            refine evOpF_ok hL hE hM hc c hd ho (fun v' r H1' hv hr => by cases hv) (fun u ρ1 H1' hu hg hl => ?_)
            cases hu
            exact k ρ1 T' H1' ⟨c.r.later c.s hl.agree, c.s.mono hl.le, hg⟩ hl
          · cases h
        unfold wantC at hw
        split at hw
        · rename_i hg; exact AOps.plain hg key
        · rename_i j b hg
          split at hw
          · cases hw
          · rename_i d hdj
            split at hw
            · rename_i b' hb
              have hb := c.r d _ hb
              simp only [ren] at hb
              have hbb : b' = b := by simpa using hw
              subst hbb
              exact AOps.wanted hg hdj hb hd key
            · cases hw
            · cases hw
      · rename_i hw
        have c1 : Cfg ρ n lo fz (putC o.dst (.tup []) T) H (put o.dst (.tup []) T') H' := ⟨by have := c.r.put o.dst (.tup []); simpa only [ren, renL] using this, c.s.put o.dst (by rfl), c.g⟩
        have key := evOpsF_ok hL hE hM hc (Q := Q) rest c1 h k
        unfold wantC at hw
        split at hw
        · cases hw
        · rename_i j b hg
          split at hw
          · cases hw
          · rename_i d hdj
            split at hw
            · rename_i b' hb
              have hb := c.r d _ hb
              simp only [ren] at hb
              have hbb : (b' == b) = false := by simpa using hw
              exact AOps.unwanted hg hdj hb (by cases b <;> cases b' <;> simp_all) hd key
            · rename_i l hb
              have hb := c.r d _ hb
              simp only [ren] at hb
              exact AOps.unwantedU hg hdj hb hd key
            · cases hw
      · cases h
    · cases h
theorem ordOf_get {ops : List Oper} {hv : Oper → Bool} : ∀ p ∈ ordOf ops hv, ops[p.1]? = some p.2 := by
  intro p hp
  unfold ordOf at hp
  split at hp
  exact ordL_get hp
theorem tryPlan_ok {id : Nat} (hL : LayOk P L) (hm : P.follows .mixedOrders = true) (hE : ExtOk P E) (hM : ExtMOk P M) (hc : CallFOk P call) {ops : List Oper} {ap : Bool} {hv : Oper → Bool} {xl : List Nat} {cons : Nat → Bool} {base : Option (Tre Blk)} {Q : Exit → Env → Heap → Prop} {e : Exit} {T1 : Tre A} {H1 : Tre Blk} {n1 : Nat}
    (c : Cfg ρ n lo fz T H T' H') (hbase : ∀ H0, base = some H0 → ∃ B G, Good ρ n lo fz H0 B ∧ H'.Perm (G ++ B) ∧ ∀ i, lo i = true → cons i = true → i < n ∧ ρ i ∉ keys B) (h : tryPlan P E M N.n L call lo ops ap hv xl cons base T H n = some (e, T1, H1, n1)) (k : ∀ ρ1 T1' H1', Cfg ρ1 n1 lo fz T1 H1 T1' H1' → Ltr ρ n fz H' ρ1 n1 H1' → Q e T1' H1') : AWp P N (.region id ops.toArray true) Q T' H' := by
  unfold tryPlan at h
  generalize (uniIn (match ap with | true => uniGo (anc ops) ops 0 false 0 | false => [])) = uni at h
  split at h
  · rename_i hk
    split at h
    · rename_i x0 H0
      split at h
      · rename_i V W ho
        cases h
        obtain ⟨B, G, g0, hG, hcons⟩ := hbase H0 rfl
        exact AWp.draw2 (id := id) hL hm ordOf_get hk (evPlan_ok hL hE (retC_ok hc) g0 hcons _ c (fun _ _ => rfl) (Nat.le_refl _) (fun _ => ⟨⟨G, hG⟩, fun i h0 h1 => absurd h0 (by omega)⟩) ho k
          (fun d => match get V d with | some x => ren ρ x | none => default) (fun d => match getW W d with | some (m, b) => (m.on, renB ρ b) | none => (fun _ => .nilp, .map [])) (fun d x hx => by simp only [hx]) (fun d m b hx => by simp only [hx]))
      · cases h
    · cases h
  · cases h
theorem evDrawn_ok {id : Nat} (hL : LayOk P L) (hm : P.follows .mixedOrders = true) (hE : ExtOk P E) (hM : ExtMOk P M) (hc : CallFOk P call) {ops : List Oper} {Q : Exit → Env → Heap → Prop} {e : Exit} {T1 : Tre A} {H1 : Tre Blk} {n1 : Nat}
    (c : Cfg ρ n lo fz T H T' H') (h : evDrawn P E M N.n L call lo ops T H n = some (e, T1, H1, n1)) (k : ∀ ρ1 T1' H1', Cfg ρ1 n1 lo fz T1 H1 T1' H1' → Ltr ρ n fz H' ρ1 n1 H1' → Q e T1' H1') : AWp P N (.region id ops.toArray true) Q T' H' := by
  unfold evDrawn at h
  split at h
  · rename_i hp
    cases h
    exact tryPlan_ok hL hm hE hM hc c (fun H0 hb => by cases hb; exact ⟨H', [], c.g, List.Perm.refl _, fun i _ hi => by cases hi⟩) hp k
  · split at h
    · split at h
      · exact tryPlan_ok hL hm hE hM hc c (fun H0 hb => by
          obtain ⟨B, G, h1, h2, h3⟩ := baseC_ok c.g hb
          exact ⟨B, G, h1, h2, fun i _ hi => h3 i (memN_mem hi)⟩) h k
      · cases h
    · have hh : ∀ hv pre xl, evHeavy P E M N.n L call lo hv ops pre xl T H n = some (e, T1, H1, n1) → AWp P N (.region id ops.toArray true) Q T' H' := by
        intro hv pre xl h
        unfold evHeavy at h
        split at h
        · exact tryPlan_ok hL hm hE hM hc c (fun H0 hb => by cases hb; exact base_filt c.g _ consP_ok) h k
        · cases h
      split at h
      · rename_i hp
        cases h
        exact hh _ _ _ hp
      · split at h
        · rename_i hp
          cases h
          exact hh _ _ _ hp
        · exact hh _ _ _ h
variable {fuel : Nat}
theorem evCodeF_ok (hL : LayOk P L) (hm : P.follows .mixedOrders = true) (hE : ExtOk P E) (hM : ExtMOk P M) (hc : CallFOk P call) : ∀ (c : Code) {Q : Exit → Env → Heap → Prop} {ρ : Nat → Nat} {n : Nat} {T : Tre A} {H : Tre Blk} {T' : Env} {H' : Heap} {e : Exit} {T1 : Tre A} {H1 : Tre Blk} {n1 : Nat},
    Cfg ρ n lo fz T H T' H' → evCodeF P E M N.n L call lo fuel c T H n = some (e, T1, H1, n1) →
    (∀ ρ1 T1' H1', Cfg ρ1 n1 lo fz T1 H1 T1' H1' → Ltr ρ n fz H' ρ1 n1 H1' → Q e T1' H1') → AWp P N c Q T' H'
  | .skip, Q, ρ, n, T, H, T', H', e, T1, H1, n1, c, h, k => by
    simp only [evCodeF] at h; cases h; exact AWp.skip (k _ _ _ c (Ltr.refl ..))
  | .label l, Q, ρ, n, T, H, T', H', e, T1, H1, n1, c, h, k => by
    simp only [evCodeF] at h; cases h; exact AWp.label (k _ _ _ c (Ltr.refl ..))
  | .exit id, Q, ρ, n, T, H, T', H', e, T1, H1, n1, c, h, k => by
    simp only [evCodeF] at h; cases h; exact AWp.exit (k _ _ _ c (Ltr.refl ..))
  | .ret, Q, ρ, n, T, H, T', H', e, T1, H1, n1, c, h, k => by
    simp only [evCodeF] at h; cases h; exact AWp.ret (k _ _ _ c (Ltr.refl ..))
  | .seq a b, Q, ρ, n, T, H, T', H', e, T1, H1, n1, c, h, k => by
    simp only [evCodeF] at h
    refine AWp.seq ?_
    split at h
    · rename_i T2 H2 n2 ha
      refine evCodeF_ok hL hm hE hM hc a c ha fun ρ1 T1' H1' c1 l1 => seqQ_n ?_
      exact evCodeF_ok hL hm hE hM hc b c1 h fun ρ2 T2' H2' c2 l2 => k _ _ _ c2 (l1.trans l2)
    · rename_i hne
      refine evCodeF_ok hL hm hE hM hc a c h fun ρ1 T1' H1' c1 l1 => ?_
      have hq := k ρ1 T1' H1' c1 l1
      cases e with
      | normal => exact absurd h (hne T1 H1 n1)
      | _ => exact hq
  | .cond x a b, Q, ρ, n, T, H, T', H', e, T1, H1, n1, c, h, k => by
    simp only [evCodeF] at h
    split at h
    · rename_i hx
      have hx := c.r.ev hx
      simp only [ren] at hx
      exact AWp.condT hx (evCodeF_ok hL hm hE hM hc a c h k)
    · rename_i hx
      have hx := c.r.ev hx
      simp only [ren] at hx
      exact AWp.condF hx (evCodeF_ok hL hm hE hM hc b c h k)
    · cases h
  | .block id a, Q, ρ, n, T, H, T', H', e, T1, H1, n1, c, h, k => by
    simp only [evCodeF] at h
    refine AWp.block ?_
    split at h
    · rename_i id' T2 H2 n2 ha
      refine evCodeF_ok hL hm hE hM hc a c ha fun ρ1 T1' H1' c1 l1 => ?_
      split at h
      · rename_i hb
        cases h
        exact blockQ_e hb (k _ _ _ c1 l1)
      · rename_i hb
        cases h
        exact blockQ_o hb (k _ _ _ c1 l1)
    · rename_i hne
      refine evCodeF_ok hL hm hE hM hc a c h fun ρ1 T1' H1' c1 l1 => ?_
      have hq := k ρ1 T1' H1' c1 l1
      cases e with
      | exit id' => exact absurd h (hne id' T1 H1 n1)
      | _ => exact hq
  | .loop a, Q, ρ, n, T, H, T', H', e, T1, H1, n1, c, h, k => by
    simp only [evCodeF] at h
    exact AIn.toRound (evLoop_ok (fun c h k => evCodeF_ok hL hm hE hM hc a c h k) fuel c h k)
  | .region id ops false, Q, ρ, n, T, H, T', H', e, T1, H1, n1, c, h, k => by
    simp only [evCodeF] at h
    have := AWp.region (id := id) (evOpsF_ok hL hE hM hc ops.toList c h k)
    simpa using this
  | .region id ops true, Q, ρ, n, T, H, T', H', e, T1, H1, n1, c, h, k => by
    simp only [evCodeF] at h
    have := evDrawn_ok (id := id) hL hm hE hM hc c h k
    simpa using this
  | .rangeFunc .., Q, ρ, n, T, H, T', H', e, T1, H1, n1, c, h, k => by simp [evCodeF] at h
  | .scope .., Q, ρ, n, T, H, T', H', e, T1, H1, n1, c, h, k => by simp [evCodeF] at h
  | .goto .., Q, ρ, n, T, H, T', H', e, T1, H1, n1, c, h, k => by simp [evCodeF] at h
  | .refuse .., Q, ρ, n, T, H, T', H', e, T1, H1, n1, c, h, k => by simp [evCodeF] at h
end
end Go.Abs

namespace Go.Abs
open Go
set_option linter.unusedVariables false
set_option linter.unusedSimpArgs false
/-! A function with one deferred closure, which may recover. -/
section
variable {P : Program} {N : NN} {T : Env} {H : Heap}
/-- The temps and what they hold, and what is deferred: nothing, or one call. -/
structure StD (n : Nat) (w : World) (o : Nat → Prop) (T : Env) (D : Option (FuncId × List A)) (a : Act) : Prop where
  size : a.tmps.size = n
  at_ : ∀ t x, get T t = some x → ∃ v, a.tmps[t]? = some v ∧ Rep w o x v
  none : D = none → a.defers = []
  some : ∀ f as, D = some (f, as) → ∃ cap args : Array Value, a.defers = [{ target := .fn (.func f) cap, args := args }] ∧ RepL w o as (args.toList ++ cap.toList)
structure DWp (P : Program) (n : Nat) (c : Code) (Q : Option (FuncId × List A) → Exit → Env → Heap → Prop) (T : Env) (H : Heap) : Prop where
  out : ∀ (fr : Nat → Prop) (w : World) (a : Act), Sim fr H w → St ⟨n, [], []⟩ w (own fr H) T a → c.wp P (fun e a' w' => ∃ D T' H', Q D e T' H' ∧ Sim fr H' w' ∧ StD n w' (own fr H') T' D a' ∧ Ext H w H' w') a w
variable {n : Nat} {Q : Option (FuncId × List A) → Exit → Env → Heap → Prop}
theorem St.toD {w : World} {o : Nat → Prop} {a : Act} (h : St ⟨n, [], []⟩ w o T a) : StD n w o T .none a := ⟨h.size, h.at_, fun _ => h.defers, fun f as e => by cases e⟩
theorem DWp.plain {c : Code} (h : AWp P ⟨n, [], []⟩ c (fun e T H => Q .none e T H) T H) : DWp P n c Q T H :=
  ⟨fun fr w a s st => wp_mono (h.out fr w a s st) fun e a' w' ⟨T', H', q, s', st', x'⟩ => ⟨.none, T', H', q, s', st'.toD, x'⟩⟩
def seqD (P : Program) (n : Nat) (y : Code) (Q : Option (FuncId × List A) → Exit → Env → Heap → Prop) : Exit → Env → Heap → Prop
  | .normal, T, H => DWp P n y Q T H
  | e, T, H => Q .none e T H
theorem DWp.seq {x y : Code} (h : AWp P ⟨n, [], []⟩ x (seqD P n y Q) T H) : DWp P n (.seq x y) Q T H := by
  refine ⟨fun fr w a s st => wp_seq (wp_mono (h.out fr w a s st) ?_)⟩
  rintro e a' w' ⟨T', H', q, s', st', x'⟩
  cases e with
  | normal =>
    refine wp_mono (q.out fr w' a' s' st') ?_
    rintro e a2 w2 ⟨D, T2, H2, q2, s2, st2, x2⟩
    exact ⟨D, T2, H2, q2, s2, st2, x'.trans x2⟩
  | _ => exact ⟨.none, T', H', q, s', st'.toD, x'⟩
theorem DWp.defer {y : Code} {id t f : Nat} {caps : List Operand} {ats : Array TypeId} {ty ty' : TypeId} {pos pos' : String} {after after' : Array Edge} {cs : List A} (hc : evs T caps = some cs) (hd : Nat.blt t n = true)
    (k : ∀ d, AWp P ⟨n, [d], []⟩ y (fun e T H => Q (some (f, cs)) e T H) ((t, .fn f [] cs) :: T) H) :
    DWp P n (.seq (.region id #[{ dst := some t, op := .makeFunc (.func f) #[] caps.toArray, type := ty, pos := pos, after := after, guard := .none }, { dst := .none, op := .defer { callee := .value (.tmp t), args := #[], argTypes := ats }, type := ty', pos := pos', after := after', guard := .none }] false) y) Q T H := by
  refine ⟨fun fr w a s st => wp_seq ?_⟩
  refine wp_region_lit (l := [_, _]) ?_
  have hr := evs_rep st hc
  have hlt : t < a.tmps.size := by rw [st.size]; simpa [Nat.blt_eq] using hd
  have hfv : Rep w (own fr H) (.fn f [] cs) (.func (.func f) #[] (caps.map a.eval).toArray) := Rep.fn_of (us := []) .nil hr
  unfold wpList
  rw [if_pos (by simp [Region.wanted])]
  left
  unfold Oper.wp execOp
  simp only [Instr.makeFunc, Sem.run_bind, Sem.run_pure, Result.andThen_ok, Oper.upon_value, List.map_toArray, List.map_nil]
  unfold wpList
  rw [if_pos (by simp [Region.wanted])]
  left
  have hev : (a.put (some t) (.func (.func f) #[] (caps.map a.eval).toArray)).eval (.tmp t) = .func (.func f) #[] (caps.map a.eval).toArray := by
    simp [Act.put, Act.eval, Array.getD, hlt]
  unfold Oper.wp execOp
  simp only [resolve, hev, Deferred.ofValue, Sem.run_bind, Sem.run_pure, Result.andThen_ok, Oper.upon_defer]
  unfold wpList
  generalize hd1 : ({ target := .fn (.func f) (caps.map a.eval).toArray, args := #[] ++ #[] } : Deferred) = d
  have hd2 : ({ target := .fn (.func f) (caps.map a.eval).toArray, args := #[] ++ Array.map (a.put (some t) (.func (.func f) #[] (caps.map a.eval).toArray)).eval #[] } : Deferred) = d := by rw [← hd1]; simp
  rw [hd2]
  have hst1 := st.put (d := some t) (x := .fn f [] cs) (by simpa [dstOk] using hd) hfv
  have hst : St ⟨n, [d], []⟩ w (own fr H) ((t, .fn f [] cs) :: T) (({ (a.put (some t) (.func (.func f) #[] (caps.map a.eval).toArray)) with defers := d :: (a.put (some t) (.func (.func f) #[] (caps.map a.eval).toArray)).defers } : Act).put .none undef) := by
    refine ⟨?_, ?_, GOk.nil, ?_⟩
    · simpa [Act.put] using hst1.size
    · have := hst1.defers
      simp only [Act.put] at this ⊢
      rw [this]
    · intro u x hx
      obtain ⟨v, h1, h2⟩ := hst1.at_ u x hx
      exact ⟨v, by simpa [Act.put] using h1, h2⟩
  refine wp_mono ((k d).out fr w _ s hst) ?_
  rintro e a' w' ⟨T', H', q, s', st', x'⟩
  refine ⟨_, T', H', q, s', ⟨st'.size, st'.at_, (fun e => by cases e), fun f2 as e => ?_⟩, x'⟩
  cases e
  refine ⟨_, _, by rw [st'.defers, ← hd1], ?_⟩
  have := hr.mono x'.stays
  simpa using this
/-- A deferred call. -/
structure TrD (P : Program) (f : FuncId) (args : List A) (H : Heap) (u : FrameMode) (R : FrameMode → Heap → Prop) : Prop where
  can : Callable P f
  run : ∀ (fr : Nat → Prop) (w : World) (vs : List Value), Sim fr H w → RepL w (own fr H) args vs →
    CallsD P f vs.toArray u w fun e u' w' => ∃ v H', e = .returned v ∧ R u' H' ∧ Sim fr H' w' ∧ Ext H w H' w'
def bodyQD (P : Program) (fn : Func) (n : Nat) (R : Fin → Heap → Prop) : Option (FuncId × List A) → Exit → Env → Heap → Prop
  | .none, e, T, H => bodyQF P fn ⟨n, [], []⟩ R e T H
  | some (f, as), .ret, T, H | some (f, as), .normal, T, H => ∃ R', TrD P f as H .returning R' ∧ ∀ u' H', R' u' H' → settle u' = .returning ∧ ∃ r, ResOk P fn ⟨n, [], []⟩ T H' r ∧ R (.ret r) H'
  | some (f, as), .panic ch, T, H => ∃ R', TrD P f as H (.panicking ch) R' ∧ ∀ u' H', R' u' H' → settle u' = .returning ∧ ∃ r, ResOk P fn ⟨n, [], []⟩ T H' r ∧ R (.ret r) H'
  | some _, _, _, _ => False
theorem TrF.of_bodyD {f : FuncId} {fn : Func} {c : Code} {args : List A} {R : Fin → Heap → Prop} (hf : P.funcs[f]? = some fn) (hb : fn.body = some c) (hn : (fn.name == "runtime.NumGoroutine") = false)
    (hN : args.length + (fn.ntmps - args.length) = n) (h : DWp P n c (bodyQD P fn n R) (argEnv 0 args) H) : TrF P f args H R := by
  refine ⟨⟨fn, hf, by simp [hb], hn⟩, fun fr w vs s as => ?_⟩
  refine calls_of_wp_defers hf hb (wp_mono (h.out fr w _ s (args_st hN as)) ?_)
  rintro e a w' ⟨D, T', H', q, s', st', x'⟩
  have hdef : ∀ {u : FrameMode} {R' : FrameMode → Heap → Prop} {g : FuncId} {as : List A}, u ≠ .run → D = some (g, as) → TrD P g as H' u R' → (∀ u' H'', R' u' H'' → settle u' = .returning ∧ ∃ r, ResOk P fn ⟨n, [], []⟩ T' H'' r ∧ R (.ret r) H'') →
      Leaves P fn a.tmps (fun e w' => ∃ x H', R x H' ∧ FinOk w' (own fr H') x e ∧ Sim fr H' w' ∧ Ext H w H' w') a.defers u w' := by
    intro u R' g as hu hD ht hR
    obtain ⟨cap, dargs, hde, hrep⟩ := st'.some g as hD
    rw [hde]
    refine leaves_cons (f := g) (args := dargs ++ cap) hu ?_ ?_
    · simp only [invoke, run_callFunc ht.can]
    · have := ht.run fr w' _ s' hrep
      have e2 : (dargs.toList ++ cap.toList).toArray = dargs ++ cap := by simp
      rw [e2] at this
      refine this.mono ?_
      rintro e u' w'' ⟨v, H'', rfl, hR', s'', x''⟩
      obtain ⟨hs, r, hr, hRr⟩ := hR u' H'' hR'
      show Leaves P fn a.tmps _ [] (settle u') w''
      rw [hs]
      have hst : St ⟨n, [], []⟩ w'' (own fr H'') T' { a with defers := [] } := ⟨st'.size, rfl, GOk.nil, fun t x hx => let ⟨v, h1, h2⟩ := st'.at_ t x hx; ⟨v, h1, h2.mono x''.stays⟩⟩
      obtain ⟨v2, h1, h2⟩ := hr fr w'' _ s'' hst
      exact ⟨v2, h1, .ret r, H'', hRr, ⟨v2, rfl, h2⟩, s'', x'.trans x''⟩
  have hstn : D = .none → St ⟨n, [], []⟩ w' (own fr H') T' a := fun hD => ⟨st'.size, st'.none hD, GOk.nil, st'.at_⟩
  cases D with
  | none =>
    have st'' := hstn rfl
    cases e with
    | normal =>
      obtain ⟨r, hr, hR⟩ := q
      obtain ⟨v, h1, h2⟩ := hr fr w' a s' st''
      show Leaves P fn a.tmps _ a.defers .returning w'
      rw [st''.defers]
      exact ⟨v, h1, .ret r, H', hR, ⟨v, rfl, h2⟩, s', x'⟩
    | ret =>
      obtain ⟨r, hr, hR⟩ := q
      obtain ⟨v, h1, h2⟩ := hr fr w' a s' st''
      show Leaves P fn a.tmps _ a.defers .returning w'
      rw [st''.defers]
      exact ⟨v, h1, .ret r, H', hR, ⟨v, rfl, h2⟩, s', x'⟩
    | panic ch =>
      obtain ⟨u, rfl, hR⟩ := q
      show Leaves P fn a.tmps _ a.defers _ w'
      rw [st''.defers]
      exact ⟨.pan u, H', hR, rfl, s', x'⟩
    | _ => exact q.elim
  | some p =>
    obtain ⟨g, as⟩ := p
    cases e with
    | normal => obtain ⟨R', h1, h2⟩ := q; exact hdef (by simp) rfl h1 h2
    | ret => obtain ⟨R', h1, h2⟩ := q; exact hdef (by simp) rfl h1 h2
    | panic ch => obtain ⟨R', h1, h2⟩ := q; exact hdef (by simp) rfl h1 h2
    | _ => exact q.elim
end
end Go.Abs

namespace Go.Abs
open Go
set_option linter.unusedVariables false
set_option linter.unusedSimpArgs false
/-! A deferred closure that asks first what is recovered. -/
def recU : FrameMode → Option (Value × FrameMode)
  | .panicking ({ v, recovered := false, goexit := false } :: older) => some (v, .panicking ({ v, recovered := true } :: older))
  | _ => none
theorem recoverD_u {c : Frame} {cs : List Frame} {u : FrameMode} (h : c.mode = u) : recoverD (c :: cs) = (recU u).map fun p => (p.1, { c with mode := p.2 } :: cs) := by
  subst h
  unfold recoverD recU
  simp only
  split
  · rename_i he; rw [he]; rfl
  · rename_i hne
    split
    · rename_i he; exact absurd he (hne _ _)
    · rfl
def recBody (id t t' : Nat) (ty ty' : TypeId) (pos pos' : String) (after after' : Array Edge) (ats : Array TypeId) (rest : Code) : Code :=
  .seq (.region id #[{ dst := some t, op := .call { callee := .builtin .recover, args := #[], argTypes := ats }, type := ty, pos := pos, after := after, guard := none }, { dst := some t', op := .assign (.tmp t), type := ty', pos := pos', after := after', guard := none }] false) rest
def bodyQR (P : Program) (fn : Func) (n : Nat) (u' : FrameMode) (R : FrameMode → Heap → Prop) : Exit → Env → Heap → Prop
  | .ret, T, H | .normal, T, H => (∃ r, ResOk P fn ⟨n, [], []⟩ T H r) ∧ R u' H
  | _, _, _ => False
theorem TrD.of_recover {P : Program} {n f : Nat} {fn : Func} {args : List A} {H : Heap} {u u' : FrameMode} {R : FrameMode → Heap → Prop} {id t t' : Nat} {ty ty' : TypeId} {pos pos' : String} {after after' : Array Edge} {ats : Array TypeId} {rest : Code} {x : A}
    (hf : P.funcs[f]? = some fn) (hb : fn.body = some (recBody id t t' ty ty' pos pos' after after' ats rest)) (hn : (fn.name == "runtime.NumGoroutine") = false) (hN : args.length + (fn.ntmps - args.length) = n)
    (ht : Nat.blt t n = true) (ht' : Nat.blt t' n = true)
    (hx : (∃ v, recU u = some (v, u') ∧ ∀ w o, Rep w o x v) ∨ (recU u = none ∧ u' = u ∧ x = .nili))
    (h : AWp P ⟨n, [], []⟩ rest (bodyQR P fn n u' R) ((t', x) :: (t, x) :: argEnv 0 args) H) : TrD P f args H u R := by
  refine ⟨⟨fn, hf, by simp [hb], hn⟩, fun fr w vs s as => callsD_of_wpS hf hb fun c₀ cs hm => ?_⟩
  have st0 := args_st (fn := fn) hN as
  generalize ha : ({ tmps := vs.toArray ++ Array.replicate (fn.ntmps - vs.toArray.size) undef, defers := [] } : Act) = a at st0 ⊢
  unfold recBody
  refine wpS_seq (wpS_region ?_)
  obtain ⟨v, cs', hrec, hrv, hcs'⟩ : ∃ v cs', (match recoverD (c₀ :: cs) with | some (v, cs') => (v, cs') | none => (.nilIface, c₀ :: cs)) = (v, cs') ∧ (∀ w o, Rep w o x v) ∧ cs' = { c₀ with mode := u' } :: cs := by
    rw [recoverD_u hm]
    rcases hx with ⟨v, h1, h2⟩ | ⟨h1, h2, h3⟩
    · rw [h1]; exact ⟨v, _, rfl, h2, rfl⟩
    · subst h2; subst h3
      rw [h1]
      refine ⟨.nilIface, _, rfl, fun w o => .nili, ?_⟩
      subst hm; rfl
  have hsz : (#[{ dst := some t, op := .call { callee := .builtin .recover, args := #[], argTypes := ats }, type := ty, pos := pos, after := after, guard := none }, { dst := some t', op := .assign (.tmp t), type := ty', pos := pos', after := after', guard := none }] : Array Oper).size = 2 := rfl
  rw [hsz, show List.range 2 = [0, 1] from rfl]
  have st1 := st0.put (d := some t) (x := x) (by simpa [dstOk] using ht) (hrv w (own fr H))
  have hev : (a.put (some t) v).eval (.tmp t) = v := by
    have hlt : t < a.tmps.size := by rw [st0.size]; simpa [Nat.blt_eq] using ht
    simp [Act.put, Act.eval, Array.getD, hlt]
  have st2 := st1.put (d := some t') (x := x) (by simpa [dstOk] using ht') (hrv w (own fr H))
  have key : ∀ cs2, cs2 = cs' → wpOpsS P #[{ dst := some t, op := .call { callee := .builtin .recover, args := #[], argTypes := ats }, type := ty, pos := pos, after := after, guard := none }, { dst := some t', op := .assign (.tmp t), type := ty', pos := pos', after := after', guard := none }] (Exit.thenS (rest.wpS P (bodyPostS P fn c₀ cs fun e u' w' => ∃ v H', e = .returned v ∧ R u' H' ∧ Sim fr H' w' ∧ Ext H w H' w')) (bodyPostS P fn c₀ cs fun e u' w' => ∃ v H', e = .returned v ∧ R u' H' ∧ Sim fr H' w' ∧ Ext H w H' w')) [1] (a.put (some t) v) cs2 w := by
    rintro cs2 rfl
    unfold wpOpsS
    simp only [List.getElem?_toArray, List.getElem?_cons_succ, List.getElem?_cons_zero]
    rw [if_pos (by simp [Region.wanted])]
    simp only [execOp, hev, Sem.run_pure, Oper.upon_value]
    unfold wpOpsS
    show rest.wpS P _ _ cs2 w
    refine wpS_of_wp (wp_mono (h.out fr w _ s st2) ?_)
    rintro e a' w' ⟨T', H', q, s', st', x'⟩
    cases e with
    | normal =>
      obtain ⟨⟨r, hr⟩, hR⟩ := q
      obtain ⟨v2, h1, h2⟩ := hr fr w' a' s' st'
      exact ⟨st'.defers, u', hcs', v2, h1, v2, H', rfl, hR, s', x'⟩
    | ret =>
      obtain ⟨⟨r, hr⟩, hR⟩ := q
      obtain ⟨v2, h1, h2⟩ := hr fr w' a' s' st'
      exact ⟨st'.defers, u', hcs', v2, h1, v2, H', rfl, hR, s', x'⟩
    | _ => exact q.elim
  unfold wpOpsS
  simp only [List.getElem?_toArray, List.getElem?_cons_zero]
  rw [if_pos (by simp [Region.wanted])]
  simp only [execOp, resolve, invoke, builtin, Sem.run_bind, Sem.run_pure, Result.andThen_ok]
  split
  · rename_i v' cs2 hrd
    rw [hrd] at hrec
    simp only [Prod.mk.injEq] at hrec
    obtain ⟨rfl, rfl⟩ := hrec
    exact key _ rfl
  · rename_i hrd
    rw [hrd] at hrec
    simp only [Prod.mk.injEq] at hrec
    obtain ⟨rfl, rfl⟩ := hrec
    exact key _ rfl
/-- What a value that is no more than numbers and texts means. -/
def ofVal : Value → Option A
  | .iface t (.agg cs) => match ofVals cs.toList with
    | some l => some (.iface t (.agg l))
    | none => none
  | .iface t v => match ofConst v with
    | some x => some (.iface t x)
    | none => none
  | _ => none
where ofVals : List Value → Option (List A)
  | [] => some []
  | v :: l => match ofConst v, ofVals l with
    | some x, some xs => some (x :: xs)
    | _, _ => none
theorem ofVals_rep {w : World} {o : Nat → Prop} : ∀ {l : List Value} {xs : List A}, ofVal.ofVals l = some xs → RepL w o xs l
  | [], xs, h => by simp only [ofVal.ofVals] at h; cases h; exact .nil
  | v :: l, xs, h => by
    simp only [ofVal.ofVals] at h
    split at h
    · rename_i x ys h1 h2
      cases h
      exact .cons (ofConst_rep h1) (ofVals_rep h2)
    · cases h
theorem ofVals_scope {ρ : Nat → Nat} : ∀ {l : List Value} {xs : List A}, ofVal.ofVals l = some xs → scopeL 0 xs = true
  | [], xs, h => by simp only [ofVal.ofVals] at h; cases h; rfl
  | v :: l, xs, h => by
    simp only [ofVal.ofVals] at h
    split at h
    · rename_i x ys h1 h2
      cases h
      simp only [scopeL, ofConst_scope h1, ofVals_scope (ρ := ρ) h2, Bool.and_self]
    · cases h
theorem ofVal_rep {w : World} {o : Nat → Prop} {v : Value} {x : A} (h : ofVal v = some x) : Rep w o x v := by
  unfold ofVal at h
  split at h
  · rename_i t cs
    split at h
    · rename_i l hl
      cases h
      have := Rep.agg_of (ofVals_rep (w := w) (o := o) hl)
      exact .iface _ _ _ this
    · cases h
  · split at h
    · rename_i x hx
      cases h
      exact .iface _ _ _ (ofConst_rep hx)
    · cases h
  · cases h
theorem ofVal_scope {v : Value} {x : A} (h : ofVal v = some x) : scope 0 x = true := by
  unfold ofVal at h
  split at h
  · split at h
    · rename_i l hl
      cases h
      simp only [scope]; exact ofVals_scope (ρ := id) hl
    · cases h
  · split at h
    · rename_i x hx
      cases h
      simp only [scope]; exact ofConst_scope hx
    · cases h
  · cases h
end Go.Abs

namespace Go.Abs
open Go
set_option linter.unusedVariables false
set_option linter.unusedSimpArgs false
/-! The evaluator, of functions that may panic, defer and recover. -/
def deferX : Code → Option (Nat × FuncId × List Operand)
  | .region _ ops false => match ops.toList with
    | [⟨some t, .makeFunc (.func f) ⟨[]⟩ ⟨caps⟩, _, _, _, none⟩, ⟨none, .defer { callee := .value (.tmp t'), args := ⟨[]⟩, argTypes := _ }, _, _, _, none⟩] => match Nat.beq t t' with
      | true => some (t, f, caps)
      | false => none
    | _ => none
  | _ => none
def recX : Code → Option (Nat × Nat × Code)
  | .seq (.region _ ops false) rest => match ops.toList with
    | [⟨some t, .call { callee := .builtin .recover, args := ⟨[]⟩, argTypes := _ }, _, _, _, none⟩, ⟨some t', .assign (.tmp t2), _, _, _, none⟩] => match Nat.beq t t2 with
      | true => some (t, t', rest)
      | false => none
    | _ => none
  | _ => none
def evD (P : Program) (E : Exts) (M : ExtsM) (N : Nat) (L : Lay) (call : CallF) (lo : Nat → Bool) (fuel : Nat) : Code → Tre A → Tre Blk → Nat → Option (Option (FuncId × List A) × Exit × Tre A × Tre Blk × Nat)
  | .seq x y, T, H, n => match deferX x with
    | some (t, f, caps) => match evsC T caps, Nat.blt t N with
      | some cs, true => match evCodeF P E M N L call lo fuel y (putC (some t) (.fn f [] cs) T) H n with
        | some (e, T1, H1, n1) => some (some (f, cs), e, T1, H1, n1)
        | none => none
      | _, _ => none
    | none => match evCodeF P E M N L call lo fuel x T H n with
      | some (.normal, T1, H1, n1) => evD P E M N L call lo fuel y T1 H1 n1
      | some (e, T1, H1, n1) => some (none, e, T1, H1, n1)
      | none => none
  | c, T, H, n => match evCodeF P E M N L call lo fuel c T H n with
    | some (e, T1, H1, n1) => some (none, e, T1, H1, n1)
    | none => none
def outOf : Exit → Option FrameMode
  | .ret | .normal => some .returning
  | .panic ch => some (.panicking ch)
  | _ => none
def isRet : FrameMode → Bool
  | .returning => true
  | _ => false
def recA (u : FrameMode) : Option (A × FrameMode) := match recU u with
  | some (v, u') => match ofVal v with
    | some x => some (x, u')
    | none => none
  | none => some (.nili, u)
/-- A deferred closure's run. -/
def evRec (P : Program) (E : Exts) (M : ExtsM) (L : Lay) (call : CallF) (lo : Nat → Bool) (fuel : Nat) (f : FuncId) (args : List A) (u : FrameMode) (H : Tre Blk) (n : Nat) : Option (FrameMode × Tre Blk × Nat) := match P.funcs[f]? with
  | some fn => match fn.body with
    | some c => match fn.name == "runtime.NumGoroutine", recX c, recA u with
      | false, some (t, t', rest), some (x, u') => match Nat.blt t (args.length + (fn.ntmps - args.length)), Nat.blt t' (args.length + (fn.ntmps - args.length)) with
        | true, true => match evCodeF P E M (args.length + (fn.ntmps - args.length)) L call lo fuel rest (putC (some t') x (putC (some t) x (argsC 0 args))) H n with
          | some (e, T1, H1, n1) => match outOf e with
            | some .returning => match resC L T1 H1 fn.results.toList with
              | some _ => some (u', H1, n1)
              | none => none
            | _ => none
          | none => none
        | _, _ => none
      | _, _, _ => none
    | none => none
  | none => none
def panOf : Exit → Option Value
  | .panic [{ v := u, recovered := false, goexit := false }] => some u
  | _ => none
def evFnF (P : Program) (E : Exts) (M : ExtsM) (L : Lay) (fuel : Nat) : Nat → CallF
  | 0, _, _, _, _, _ => none
  | k + 1, lo, f, args, H, n => match P.funcs[f]? with
    | some fn => match fn.body with
      | some c => match fn.name == "runtime.NumGoroutine" with
        | false => match evD P E M (args.length + (fn.ntmps - args.length)) L (evFnF P E M L fuel k) lo fuel c (argsC 0 args) H n with
          | some (none, e, T1, H1, n1) => match outOf e with
            | some .returning => match resC L T1 H1 fn.results.toList with
              | some v => match scope n1 v with
                | true => some (.ret v, H1, n1)
                | false => none
              | none => none
            | _ => match panOf e with
              | some u => some (.pan u, H1, n1)
              | none => none
          | some (some (g, as), e, T1, H1, n1) => match outOf e with
            | some u => match evRec P E M L (evFnF P E M L fuel k) lo fuel g as u H1 n1 with
              | some (u', H2, n2) => match isRet (settle u') with
                | true => match resC L T1 H2 fn.results.toList with
                  | some v => match scope n2 v with
                    | true => some (.ret v, H2, n2)
                    | false => none
                  | none => none
                | false => none
              | none => none
            | none => none
          | none => none
        | true => none
      | none => none
    | none => none
section
variable {P : Program} {E : Exts} {M : ExtsM} {L : Lay} {call : CallF} {lo : Nat → Bool} {fuel : Nat} {fz : Nat → Prop}
theorem deferX_ok {x : Code} {t f : Nat} {caps : List Operand} (h : deferX x = some (t, f, caps)) : ∃ (id : Nat) (ty ty' : TypeId) (pos pos' : String) (after after' : Array Edge) (ats : Array TypeId),
    x = .region id #[{ dst := some t, op := .makeFunc (.func f) #[] caps.toArray, type := ty, pos := pos, after := after, guard := none }, { dst := none, op := .defer { callee := .value (.tmp t), args := #[], argTypes := ats }, type := ty', pos := pos', after := after', guard := none }] false := by
  unfold deferX at h
  split at h
  · rename_i id ops
    split at h
    · rename_i t1 f1 caps1 ty pos after t2 ats ty' pos' after' hl
      split at h
      · rename_i he
        have he := Nat.eq_of_beq_eq_true he
        subst he
        cases h
        refine ⟨id, ty, ty', pos, pos', after, after', ats, ?_⟩
        congr 1
        exact Array.toList_inj.1 (by rw [hl])
      · cases h
    · cases h
  · cases h
theorem recX_ok {c : Code} {t t' : Nat} {rest : Code} (h : recX c = some (t, t', rest)) : ∃ (id : Nat) (ty ty' : TypeId) (pos pos' : String) (after after' : Array Edge) (ats : Array TypeId), c = recBody id t t' ty ty' pos pos' after after' ats rest := by
  unfold recX at h
  split at h
  · rename_i id ops rest1
    split at h
    · rename_i t1 ats ty pos after t2 t3 ty' pos' after' hl
      split at h
      · rename_i he
        have he := Nat.eq_of_beq_eq_true he
        subst he
        cases h
        refine ⟨id, ty, ty', pos, pos', after, after', ats, ?_⟩
        unfold recBody
        congr 2
        exact Array.toList_inj.1 (by rw [hl])
      · cases h
    · cases h
  · cases h
theorem outOf_ret {e : Exit} (h : outOf e = some .returning) : e = .ret ∨ e = .normal := by
  cases e <;> simp [outOf] at h <;> simp
theorem outOf_cases {e : Exit} {u : FrameMode} (h : outOf e = some u) : ((e = .ret ∨ e = .normal) ∧ u = .returning) ∨ ∃ ch, e = .panic ch ∧ u = .panicking ch := by
  cases e <;> simp [outOf] at h <;> subst h <;> simp
theorem evD_ok {n0 : Nat} (hL : LayOk P L) (hm : P.follows .mixedOrders = true) (hE : ExtOk P E) (hM : ExtMOk P M) (hc : CallFOk P call) : ∀ (c : Code) {Q : Option (FuncId × List A) → Exit → Env → Heap → Prop} {ρ : Nat → Nat} {n : Nat} {T : Tre A} {H : Tre Blk} {T' : Env} {H' : Heap} {D : Option (FuncId × List A)} {e : Exit} {T1 : Tre A} {H1 : Tre Blk} {n1 : Nat},
    Cfg ρ n lo fz T H T' H' → evD P E M n0 L call lo fuel c T H n = some (D, e, T1, H1, n1) →
    (∀ ρ1 T1' H1', Cfg ρ1 n1 lo fz T1 H1 T1' H1' → Ltr ρ n fz H' ρ1 n1 H1' → (∀ f as, D = some (f, as) → scopeL n1 as = true) → Q (D.map fun p => (p.1, renL ρ1 p.2)) e T1' H1') → DWp P n0 c Q T' H' := by
  have plain : ∀ (c : Code) {Q : Option (FuncId × List A) → Exit → Env → Heap → Prop} {ρ : Nat → Nat} {n : Nat} {T : Tre A} {H : Tre Blk} {T' : Env} {H' : Heap} {D : Option (FuncId × List A)} {e : Exit} {T1 : Tre A} {H1 : Tre Blk} {n1 : Nat},
      Cfg ρ n lo fz T H T' H' → (match evCodeF P E M n0 L call lo fuel c T H n with | some (e, T1, H1, n1) => some (none, e, T1, H1, n1) | none => none) = some (D, e, T1, H1, n1) →
      (∀ ρ1 T1' H1', Cfg ρ1 n1 lo fz T1 H1 T1' H1' → Ltr ρ n fz H' ρ1 n1 H1' → (∀ f as, D = some (f, as) → scopeL n1 as = true) → Q (D.map fun p => (p.1, renL ρ1 p.2)) e T1' H1') → DWp P n0 c Q T' H' := by
    intro c Q ρ n T H T' H' D e T1 H1 n1 cf h k
    split at h
    · rename_i hcode
      cases h
      exact DWp.plain (evCodeF_ok (N := ⟨n0, [], []⟩) hL hm hE hM hc c cf hcode fun ρ1 T1' H1' c1 l1 => k ρ1 T1' H1' c1 l1 (fun f as e => by cases e))
    · cases h
  intro c
  induction c with
  | seq x y _ ihy =>
    intro Q ρ n T H T' H' D e T1 H1 n1 cf h k
    simp only [evD] at h
    split at h
    · rename_i t f caps hd
      obtain ⟨id, ty, ty', pos, pos', after, after', ats, rfl⟩ := deferX_ok hd
      split at h
      · rename_i cs hcs hlt
        split at h
        · rename_i hcode
          cases h
          have hev := cf.r.evs hcs
          have hsc := cf.s.evs hcs
          have c1 : Cfg ρ n lo fz (putC (some t) (.fn f [] cs) T) H ((t, .fn f [] (renL ρ cs)) :: T') H' := by
            refine ⟨?_, cf.s.put _ (by simp only [scope, scopeL, hsc, Bool.and_self]), cf.g⟩
            have := cf.r.put (some t) (.fn f [] cs)
            simpa only [ren, renL, put] using this
          refine DWp.defer hev hlt fun d => evCodeF_ok (N := ⟨n0, [d], []⟩) hL hm hE hM hc y c1 hcode fun ρ1 T1' H1' c2 l2 => ?_
          have := k ρ1 T1' H1' c2 l2 (fun f2 as e => by cases e; exact (by
            have := hsc
            exact scopeL_mono l2.le _ this))
          simp only [Option.map_some] at this
          rw [renL_congr l2.agree cs hsc] at this
          exact this
        · cases h
      · cases h
    · rename_i hnd
      split at h
      · rename_i hx
        refine DWp.seq (evCodeF_ok (N := ⟨n0, [], []⟩) hL hm hE hM hc x cf hx fun ρ1 T1' H1' c1 l1 => ?_)
        exact ihy c1 h fun ρ2 T2' H2' c2 l2 hs => k ρ2 T2' H2' c2 (l1.trans l2) hs
      · rename_i e2 _ _ _ hne hx
        cases h
        refine DWp.seq (evCodeF_ok (N := ⟨n0, [], []⟩) hL hm hE hM hc x cf hx fun ρ1 T1' H1' c1 l1 => ?_)
        have := k ρ1 T1' H1' c1 l1 (fun f as e => by cases e)
        cases e with
        | normal => exact absurd hx (by intro hx'; exact (hne rfl))
        | _ => exact this
      · cases h
  | _ => intro Q ρ n T H T' H' D e T1 H1 n1 cf h k; exact plain _ cf h k
theorem recA_ok {u u' : FrameMode} {x : A} (h : recA u = some (x, u')) : ((∃ v, recU u = some (v, u') ∧ ∀ w o, Rep w o x v) ∨ (recU u = none ∧ u' = u ∧ x = .nili)) ∧ scope 0 x = true := by
  unfold recA at h
  split at h
  · rename_i v u1 hu
    split at h
    · rename_i y hy
      cases h
      exact ⟨.inl ⟨v, hu, fun w o => ofVal_rep hy⟩, ofVal_scope hy⟩
    · cases h
  · rename_i hu
    cases h
    exact ⟨.inr ⟨hu, rfl, rfl⟩, rfl⟩
theorem evRec_ok (hL : LayOk P L) (hm : P.follows .mixedOrders = true) (hE : ExtOk P E) (hM : ExtMOk P M) (hc : CallFOk P call) {f : FuncId} {args : List A} {u u' : FrameMode} {H : Tre Blk} {n : Nat} {H1 : Tre Blk} {n1 : Nat} {ρ : Nat → Nat} {H' : Heap}
    (h : evRec P E M L call lo fuel f args u H n = some (u', H1, n1)) (hs : scopeL n args = true) (g : Good ρ n lo fz H H') : TrD P f (renL ρ args) H' u fun u2 H1' => u2 = u' ∧ ∃ ρ1, Good ρ1 n1 lo fz H1 H1' ∧ Ltr ρ n fz H' ρ1 n1 H1' := by
  unfold evRec at h
  split at h
  · rename_i fn hf
    split at h
    · rename_i c hb
      split at h
      · rename_i t t' rest x u1 hn hrx hra
        obtain ⟨id, ty, ty', pos, pos', after, after', ats, rfl⟩ := recX_ok hrx
        obtain ⟨hx, hxs⟩ := recA_ok hra
        split at h
        · rename_i ht ht'
          split at h
          · rename_i e T1 H2 n2 hcode
            split at h
            · rename_i ho
              split at h
              · rename_i v hv
                cases h
                refine TrD.of_recover (n := args.length + (fn.ntmps - args.length)) hf hb hn (by rw [renL_len]) ht ht' hx ?_
                have c0 : Cfg ρ n lo fz (putC (some t') x (putC (some t) x (argsC 0 args))) H ((t', x) :: (t, x) :: argEnv 0 (renL ρ args)) H' := by
                  have r0 : EnvR ρ (argsC 0 args) (argEnv 0 (renL ρ args)) := fun t x hx => argsC_ok hx
                  have s0 : EnvS n (argsC 0 args) := fun t x hx => argsC_scope hs hx
                  have hx' := scope_mono (Nat.zero_le n) x hxs
                  refine ⟨?_, (s0.put _ hx').put _ hx', g⟩
                  have := (r0.put (some t) x).put (some t') x
                  rw [ren_closed ρ hxs] at this
                  exact this
                refine evCodeF_ok (N := ⟨args.length + (fn.ntmps - args.length), [], []⟩) hL hm hE hM hc rest c0 hcode fun ρ1 T1' H1' c1 l1 => ?_
                have hr := resC_ok (N := ⟨args.length + (fn.ntmps - args.length), [], []⟩) hL c1 hv
                rcases outOf_ret ho with rfl | rfl
                · exact ⟨⟨_, hr⟩, rfl, ρ1, c1.g, l1⟩
                · exact ⟨⟨_, hr⟩, rfl, ρ1, c1.g, l1⟩
              · cases h
            · cases h
          · cases h
        · cases h
      · cases h
    · cases h
  · cases h
theorem evFnF_ok (hL : LayOk P L) (hm : P.follows .mixedOrders = true) (hE : ExtOk P E) (hM : ExtMOk P M) : ∀ k, CallFOk P (evFnF P E M L fuel k)
  | 0 => fun lo f args H n x H1 n1 h => by simp [evFnF] at h
  | k + 1 => fun lo f args H n x H1 n1 h ρ fz H' sa g => by
    have hcall := evFnF_ok hL hm hE hM k
    simp only [evFnF] at h
    split at h
    · rename_i fn hf
      split at h
      · rename_i c hb
        split at h
        · rename_i hn
          have c0 : Cfg ρ n lo fz (argsC 0 args) H (argEnv 0 (renL ρ args)) H' := ⟨fun t x hx => argsC_ok hx, fun t x hx => argsC_scope sa hx, g⟩
          refine TrF.of_bodyD (n := args.length + (fn.ntmps - args.length)) hf hb hn (by rw [renL_len]) ?_
          split at h
          · rename_i e T2 H2 n2 hcode
            refine evD_ok hL hm hE hM hcall c c0 hcode fun ρ1 T1' H1' c1 l1 _ => ?_
            simp only [Option.map_none]
            split at h
            · rename_i ho
              split at h
              · rename_i v' hv
                split at h
                · rename_i hs
                  cases h
                  rcases outOf_ret ho with rfl | rfl
                  · exact ⟨_, resC_ok hL c1 hv, _, rfl, ρ1, rfl, hs, c1.g, l1⟩
                  · exact ⟨_, resC_ok hL c1 hv, _, rfl, ρ1, rfl, hs, c1.g, l1⟩
                · cases h
              · cases h
            · split at h
              · rename_i u hu
                cases h
                unfold panOf at hu
                split at hu
                · cases hu
                  exact ⟨_, rfl, rfl, ρ1, c1.g, l1⟩
                · cases hu
              · cases h
          · rename_i g1 as e T2 H2 n2 hcode
            refine evD_ok hL hm hE hM hcall c c0 hcode fun ρ1 T1' H1' c1 l1 hsc => ?_
            simp only [Option.map_some]
            have hsc := hsc _ _ rfl
            split at h
            · rename_i u hu
              split at h
              · rename_i u' H3 n3 hrec
                split at h
                · rename_i hret
                  have hset : settle u' = .returning := by
                    cases hq : settle u' <;> simp [hq, isRet] at hret ⊢
                  split at h
                  · rename_i v hv
                    split at h
                    · rename_i hs
                      cases h
                      have htd := evRec_ok (fz := fz) hL hm hE hM hcall hrec hsc c1.g
                      have fin : ∀ u2 H3', (u2 = u' ∧ ∃ ρ2, Good ρ2 n1 lo fz H1 H3' ∧ Ltr ρ1 n2 fz H1' ρ2 n1 H3') → settle u2 = .returning ∧ ∃ r, ResOk P fn ⟨args.length + (fn.ntmps - args.length), [], []⟩ T1' H3' r ∧ OutF ρ n lo fz H' (.ret v) H1 n1 (.ret r) H3' := by
                        rintro u2 H3' ⟨rfl, ρ2, hg, hl⟩
                        refine ⟨hset, ren ρ2 v, resC_ok hL ⟨c1.r.later c1.s hl.agree, c1.s.mono hl.le, hg⟩ hv, _, rfl, ρ2, rfl, hs, hg, l1.trans hl⟩
                      rcases outOf_cases hu with ⟨rfl | rfl, rfl⟩ | ⟨ch, rfl, rfl⟩
                      · exact ⟨_, htd, fin⟩
                      · exact ⟨_, htd, fin⟩
                      · exact ⟨_, htd, fin⟩
                    · cases h
                  · cases h
                · cases h
              · cases h
            · cases h
          · cases h
        · cases h
      · cases h
    · cases h
/-- A run with nothing unknown: what the evaluator says holds. -/
theorem PTr.runF (hL : LayOk P L) (hm : P.follows .mixedOrders = true) (hE : ExtOk P E) (hM : ExtMOk P M) (k : Nat) {f : FuncId} {v : A} (hv : scope 0 v = true) (h : (match evFnF P E M L fuel k (fun _ => true) f [] .leaf 0 with | some (.ret v, _, _) => some v | _ => none) = some v) : PTr P f [] v := by
  split at h
  · rename_i v' H1 n1 he
    cases h
    have g : Good id 0 (fun _ => true) (fun _ => False) .leaf [] := ⟨fun i b h => by simp [Tre.get] at h, fun i j b c h => by simp [Tre.get] at h, List.nodup_nil, fun i h => absurd h (Nat.not_lt_zero i), fun _ _ => rfl, fun k h => h.elim⟩
    refine (TrF.toTr (R := Out id 0 (fun _ => true) (fun _ => False) [] v H1 n1) (evFnF_ok hL hm hE hM k (fun _ => true) f [] .leaf 0 _ H1 n1 he id (fun _ => False) [] rfl g)).mono ?_
    rintro r H' ⟨ρ1, rfl, _, _, _⟩
    exact ren_closed ρ1 hv
  · cases h
end
end Go.Abs

namespace Go.Abs
open Go
/-- The evaluator, at arguments that are closed. -/
theorem PTr.runA {P : Program} {E : Exts} {M : ExtsM} {L : Lay} {fuel : Nat} (hL : LayOk P L) (hm : P.follows .mixedOrders = true) (hE : ExtOk P E) (hM : ExtMOk P M) (k : Nat) {f : FuncId} {args : List A} {v : A} (ha : scopeL 0 args = true) (hv : scope 0 v = true)
    (h : (match evFnF P E M L fuel k (fun _ => true) f args .leaf 0 with | some (.ret v, _, _) => some v | _ => none) = some v) : PTr P f args v := by
  split at h
  · rename_i v' H1 n1 he
    cases h
    have g : Good id 0 (fun _ => true) (fun _ => False) .leaf [] := ⟨fun i b h => by simp [Tre.get] at h, fun i j b c h => by simp [Tre.get] at h, List.nodup_nil, fun i h => absurd h (Nat.not_lt_zero i), fun _ _ => rfl, fun k h => h.elim⟩
    have ht := evFnF_ok hL hm hE hM k (fun _ => true) f args .leaf 0 _ H1 n1 he id (fun _ => False) [] ha g
    rw [renL_closed id ha] at ht
    refine (TrF.toTr (R := Out id 0 (fun _ => true) (fun _ => False) [] v H1 n1) ht).mono ?_
    rintro r H' ⟨ρ1, rfl, _, _, _⟩
    exact ren_closed ρ1 hv
  · cases h
end Go.Abs

