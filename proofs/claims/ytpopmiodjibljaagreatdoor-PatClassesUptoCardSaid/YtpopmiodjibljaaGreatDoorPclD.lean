/- A part of the proof: a layer of abstract values over the kit's walks, an evaluator over it, and walks of functions. -/
import Derived.Test.YtpopmiodjibljaaGreatDoorPclC
set_option linter.unusedVariables false
set_option linter.unusedSimpArgs false
namespace Go.Abs
open Go
set_option linter.unusedVariables false
set_option linter.unusedSimpArgs false
/-! The evaluator, of calls that may panic. -/
abbrev CallF := (Nat → Bool) → FuncId → List A → Tre Blk → Nat → Option (Fin × Tre Blk × Nat)
def retC (c : CallF) : CallC := fun lo f a H n => match c lo f a H n with
  | some (.ret v, H1, n1) => some (v, H1, n1)
  | _ => none
def OutF (ρ : Nat → Nat) (n : Nat) (lo : Nat → Bool) (fz : Nat → Prop) (H' : Heap) (x : Fin) (H1 : Tre Blk) (n1 : Nat) : Fin → Heap → Prop := fun y H1' => match x with
  | .ret v => ∃ r, y = .ret r ∧ Out ρ n lo fz H' v H1 n1 r H1'
  | .pan u => y = .pan u ∧ ∃ ρ1, Good ρ1 n1 lo fz H1 H1' ∧ Ltr ρ n fz H' ρ1 n1 H1'
def CallFOk (P : Program) (call : CallF) : Prop :=
  ∀ lo f args H n x H1 n1, call lo f args H n = some (x, H1, n1) → ∀ ρ fz H', scopeL n args = true → Good ρ n lo fz H H' → TrF P f (renL ρ args) H' (OutF ρ n lo fz H' x H1 n1)
theorem retC_ok {P : Program} {call : CallF} (h : CallFOk P call) : CallOk P (retC call) := by
  intro lo f args H n v H1 n1 hc ρ fz H' hs hg
  unfold retC at hc
  split at hc
  · rename_i hc'
    cases hc
    exact TrF.toTr (h _ _ _ _ _ _ _ _ hc' ρ fz H' hs hg)
  · cases hc
def noCall : CallC := fun _ _ _ _ _ => none
theorem noCall_ok {P : Program} : CallOk P noCall := fun _ _ _ _ _ _ _ _ h => by cases h
def evOpF (P : Program) (E : Exts) (M : ExtsM) (L : Lay) (call : CallF) (lo : Nat → Bool) (T : Tre A) (H : Tre Blk) (n : Nat) : Op → Option (Fin × Tre Blk × Nat)
  | .panic x => match evC T x with
    | some (.iface t v) => match datA v with
      | some u => some (.pan (.iface t u), H, n)
      | none => none
    | _ => none
  | .call { callee := .value c, args := ⟨args⟩, argTypes := _ } => match evC T c with
    | some (.fn f first cap) => match evsC T args with
      | some xs => match E f (first ++ xs ++ cap) with
        | some v => match scope n v with
          | true => some (.ret v, H, n)
          | false => none
        | none => match M f (first ++ xs ++ cap) H with
          | some e => match eApply lo H n e with
            | some (v, H1, n1) => some (.ret v, H1, n1)
            | none => none
          | none => call lo f (first ++ xs ++ cap) H n
      | none => none
    | _ => none
  | op => match evOp P E L noCall lo T H n op with
    | some (v, H1, n1) => some (.ret v, H1, n1)
    | none => none
def evOpsF (P : Program) (E : Exts) (M : ExtsM) (N : Nat) (L : Lay) (call : CallF) (lo : Nat → Bool) (ops : List Oper) : List Oper → Tre A → Tre Blk → Nat → Res
  | [], T, H, n => some (.normal, T, H, n)
  | o :: rest, T, H, n => match dstOk ⟨N, [], []⟩ o.dst with
    | true => match wantC ops T o with
      | some true => match evOpF P E M L call lo T H n o.op with
        | some (.ret v, H1, n1) => evOpsF P E M N L call lo ops rest (putC o.dst v T) H1 n1
        | some (.pan u, H1, n1) => some (.panic [{ v := u, recovered := false }], T, H1, n1)
        | none => none
      | some false => evOpsF P E M N L call lo ops rest (putC o.dst (.tup []) T) H n
      | none => none
    | false => none
/-- Blocks that appends, and early stores, of a region turn. -/
def consOf (late : Oper → Bool) (T : Tre A) (n0 : Nat) : List Oper → List Nat
  | [] => []
  | o :: rest => match o.op with
    | .call { callee := .builtin .append, args := ⟨x :: _⟩, argTypes := _ } => match evC T x with
      | some (.os r _ _ _) => match Nat.blt r n0 && !memN r (consOf late T n0 rest) with
        | true => r :: consOf late T n0 rest
        | false => consOf late T n0 rest
      | _ => consOf late T n0 rest
    | .store _ x _ => match late o, evC T x with
      | false, some (.ptr r _ _ _) => match Nat.blt r n0 && !memN r (consOf late T n0 rest) with
        | true => r :: consOf late T n0 rest
        | false => consOf late T n0 rest
      | _, _ => consOf late T n0 rest
    | _ => consOf late T n0 rest
/-- The places of a region's operations, calls that turn memory (and what hangs on them) last. -/
def ordGo (b : List Nat) (hv : Oper → Bool) : List Oper → Nat → Nat → List Nat × List Nat
  | [], _, _ => ([], [])
  | o :: rest, i, mask => match hv o || !Nat.beq ((b.getD i 0) &&& mask) 0 with
    | true => match ordGo b hv rest (i + 1) (mask ||| 2 ^ i) with
      | (l, m) => (l, i :: m)
    | false => match ordGo b hv rest (i + 1) mask with
      | (l, m) => (i :: l, m)
def ordOf (ops : List Oper) (hv : Oper → Bool) : List (Nat × Oper) := match ordGo (anc ops) hv ops 0 0 with
  | (l, m) => ordL ops (l ++ m)
def tryPlan (P : Program) (E : Exts) (M : ExtsM) (N : Nat) (L : Lay) (call : CallF) (lo : Nat → Bool) (ops : List Oper) (ap : Bool) (hv : Oper → Bool) (xl : List Nat) (cons : Nat → Bool) (base : Option (Tre Blk)) (T : Tre A) (H : Tre Blk) (n : Nat) : Res :=
  match chk2 (lateIn (xl ++ lateGo ap (anc ops) ops 0 false 0 0)) (uniIn (match ap with | true => uniGo (anc ops) ops 0 false 0 | false => [])) hv ops (ordOf ops hv) with
  | true => match base with
    | some H0 => match evPlan P E N L (retC call) lo (lateIn (xl ++ lateGo ap (anc ops) ops 0 false 0 0)) (uniIn (match ap with | true => uniGo (anc ops) ops 0 false 0 | false => [])) hv ops cons H0 n ((ordOf ops hv).map (·.2)) true T H n with
      | some (e, T1, H1, n1, _, _) => some (e, T1, H1, n1)
      | none => none
    | none => none
  | false => none
/-- The blocks that a region's reads look at. -/
def keepOf (T : Tre A) : List Oper → List Nat
  | [] => []
  | o :: rest => match o.op with
    | .load _ x => match evC T x with
      | some (.ptr r _ _ _) => r :: keepOf T rest
      | _ => keepOf T rest
    | .lookup _ x _ _ => match evC T x with
      | some (.map r) => r :: keepOf T rest
      | _ => keepOf T rest
    | _ => keepOf T rest
/-- Reads that go before all calls of a region. -/
def ancAll (b : List Nat) (hv : Oper → Bool) (i : Nat) : List Oper → Nat → Bool
  | [], _ => true
  | o :: rest, j => match !hv o || !Nat.beq ((b.getD j 0) &&& (2 ^ i)) 0 with
    | true => ancAll b hv i rest (j + 1)
    | false => false
def preLate (b : List Nat) (hv : Oper → Bool) (ops : List Oper) : List Oper → Nat → List Nat
  | [], _ => []
  | o :: rest, i => match Nat.beq (clsH hv o) 1 && ancAll b hv i ops 0 with
    | true => addK o (preLate b hv ops rest (i + 1))
    | false => preLate b hv ops rest (i + 1)
/-- Blocks that a call may turn: all but some. -/
def consP (H : Tre Blk) (n : Nat) (keep : List Nat) (i : Nat) : Bool := match Nat.blt i n, memN i keep, H.get i with
  | true, false, some _ => true
  | _, _, _ => false
theorem consP_ok {H : Tre Blk} {n : Nat} {keep : List Nat} (i : Nat) (h : consP H n keep i = true) : i < n ∧ (H.get i).isSome = true := by
  unfold consP at h
  split at h
  · rename_i b h1 h2 h3; exact ⟨by simpa [Nat.blt_eq] using h1, by rw [h3]; rfl⟩
  · cases h
/-- Up to the last call. -/
def toLast : List Oper → List Oper
  | [] => []
  | o :: rest => match rest.any isCallV with
    | true => o :: toLast rest
    | false => match isCallV o with
      | true => [o]
      | false => []
/-- Up to the first call. -/
def toFirst : List Oper → List Oper
  | [] => []
  | o :: rest => match isCallV o with
    | true => []
    | false => o :: toFirst rest
def lastKey : List Oper → Option Nat → Option Nat
  | [], k => k
  | o :: rest, k => match isCallV o with
    | true => lastKey rest (keyOf o)
    | false => lastKey rest k
def lastC (k : Option Nat) (o : Oper) : Bool := match isCallV o, keyOf o, k with
  | true, some d, some d' => Nat.beq d d'
  | _, _, _ => false
def evHeavy (P : Program) (E : Exts) (M : ExtsM) (N : Nat) (L : Lay) (call : CallF) (lo : Nat → Bool) (hv : Oper → Bool) (ops pre : List Oper) (xl : List Nat) (T : Tre A) (H : Tre Blk) (n : Nat) : Res :=
  match evOpsF P E M N L call lo ops pre T H n with
  | some (_, T1, _, _) => tryPlan P E M N L call lo ops false hv xl (consP H n (keepOf T1 (ops.filter fun o => match keyOf o with | some d => !memN d xl | none => true))) (some (H.filt fun i => !(lo i && consP H n (keepOf T1 (ops.filter fun o => match keyOf o with | some d => !memN d xl | none => true)) i))) T H n
  | none => none
def evDrawn (P : Program) (E : Exts) (M : ExtsM) (N : Nat) (L : Lay) (call : CallF) (lo : Nat → Bool) (ops : List Oper) (T : Tre A) (H : Tre Blk) (n : Nat) : Res :=
  match tryPlan P E M N L call lo ops false (fun _ => false) [] (fun _ => false) (some H) T H n with
  | some r => some r
  | none => match ops.any isCallV with
    | false => match evOpsF P E M N L call lo ops ops T H n with
      | some (_, T1, _, _) => tryPlan P E M N L call lo ops true (fun _ => false) [] (fun i => memN i (consOf (lateIn (lateGo true (anc ops) ops 0 false 0 0)) T1 n ops)) (baseC lo n (consOf (lateIn (lateGo true (anc ops) ops 0 false 0 0)) T1 n ops) H) T H n
      | none => none
    | true => match evHeavy P E M N L call lo isCallV ops (toFirst ops) [] T H n with
      | some r => some r
      | none => match evHeavy P E M N L call lo (lastC (lastKey ops none)) ops (toFirst ops) (preLate (anc ops) (lastC (lastKey ops none)) ops ops 0) T H n with
        | some r => some r
        | none => evHeavy P E M N L call lo isCallV ops (toLast ops) [] T H n
def evCodeF (P : Program) (E : Exts) (M : ExtsM) (N : Nat) (L : Lay) (call : CallF) (lo : Nat → Bool) (fuel : Nat) : Code → Tre A → Tre Blk → Nat → Res
  | .skip, T, H, n => some (.normal, T, H, n)
  | .label _, T, H, n => some (.normal, T, H, n)
  | .exit id, T, H, n => some (.exit id, T, H, n)
  | .ret, T, H, n => some (.ret, T, H, n)
  | .seq a b, T, H, n => match evCodeF P E M N L call lo fuel a T H n with
    | some (.normal, T1, H1, n1) => evCodeF P E M N L call lo fuel b T1 H1 n1
    | r => r
  | .cond c a b, T, H, n => match evC T c with
    | some (.bool true) => evCodeF P E M N L call lo fuel a T H n
    | some (.bool false) => evCodeF P E M N L call lo fuel b T H n
    | _ => none
  | .block id c, T, H, n => match evCodeF P E M N L call lo fuel c T H n with
    | some (.exit id', T1, H1, n1) => match Nat.beq id' id with
      | true => some (.normal, T1, H1, n1)
      | false => some (.exit id', T1, H1, n1)
    | r => r
  | .loop c, T, H, n => evLoop (evCodeF P E M N L call lo fuel c) fuel T H n
  | .region _ ops false, T, H, n => evOpsF P E M N L call lo ops.toList ops.toList T H n
  | .region _ ops true, T, H, n => evDrawn P E M N L call lo ops.toList T H n
  | _, _, _, _ => none
section
variable {P : Program} {E : Exts} {M : ExtsM} {N : NN} {L : Lay} {call : CallF} {ρ : Nat → Nat} {n : Nat} {lo : Nat → Bool} {fz : Nat → Prop} {T : Tre A} {H : Tre Blk} {T' : Env} {H' : Heap}
theorem AOp.panicIface {N : NN} {T : Env} {H : Heap} {ops rest : List Oper} {dst : Option Nat} {x : Operand} {t : TypeId} {v : A} {u : Value} {ty : TypeId} {pos : String} {after : Array Edge} {guard : Option (Nat × Bool)} {Q : Exit → Env → Heap → Prop}
    (hx : ev T x = some (.iface t v)) (hu : datA v = some u) (k : Q (.panic [{ v := .iface t u, recovered := false }]) T H) :
    AOp P N ops { dst := dst, op := .panic x, type := ty, pos := pos, after := after, guard := guard } rest Q T H := by
  refine ⟨fun fr w a s st => ?_⟩
  have hr := ev_rep st hx
  have he := datA_eq (a := .iface t v) (u := .iface t u) (by simp only [datA, hu]) hr
  unfold Oper.wp execOp
  simp only [he, Sem.run_bind, run_panic_iface, Result.andThen_halt, Oper.upon_panic]
  exact ⟨T, H, k, s, st, Ext.refl H w⟩
theorem evOpF_ok (hL : LayOk P L) (hE : ExtOk P E) (hM : ExtMOk P M) (hc : CallFOk P call) (c : Cfg ρ n lo fz T H T' H') {o : Oper} (hd : dstOk N o.dst = true) {x : Fin} {H1 : Tre Blk} {n1 : Nat} (h : evOpF P E M L call lo T H n o.op = some (x, H1, n1))
    {ops rest : List Oper} {Q : Exit → Env → Heap → Prop} (k : ∀ v r H1', x = .ret v → Out ρ n lo fz H' v H1 n1 r H1' → AOps P N ops rest Q (put o.dst r T') H1')
    (kp : ∀ u ρ1 H1', x = .pan u → Good ρ1 n1 lo fz H1 H1' → Ltr ρ n fz H' ρ1 n1 H1' → Q (.panic [{ v := u, recovered := false }]) T' H1') : AOp P N ops o rest Q T' H' := by
  obtain ⟨dst, op, ty, pos, after, guard⟩ := o
  simp only at h hd k
  unfold evOpF at h
  split at h
  · split at h
    · rename_i hx
      have hx := c.r.ev hx
      simp only [ren] at hx
      split at h
      · rename_i u hu
        cases h
        exact AOp.panicIface hx (datA_ren ρ _ _ hu) (kp _ ρ H' rfl c.g (Ltr.refl ..))
      · cases h
    · cases h
  · split at h
    · rename_i hf
      have hf' := c.r.ev hf
      have sf := c.s.ev hf
      simp only [ren] at hf'
      simp only [scope, Bool.and_eq_true] at sf
      split at h
      · rename_i ha
        have ha' := c.r.evs ha
        have sa := c.s.evs ha
        split at h
        · rename_i v' hv
          split at h
          · rename_i hs
            cases h
            refine AOp.callExt hf' ha' (fun w o vs hr => hE _ _ _ hv ρ w o vs ?_) hd (k _ _ _ rfl ⟨ρ, rfl, hs, c.g, Ltr.refl ..⟩)
            rw [renL_append, renL_append]; exact hr
          · cases h
        · split at h
          · rename_i e hme
            split at h
            · rename_i v1 H2 n2 hap
              cases h
              exact eApply_ok (EffM.ok (N := N) hf' ha' (by simp only [renL_append]) hd (hM _ _ _ _ hme ρ n lo fz H' c.g)) c.g hap fun r H1' hr => k _ r H1' rfl hr
            · cases h
          · have ht := hc _ _ _ _ _ _ _ _ h ρ fz H' (scopeL_append (scopeL_append sf.1 sa) sf.2) c.g
            simp only [renL_append] at ht
            refine AOp.callF (F := []) hf' ha' hd (by simp) ht (fun r H1' hr => ?_) (fun u H1' hr => ?_)
            · rw [List.append_nil]
              cases x with
              | ret v =>
                obtain ⟨r', e, ho⟩ := hr
                cases e
                exact k v r H1' rfl ho
              | pan u => exact absurd hr.1 (by simp)
            · rw [List.append_nil]
              cases x with
              | ret v =>
                obtain ⟨r', e, ho⟩ := hr
                cases e
              | pan u' =>
                obtain ⟨e, ρ1, hg, hl⟩ := hr
                cases e
                exact kp _ ρ1 H1' rfl hg hl
      · cases h
    · cases h
  · split at h
    · rename_i ho
      cases h
      exact evOp_ok hL hE noCall_ok c (o := ⟨dst, op, ty, pos, after, guard⟩) hd ho fun r H1' hr => k _ r H1' rfl hr
    · cases h
theorem evOpsF_ok (hL : LayOk P L) (hE : ExtOk P E) (hM : ExtMOk P M) (hc : CallFOk P call) {ops : List Oper} {Q : Exit → Env → Heap → Prop} {e : Exit} {T1 : Tre A} {H1 : Tre Blk} {n1 : Nat} : ∀ (rest : List Oper) {ρ : Nat → Nat} {n : Nat} {T : Tre A} {H : Tre Blk} {T' : Env} {H' : Heap},
    Cfg ρ n lo fz T H T' H' → evOpsF P E M N.n L call lo ops rest T H n = some (e, T1, H1, n1) →
    (∀ ρ1 T1' H1', Cfg ρ1 n1 lo fz T1 H1 T1' H1' → Ltr ρ n fz H' ρ1 n1 H1' → Q e T1' H1') → AOps P N ops rest Q T' H'
  | [], ρ, n, T, H, T', H', c, h, k => by
    simp only [evOpsF] at h
    cases h
    exact AOps.nil (k _ _ _ c (Ltr.refl ..))
  | o :: rest, ρ, n, T, H, T', H', c, h, k => by
    simp only [evOpsF] at h
    split at h
    · rename_i hd
      have hd : dstOk N o.dst = true := hd
      split at h
      · rename_i hw
        have key : AOp P N ops o rest Q T' H' := by
          split at h
          · rename_i v H2 n2 ho
            refine evOpF_ok hL hE hM hc c hd ho (fun v' r H1' hv hr => ?_) (fun u ρ1 H1' hu _ _ => by cases hu)
            cases hv
            obtain ⟨ρ1, c1, l1⟩ := c.next hr o.dst
            exact evOpsF_ok hL hE hM hc rest c1 h fun ρ2 T2' H2' c2 l2 => k _ _ _ c2 (l1.trans l2)
          · rename_i u H2 n2 ho
            cases h
            refine evOpF_ok hL hE hM hc c hd ho (fun v' r H1' hv hr => by cases hv) (fun u ρ1 H1' hu hg hl => ?_)
            cases hu
            exact k ρ1 T' H1' ⟨c.r.later c.s hl.agree, c.s.mono hl.le, hg⟩ hl
          · cases h
        unfold wantC at hw
        split at hw
        · rename_i hg; exact AOps.plain hg key
        · rename_i j b hg
          split at hw
          · cases hw
          · rename_i d hdj
            split at hw
            · rename_i b' hb
              have hb := c.r d _ hb
              simp only [ren] at hb
              have hbb : b' = b := by simpa using hw
              subst hbb
              exact AOps.wanted hg hdj hb hd key
            · cases hw
            · cases hw
      · rename_i hw
        have c1 : Cfg ρ n lo fz (putC o.dst (.tup []) T) H (put o.dst (.tup []) T') H' := ⟨by have := c.r.put o.dst (.tup []); simpa only [ren, renL] using this, c.s.put o.dst (by rfl), c.g⟩
        have key := evOpsF_ok hL hE hM hc (Q := Q) rest c1 h k
        unfold wantC at hw
        split at hw
        · cases hw
        · rename_i j b hg
          split at hw
          · cases hw
          · rename_i d hdj
            split at hw
            · rename_i b' hb
              have hb := c.r d _ hb
              simp only [ren] at hb
              have hbb : (b' == b) = false := by simpa using hw
              exact AOps.unwanted hg hdj hb (by cases b <;> cases b' <;> simp_all) hd key
            · rename_i l hb
              have hb := c.r d _ hb
              simp only [ren] at hb
              exact AOps.unwantedU hg hdj hb hd key
            · cases hw
      · cases h
    · cases h
theorem ordOf_get {ops : List Oper} {hv : Oper → Bool} : ∀ p ∈ ordOf ops hv, ops[p.1]? = some p.2 := by
  intro p hp
  unfold ordOf at hp
  split at hp
  exact ordL_get hp
theorem tryPlan_ok {id : Nat} (hL : LayOk P L) (hm : P.follows .mixedOrders = true) (hE : ExtOk P E) (hM : ExtMOk P M) (hc : CallFOk P call) {ops : List Oper} {ap : Bool} {hv : Oper → Bool} {xl : List Nat} {cons : Nat → Bool} {base : Option (Tre Blk)} {Q : Exit → Env → Heap → Prop} {e : Exit} {T1 : Tre A} {H1 : Tre Blk} {n1 : Nat}
    (c : Cfg ρ n lo fz T H T' H') (hbase : ∀ H0, base = some H0 → ∃ B G, Good ρ n lo fz H0 B ∧ H'.Perm (G ++ B) ∧ ∀ i, lo i = true → cons i = true → i < n ∧ ρ i ∉ keys B) (h : tryPlan P E M N.n L call lo ops ap hv xl cons base T H n = some (e, T1, H1, n1)) (k : ∀ ρ1 T1' H1', Cfg ρ1 n1 lo fz T1 H1 T1' H1' → Ltr ρ n fz H' ρ1 n1 H1' → Q e T1' H1') : AWp P N (.region id ops.toArray true) Q T' H' := by
  unfold tryPlan at h
  generalize (uniIn (match ap with | true => uniGo (anc ops) ops 0 false 0 | false => [])) = uni at h
  split at h
  · rename_i hk
    split at h
    · rename_i x0 H0
      split at h
      · rename_i V W ho
        cases h
        obtain ⟨B, G, g0, hG, hcons⟩ := hbase H0 rfl
        exact AWp.draw2 (id := id) hL hm ordOf_get hk (evPlan_ok hL hE (retC_ok hc) g0 hcons _ c (fun _ _ => rfl) (Nat.le_refl _) (fun _ => ⟨⟨G, hG⟩, fun i h0 h1 => absurd h0 (by omega)⟩) ho k
          (fun d => match get V d with | some x => ren ρ x | none => default) (fun d => match getW W d with | some (m, b) => (m.on, renB ρ b) | none => (fun _ => .nilp, .map [])) (fun d x hx => by simp only [hx]) (fun d m b hx => by simp only [hx]))
      · cases h
    · cases h
  · cases h
theorem evDrawn_ok {id : Nat} (hL : LayOk P L) (hm : P.follows .mixedOrders = true) (hE : ExtOk P E) (hM : ExtMOk P M) (hc : CallFOk P call) {ops : List Oper} {Q : Exit → Env → Heap → Prop} {e : Exit} {T1 : Tre A} {H1 : Tre Blk} {n1 : Nat}
    (c : Cfg ρ n lo fz T H T' H') (h : evDrawn P E M N.n L call lo ops T H n = some (e, T1, H1, n1)) (k : ∀ ρ1 T1' H1', Cfg ρ1 n1 lo fz T1 H1 T1' H1' → Ltr ρ n fz H' ρ1 n1 H1' → Q e T1' H1') : AWp P N (.region id ops.toArray true) Q T' H' := by
  unfold evDrawn at h
  split at h
  · rename_i hp
    cases h
    exact tryPlan_ok hL hm hE hM hc c (fun H0 hb => by cases hb; exact ⟨H', [], c.g, List.Perm.refl _, fun i _ hi => by cases hi⟩) hp k
  · split at h
    · split at h
      · exact tryPlan_ok hL hm hE hM hc c (fun H0 hb => by
          obtain ⟨B, G, h1, h2, h3⟩ := baseC_ok c.g hb
          exact ⟨B, G, h1, h2, fun i _ hi => h3 i (memN_mem hi)⟩) h k
      · cases h
    · have hh : ∀ hv pre xl, evHeavy P E M N.n L call lo hv ops pre xl T H n = some (e, T1, H1, n1) → AWp P N (.region id ops.toArray true) Q T' H' := by
        intro hv pre xl h
        unfold evHeavy at h
        split at h
        · exact tryPlan_ok hL hm hE hM hc c (fun H0 hb => by cases hb; exact base_filt c.g _ consP_ok) h k
        · cases h
      split at h
      · rename_i hp
        cases h
        exact hh _ _ _ hp
      · split at h
        · rename_i hp
          cases h
          exact hh _ _ _ hp
        · exact hh _ _ _ h
variable {fuel : Nat}
theorem evCodeF_ok (hL : LayOk P L) (hm : P.follows .mixedOrders = true) (hE : ExtOk P E) (hM : ExtMOk P M) (hc : CallFOk P call) : ∀ (c : Code) {Q : Exit → Env → Heap → Prop} {ρ : Nat → Nat} {n : Nat} {T : Tre A} {H : Tre Blk} {T' : Env} {H' : Heap} {e : Exit} {T1 : Tre A} {H1 : Tre Blk} {n1 : Nat},
    Cfg ρ n lo fz T H T' H' → evCodeF P E M N.n L call lo fuel c T H n = some (e, T1, H1, n1) →
    (∀ ρ1 T1' H1', Cfg ρ1 n1 lo fz T1 H1 T1' H1' → Ltr ρ n fz H' ρ1 n1 H1' → Q e T1' H1') → AWp P N c Q T' H'
  | .skip, Q, ρ, n, T, H, T', H', e, T1, H1, n1, c, h, k => by
    simp only [evCodeF] at h; cases h; exact AWp.skip (k _ _ _ c (Ltr.refl ..))
  | .label l, Q, ρ, n, T, H, T', H', e, T1, H1, n1, c, h, k => by
    simp only [evCodeF] at h; cases h; exact AWp.label (k _ _ _ c (Ltr.refl ..))
  | .exit id, Q, ρ, n, T, H, T', H', e, T1, H1, n1, c, h, k => by
    simp only [evCodeF] at h; cases h; exact AWp.exit (k _ _ _ c (Ltr.refl ..))
  | .ret, Q, ρ, n, T, H, T', H', e, T1, H1, n1, c, h, k => by
    simp only [evCodeF] at h; cases h; exact AWp.ret (k _ _ _ c (Ltr.refl ..))
  | .seq a b, Q, ρ, n, T, H, T', H', e, T1, H1, n1, c, h, k => by
    simp only [evCodeF] at h
    refine AWp.seq ?_
    split at h
    · rename_i T2 H2 n2 ha
      refine evCodeF_ok hL hm hE hM hc a c ha fun ρ1 T1' H1' c1 l1 => seqQ_n ?_
      exact evCodeF_ok hL hm hE hM hc b c1 h fun ρ2 T2' H2' c2 l2 => k _ _ _ c2 (l1.trans l2)
    · rename_i hne
      refine evCodeF_ok hL hm hE hM hc a c h fun ρ1 T1' H1' c1 l1 => ?_
      have hq := k ρ1 T1' H1' c1 l1
      cases e with
      | normal => exact absurd h (hne T1 H1 n1)
      | _ => exact hq
  | .cond x a b, Q, ρ, n, T, H, T', H', e, T1, H1, n1, c, h, k => by
    simp only [evCodeF] at h
    split at h
    · rename_i hx
      have hx := c.r.ev hx
      simp only [ren] at hx
      exact AWp.condT hx (evCodeF_ok hL hm hE hM hc a c h k)
    · rename_i hx
      have hx := c.r.ev hx
      simp only [ren] at hx
      exact AWp.condF hx (evCodeF_ok hL hm hE hM hc b c h k)
    · cases h
  | .block id a, Q, ρ, n, T, H, T', H', e, T1, H1, n1, c, h, k => by
    simp only [evCodeF] at h
    refine AWp.block ?_
    split at h
    · rename_i id' T2 H2 n2 ha
      refine evCodeF_ok hL hm hE hM hc a c ha fun ρ1 T1' H1' c1 l1 => ?_
      split at h
      · rename_i hb
        cases h
        exact blockQ_e hb (k _ _ _ c1 l1)
      · rename_i hb
        cases h
        exact blockQ_o hb (k _ _ _ c1 l1)
    · rename_i hne
      refine evCodeF_ok hL hm hE hM hc a c h fun ρ1 T1' H1' c1 l1 => ?_
      have hq := k ρ1 T1' H1' c1 l1
      cases e with
      | exit id' => exact absurd h (hne id' T1 H1 n1)
      | _ => exact hq
  | .loop a, Q, ρ, n, T, H, T', H', e, T1, H1, n1, c, h, k => by
    simp only [evCodeF] at h
    exact AIn.toRound (evLoop_ok (fun c h k => evCodeF_ok hL hm hE hM hc a c h k) fuel c h k)
  | .region id ops false, Q, ρ, n, T, H, T', H', e, T1, H1, n1, c, h, k => by
    simp only [evCodeF] at h
    have := AWp.region (id := id) (evOpsF_ok hL hE hM hc ops.toList c h k)
    simpa using this
  | .region id ops true, Q, ρ, n, T, H, T', H', e, T1, H1, n1, c, h, k => by
    simp only [evCodeF] at h
    have := evDrawn_ok (id := id) hL hm hE hM hc c h k
    simpa using this
  | .rangeFunc .., Q, ρ, n, T, H, T', H', e, T1, H1, n1, c, h, k => by simp [evCodeF] at h
  | .scope .., Q, ρ, n, T, H, T', H', e, T1, H1, n1, c, h, k => by simp [evCodeF] at h
  | .goto .., Q, ρ, n, T, H, T', H', e, T1, H1, n1, c, h, k => by simp [evCodeF] at h
  | .refuse .., Q, ρ, n, T, H, T', H', e, T1, H1, n1, c, h, k => by simp [evCodeF] at h
end
end Go.Abs

namespace Go.Abs
open Go
set_option linter.unusedVariables false
set_option linter.unusedSimpArgs false
/-! A function with one deferred closure, which may recover. -/
section
variable {P : Program} {N : NN} {T : Env} {H : Heap}
/-- The temps and what they hold, and what is deferred: nothing, or one call. -/
structure StD (n : Nat) (w : World) (o : Nat → Prop) (T : Env) (D : Option (FuncId × List A)) (a : Act) : Prop where
  size : a.tmps.size = n
  at_ : ∀ t x, get T t = some x → ∃ v, a.tmps[t]? = some v ∧ Rep w o x v
  none : D = none → a.defers = []
  some : ∀ f as, D = some (f, as) → ∃ cap args : Array Value, a.defers = [{ target := .fn (.func f) cap, args := args }] ∧ RepL w o as (args.toList ++ cap.toList)
structure DWp (P : Program) (n : Nat) (c : Code) (Q : Option (FuncId × List A) → Exit → Env → Heap → Prop) (T : Env) (H : Heap) : Prop where
  out : ∀ (fr : Nat → Prop) (w : World) (a : Act), Sim fr H w → St ⟨n, [], []⟩ w (own fr H) T a → c.wp P (fun e a' w' => ∃ D T' H', Q D e T' H' ∧ Sim fr H' w' ∧ StD n w' (own fr H') T' D a' ∧ Ext H w H' w') a w
variable {n : Nat} {Q : Option (FuncId × List A) → Exit → Env → Heap → Prop}
theorem St.toD {w : World} {o : Nat → Prop} {a : Act} (h : St ⟨n, [], []⟩ w o T a) : StD n w o T .none a := ⟨h.size, h.at_, fun _ => h.defers, fun f as e => by cases e⟩
theorem DWp.plain {c : Code} (h : AWp P ⟨n, [], []⟩ c (fun e T H => Q .none e T H) T H) : DWp P n c Q T H :=
  ⟨fun fr w a s st => wp_mono (h.out fr w a s st) fun e a' w' ⟨T', H', q, s', st', x'⟩ => ⟨.none, T', H', q, s', st'.toD, x'⟩⟩
def seqD (P : Program) (n : Nat) (y : Code) (Q : Option (FuncId × List A) → Exit → Env → Heap → Prop) : Exit → Env → Heap → Prop
  | .normal, T, H => DWp P n y Q T H
  | e, T, H => Q .none e T H
theorem DWp.seq {x y : Code} (h : AWp P ⟨n, [], []⟩ x (seqD P n y Q) T H) : DWp P n (.seq x y) Q T H := by
  refine ⟨fun fr w a s st => wp_seq (wp_mono (h.out fr w a s st) ?_)⟩
  rintro e a' w' ⟨T', H', q, s', st', x'⟩
  cases e with
  | normal =>
    refine wp_mono (q.out fr w' a' s' st') ?_
    rintro e a2 w2 ⟨D, T2, H2, q2, s2, st2, x2⟩
    exact ⟨D, T2, H2, q2, s2, st2, x'.trans x2⟩
  | _ => exact ⟨.none, T', H', q, s', st'.toD, x'⟩
theorem DWp.defer {y : Code} {id t f : Nat} {caps : List Operand} {ats : Array TypeId} {ty ty' : TypeId} {pos pos' : String} {after after' : Array Edge} {cs : List A} (hc : evs T caps = some cs) (hd : Nat.blt t n = true)
    (k : ∀ d, AWp P ⟨n, [d], []⟩ y (fun e T H => Q (some (f, cs)) e T H) ((t, .fn f [] cs) :: T) H) :
    DWp P n (.seq (.region id #[{ dst := some t, op := .makeFunc (.func f) #[] caps.toArray, type := ty, pos := pos, after := after, guard := .none }, { dst := .none, op := .defer { callee := .value (.tmp t), args := #[], argTypes := ats }, type := ty', pos := pos', after := after', guard := .none }] false) y) Q T H := by
  refine ⟨fun fr w a s st => wp_seq ?_⟩
  refine wp_region_lit (l := [_, _]) ?_
  have hr := evs_rep st hc
  have hlt : t < a.tmps.size := by rw [st.size]; simpa [Nat.blt_eq] using hd
  have hfv : Rep w (own fr H) (.fn f [] cs) (.func (.func f) #[] (caps.map a.eval).toArray) := Rep.fn_of (us := []) .nil hr
  unfold wpList
  rw [if_pos (by simp [Region.wanted])]
  left
  unfold Oper.wp execOp
  simp only [Instr.makeFunc, Sem.run_bind, Sem.run_pure, Result.andThen_ok, Oper.upon_value, List.map_toArray, List.map_nil]
  unfold wpList
  rw [if_pos (by simp [Region.wanted])]
  left
  have hev : (a.put (some t) (.func (.func f) #[] (caps.map a.eval).toArray)).eval (.tmp t) = .func (.func f) #[] (caps.map a.eval).toArray := by
    simp [Act.put, Act.eval, Array.getD, hlt]
  unfold Oper.wp execOp
  simp only [resolve, hev, Deferred.ofValue, Sem.run_bind, Sem.run_pure, Result.andThen_ok, Oper.upon_defer]
  unfold wpList
  generalize hd1 : ({ target := .fn (.func f) (caps.map a.eval).toArray, args := #[] ++ #[] } : Deferred) = d
  have hd2 : ({ target := .fn (.func f) (caps.map a.eval).toArray, args := #[] ++ Array.map (a.put (some t) (.func (.func f) #[] (caps.map a.eval).toArray)).eval #[] } : Deferred) = d := by rw [← hd1]; simp
  rw [hd2]
  have hst1 := st.put (d := some t) (x := .fn f [] cs) (by simpa [dstOk] using hd) hfv
  have hst : St ⟨n, [d], []⟩ w (own fr H) ((t, .fn f [] cs) :: T) (({ (a.put (some t) (.func (.func f) #[] (caps.map a.eval).toArray)) with defers := d :: (a.put (some t) (.func (.func f) #[] (caps.map a.eval).toArray)).defers } : Act).put .none undef) := by
    refine ⟨?_, ?_, GOk.nil, ?_⟩
    · simpa [Act.put] using hst1.size
    · have := hst1.defers
      simp only [Act.put] at this ⊢
      rw [this]
    · intro u x hx
      obtain ⟨v, h1, h2⟩ := hst1.at_ u x hx
      exact ⟨v, by simpa [Act.put] using h1, h2⟩
  refine wp_mono ((k d).out fr w _ s hst) ?_
  rintro e a' w' ⟨T', H', q, s', st', x'⟩
  refine ⟨_, T', H', q, s', ⟨st'.size, st'.at_, (fun e => by cases e), fun f2 as e => ?_⟩, x'⟩
  cases e
  refine ⟨_, _, by rw [st'.defers, ← hd1], ?_⟩
  have := hr.mono x'.stays
  simpa using this
/-- A deferred call. -/
structure TrD (P : Program) (f : FuncId) (args : List A) (H : Heap) (u : FrameMode) (R : FrameMode → Heap → Prop) : Prop where
  can : Callable P f
  run : ∀ (fr : Nat → Prop) (w : World) (vs : List Value), Sim fr H w → RepL w (own fr H) args vs →
    CallsD P f vs.toArray u w fun e u' w' => ∃ v H', e = .returned v ∧ R u' H' ∧ Sim fr H' w' ∧ Ext H w H' w'
def bodyQD (P : Program) (fn : Func) (n : Nat) (R : Fin → Heap → Prop) : Option (FuncId × List A) → Exit → Env → Heap → Prop
  | .none, e, T, H => bodyQF P fn ⟨n, [], []⟩ R e T H
  | some (f, as), .ret, T, H | some (f, as), .normal, T, H => ∃ R', TrD P f as H .returning R' ∧ ∀ u' H', R' u' H' → settle u' = .returning ∧ ∃ r, ResOk P fn ⟨n, [], []⟩ T H' r ∧ R (.ret r) H'
  | some (f, as), .panic ch, T, H => ∃ R', TrD P f as H (.panicking ch) R' ∧ ∀ u' H', R' u' H' → settle u' = .returning ∧ ∃ r, ResOk P fn ⟨n, [], []⟩ T H' r ∧ R (.ret r) H'
  | some _, _, _, _ => False
theorem TrF.of_bodyD {f : FuncId} {fn : Func} {c : Code} {args : List A} {R : Fin → Heap → Prop} (hf : P.funcs[f]? = some fn) (hb : fn.body = some c) (hn : (fn.name == "runtime.NumGoroutine") = false)
    (hN : args.length + (fn.ntmps - args.length) = n) (h : DWp P n c (bodyQD P fn n R) (argEnv 0 args) H) : TrF P f args H R := by
  refine ⟨⟨fn, hf, by simp [hb], hn⟩, fun fr w vs s as => ?_⟩
  refine calls_of_wp_defers hf hb (wp_mono (h.out fr w _ s (args_st hN as)) ?_)
  rintro e a w' ⟨D, T', H', q, s', st', x'⟩
  have hdef : ∀ {u : FrameMode} {R' : FrameMode → Heap → Prop} {g : FuncId} {as : List A}, u ≠ .run → D = some (g, as) → TrD P g as H' u R' → (∀ u' H'', R' u' H'' → settle u' = .returning ∧ ∃ r, ResOk P fn ⟨n, [], []⟩ T' H'' r ∧ R (.ret r) H'') →
      Leaves P fn a.tmps (fun e w' => ∃ x H', R x H' ∧ FinOk w' (own fr H') x e ∧ Sim fr H' w' ∧ Ext H w H' w') a.defers u w' := by
    intro u R' g as hu hD ht hR
    obtain ⟨cap, dargs, hde, hrep⟩ := st'.some g as hD
    rw [hde]
    refine leaves_cons (f := g) (args := dargs ++ cap) hu ?_ ?_
    · simp only [invoke, run_callFunc ht.can]
    · have := ht.run fr w' _ s' hrep
      have e2 : (dargs.toList ++ cap.toList).toArray = dargs ++ cap := by simp
      rw [e2] at this
      refine this.mono ?_
      rintro e u' w'' ⟨v, H'', rfl, hR', s'', x''⟩
      obtain ⟨hs, r, hr, hRr⟩ := hR u' H'' hR'
      show Leaves P fn a.tmps _ [] (settle u') w''
      rw [hs]
      have hst : St ⟨n, [], []⟩ w'' (own fr H'') T' { a with defers := [] } := ⟨st'.size, rfl, GOk.nil, fun t x hx => let ⟨v, h1, h2⟩ := st'.at_ t x hx; ⟨v, h1, h2.mono x''.stays⟩⟩
      obtain ⟨v2, h1, h2⟩ := hr fr w'' _ s'' hst
      exact ⟨v2, h1, .ret r, H'', hRr, ⟨v2, rfl, h2⟩, s'', x'.trans x''⟩
  have hstn : D = .none → St ⟨n, [], []⟩ w' (own fr H') T' a := fun hD => ⟨st'.size, st'.none hD, GOk.nil, st'.at_⟩
  cases D with
  | none =>
    have st'' := hstn rfl
    cases e with
    | normal =>
      obtain ⟨r, hr, hR⟩ := q
      obtain ⟨v, h1, h2⟩ := hr fr w' a s' st''
      show Leaves P fn a.tmps _ a.defers .returning w'
      rw [st''.defers]
      exact ⟨v, h1, .ret r, H', hR, ⟨v, rfl, h2⟩, s', x'⟩
    | ret =>
      obtain ⟨r, hr, hR⟩ := q
      obtain ⟨v, h1, h2⟩ := hr fr w' a s' st''
      show Leaves P fn a.tmps _ a.defers .returning w'
      rw [st''.defers]
      exact ⟨v, h1, .ret r, H', hR, ⟨v, rfl, h2⟩, s', x'⟩
    | panic ch =>
      obtain ⟨u, rfl, hR⟩ := q
      show Leaves P fn a.tmps _ a.defers _ w'
      rw [st''.defers]
      exact ⟨.pan u, H', hR, rfl, s', x'⟩
    | _ => exact q.elim
  | some p =>
    obtain ⟨g, as⟩ := p
    cases e with
    | normal => obtain ⟨R', h1, h2⟩ := q; exact hdef (by simp) rfl h1 h2
    | ret => obtain ⟨R', h1, h2⟩ := q; exact hdef (by simp) rfl h1 h2
    | panic ch => obtain ⟨R', h1, h2⟩ := q; exact hdef (by simp) rfl h1 h2
    | _ => exact q.elim
end
end Go.Abs

namespace Go.Abs
open Go
set_option linter.unusedVariables false
set_option linter.unusedSimpArgs false
/-! A deferred closure that asks first what is recovered. -/
def recU : FrameMode → Option (Value × FrameMode)
  | .panicking ({ v, recovered := false, goexit := false } :: older) => some (v, .panicking ({ v, recovered := true } :: older))
  | _ => none
theorem recoverD_u {c : Frame} {cs : List Frame} {u : FrameMode} (h : c.mode = u) : recoverD (c :: cs) = (recU u).map fun p => (p.1, { c with mode := p.2 } :: cs) := by
  subst h
  unfold recoverD recU
  simp only
  split
  · rename_i he; rw [he]; rfl
  · rename_i hne
    split
    · rename_i he; exact absurd he (hne _ _)
    · rfl
def recBody (id t t' : Nat) (ty ty' : TypeId) (pos pos' : String) (after after' : Array Edge) (ats : Array TypeId) (rest : Code) : Code :=
  .seq (.region id #[{ dst := some t, op := .call { callee := .builtin .recover, args := #[], argTypes := ats }, type := ty, pos := pos, after := after, guard := none }, { dst := some t', op := .assign (.tmp t), type := ty', pos := pos', after := after', guard := none }] false) rest
def bodyQR (P : Program) (fn : Func) (n : Nat) (u' : FrameMode) (R : FrameMode → Heap → Prop) : Exit → Env → Heap → Prop
  | .ret, T, H | .normal, T, H => (∃ r, ResOk P fn ⟨n, [], []⟩ T H r) ∧ R u' H
  | _, _, _ => False
theorem TrD.of_recover {P : Program} {n f : Nat} {fn : Func} {args : List A} {H : Heap} {u u' : FrameMode} {R : FrameMode → Heap → Prop} {id t t' : Nat} {ty ty' : TypeId} {pos pos' : String} {after after' : Array Edge} {ats : Array TypeId} {rest : Code} {x : A}
    (hf : P.funcs[f]? = some fn) (hb : fn.body = some (recBody id t t' ty ty' pos pos' after after' ats rest)) (hn : (fn.name == "runtime.NumGoroutine") = false) (hN : args.length + (fn.ntmps - args.length) = n)
    (ht : Nat.blt t n = true) (ht' : Nat.blt t' n = true)
    (hx : (∃ v, recU u = some (v, u') ∧ ∀ w o, Rep w o x v) ∨ (recU u = none ∧ u' = u ∧ x = .nili))
    (h : AWp P ⟨n, [], []⟩ rest (bodyQR P fn n u' R) ((t', x) :: (t, x) :: argEnv 0 args) H) : TrD P f args H u R := by
  refine ⟨⟨fn, hf, by simp [hb], hn⟩, fun fr w vs s as => callsD_of_wpS hf hb fun c₀ cs hm => ?_⟩
  have st0 := args_st (fn := fn) hN as
  generalize ha : ({ tmps := vs.toArray ++ Array.replicate (fn.ntmps - vs.toArray.size) undef, defers := [] } : Act) = a at st0 ⊢
  unfold recBody
  refine wpS_seq (wpS_region ?_)
  obtain ⟨v, cs', hrec, hrv, hcs'⟩ : ∃ v cs', (match recoverD (c₀ :: cs) with | some (v, cs') => (v, cs') | none => (.nilIface, c₀ :: cs)) = (v, cs') ∧ (∀ w o, Rep w o x v) ∧ cs' = { c₀ with mode := u' } :: cs := by
    rw [recoverD_u hm]
    rcases hx with ⟨v, h1, h2⟩ | ⟨h1, h2, h3⟩
    · rw [h1]; exact ⟨v, _, rfl, h2, rfl⟩
    · subst h2; subst h3
      rw [h1]
      refine ⟨.nilIface, _, rfl, fun w o => .nili, ?_⟩
      subst hm; rfl
  have hsz : (#[{ dst := some t, op := .call { callee := .builtin .recover, args := #[], argTypes := ats }, type := ty, pos := pos, after := after, guard := none }, { dst := some t', op := .assign (.tmp t), type := ty', pos := pos', after := after', guard := none }] : Array Oper).size = 2 := rfl
  rw [hsz, show List.range 2 = [0, 1] from rfl]
  have st1 := st0.put (d := some t) (x := x) (by simpa [dstOk] using ht) (hrv w (own fr H))
  have hev : (a.put (some t) v).eval (.tmp t) = v := by
    have hlt : t < a.tmps.size := by rw [st0.size]; simpa [Nat.blt_eq] using ht
    simp [Act.put, Act.eval, Array.getD, hlt]
  have st2 := st1.put (d := some t') (x := x) (by simpa [dstOk] using ht') (hrv w (own fr H))
  have key : ∀ cs2, cs2 = cs' → wpOpsS P #[{ dst := some t, op := .call { callee := .builtin .recover, args := #[], argTypes := ats }, type := ty, pos := pos, after := after, guard := none }, { dst := some t', op := .assign (.tmp t), type := ty', pos := pos', after := after', guard := none }] (Exit.thenS (rest.wpS P (bodyPostS P fn c₀ cs fun e u' w' => ∃ v H', e = .returned v ∧ R u' H' ∧ Sim fr H' w' ∧ Ext H w H' w')) (bodyPostS P fn c₀ cs fun e u' w' => ∃ v H', e = .returned v ∧ R u' H' ∧ Sim fr H' w' ∧ Ext H w H' w')) [1] (a.put (some t) v) cs2 w := by
    rintro cs2 rfl
    unfold wpOpsS
    simp only [List.getElem?_toArray, List.getElem?_cons_succ, List.getElem?_cons_zero]
    rw [if_pos (by simp [Region.wanted])]
    simp only [execOp, hev, Sem.run_pure, Oper.upon_value]
    unfold wpOpsS
    show rest.wpS P _ _ cs2 w
    refine wpS_of_wp (wp_mono (h.out fr w _ s st2) ?_)
    rintro e a' w' ⟨T', H', q, s', st', x'⟩
    cases e with
    | normal =>
      obtain ⟨⟨r, hr⟩, hR⟩ := q
      obtain ⟨v2, h1, h2⟩ := hr fr w' a' s' st'
      exact ⟨st'.defers, u', hcs', v2, h1, v2, H', rfl, hR, s', x'⟩
    | ret =>
      obtain ⟨⟨r, hr⟩, hR⟩ := q
      obtain ⟨v2, h1, h2⟩ := hr fr w' a' s' st'
      exact ⟨st'.defers, u', hcs', v2, h1, v2, H', rfl, hR, s', x'⟩
    | _ => exact q.elim
  unfold wpOpsS
  simp only [List.getElem?_toArray, List.getElem?_cons_zero]
  rw [if_pos (by simp [Region.wanted])]
  simp only [execOp, resolve, invoke, builtin, Sem.run_bind, Sem.run_pure, Result.andThen_ok]
  split
  · rename_i v' cs2 hrd
    rw [hrd] at hrec
    simp only [Prod.mk.injEq] at hrec
    obtain ⟨rfl, rfl⟩ := hrec
    exact key _ rfl
  · rename_i hrd
    rw [hrd] at hrec
    simp only [Prod.mk.injEq] at hrec
    obtain ⟨rfl, rfl⟩ := hrec
    exact key _ rfl
/-- What a value that is no more than numbers and texts means. -/
def ofVal : Value → Option A
  | .iface t (.agg cs) => match ofVals cs.toList with
    | some l => some (.iface t (.agg l))
    | none => none
  | .iface t v => match ofConst v with
    | some x => some (.iface t x)
    | none => none
  | _ => none
where ofVals : List Value → Option (List A)
  | [] => some []
  | v :: l => match ofConst v, ofVals l with
    | some x, some xs => some (x :: xs)
    | _, _ => none
theorem ofVals_rep {w : World} {o : Nat → Prop} : ∀ {l : List Value} {xs : List A}, ofVal.ofVals l = some xs → RepL w o xs l
  | [], xs, h => by simp only [ofVal.ofVals] at h; cases h; exact .nil
  | v :: l, xs, h => by
    simp only [ofVal.ofVals] at h
    split at h
    · rename_i x ys h1 h2
      cases h
      exact .cons (ofConst_rep h1) (ofVals_rep h2)
    · cases h
theorem ofVals_scope {ρ : Nat → Nat} : ∀ {l : List Value} {xs : List A}, ofVal.ofVals l = some xs → scopeL 0 xs = true
  | [], xs, h => by simp only [ofVal.ofVals] at h; cases h; rfl
  | v :: l, xs, h => by
    simp only [ofVal.ofVals] at h
    split at h
    · rename_i x ys h1 h2
      cases h
      simp only [scopeL, ofConst_scope h1, ofVals_scope (ρ := ρ) h2, Bool.and_self]
    · cases h
theorem ofVal_rep {w : World} {o : Nat → Prop} {v : Value} {x : A} (h : ofVal v = some x) : Rep w o x v := by
  unfold ofVal at h
  split at h
  · rename_i t cs
    split at h
    · rename_i l hl
      cases h
      have := Rep.agg_of (ofVals_rep (w := w) (o := o) hl)
      exact .iface _ _ _ this
    · cases h
  · split at h
    · rename_i x hx
      cases h
      exact .iface _ _ _ (ofConst_rep hx)
    · cases h
  · cases h
theorem ofVal_scope {v : Value} {x : A} (h : ofVal v = some x) : scope 0 x = true := by
  unfold ofVal at h
  split at h
  · split at h
    · rename_i l hl
      cases h
      simp only [scope]; exact ofVals_scope (ρ := id) hl
    · cases h
  · split at h
    · rename_i x hx
      cases h
      simp only [scope]; exact ofConst_scope hx
    · cases h
  · cases h
end Go.Abs

namespace Go.Abs
open Go
set_option linter.unusedVariables false
set_option linter.unusedSimpArgs false
/-! The evaluator, of functions that may panic, defer and recover. -/
def deferX : Code → Option (Nat × FuncId × List Operand)
  | .region _ ops false => match ops.toList with
    | [⟨some t, .makeFunc (.func f) ⟨[]⟩ ⟨caps⟩, _, _, _, none⟩, ⟨none, .defer { callee := .value (.tmp t'), args := ⟨[]⟩, argTypes := _ }, _, _, _, none⟩] => match Nat.beq t t' with
      | true => some (t, f, caps)
      | false => none
    | _ => none
  | _ => none
def recX : Code → Option (Nat × Nat × Code)
  | .seq (.region _ ops false) rest => match ops.toList with
    | [⟨some t, .call { callee := .builtin .recover, args := ⟨[]⟩, argTypes := _ }, _, _, _, none⟩, ⟨some t', .assign (.tmp t2), _, _, _, none⟩] => match Nat.beq t t2 with
      | true => some (t, t', rest)
      | false => none
    | _ => none
  | _ => none
def evD (P : Program) (E : Exts) (M : ExtsM) (N : Nat) (L : Lay) (call : CallF) (lo : Nat → Bool) (fuel : Nat) : Code → Tre A → Tre Blk → Nat → Option (Option (FuncId × List A) × Exit × Tre A × Tre Blk × Nat)
  | .seq x y, T, H, n => match deferX x with
    | some (t, f, caps) => match evsC T caps, Nat.blt t N with
      | some cs, true => match evCodeF P E M N L call lo fuel y (putC (some t) (.fn f [] cs) T) H n with
        | some (e, T1, H1, n1) => some (some (f, cs), e, T1, H1, n1)
        | none => none
      | _, _ => none
    | none => match evCodeF P E M N L call lo fuel x T H n with
      | some (.normal, T1, H1, n1) => evD P E M N L call lo fuel y T1 H1 n1
      | some (e, T1, H1, n1) => some (none, e, T1, H1, n1)
      | none => none
  | c, T, H, n => match evCodeF P E M N L call lo fuel c T H n with
    | some (e, T1, H1, n1) => some (none, e, T1, H1, n1)
    | none => none
def outOf : Exit → Option FrameMode
  | .ret | .normal => some .returning
  | .panic ch => some (.panicking ch)
  | _ => none
def isRet : FrameMode → Bool
  | .returning => true
  | _ => false
def recA (u : FrameMode) : Option (A × FrameMode) := match recU u with
  | some (v, u') => match ofVal v with
    | some x => some (x, u')
    | none => none
  | none => some (.nili, u)
/-- A deferred closure's run. -/
def evRec (P : Program) (E : Exts) (M : ExtsM) (L : Lay) (call : CallF) (lo : Nat → Bool) (fuel : Nat) (f : FuncId) (args : List A) (u : FrameMode) (H : Tre Blk) (n : Nat) : Option (FrameMode × Tre Blk × Nat) := match P.funcs[f]? with
  | some fn => match fn.body with
    | some c => match fn.name == "runtime.NumGoroutine", recX c, recA u with
      | false, some (t, t', rest), some (x, u') => match Nat.blt t (args.length + (fn.ntmps - args.length)), Nat.blt t' (args.length + (fn.ntmps - args.length)) with
        | true, true => match evCodeF P E M (args.length + (fn.ntmps - args.length)) L call lo fuel rest (putC (some t') x (putC (some t) x (argsC 0 args))) H n with
          | some (e, T1, H1, n1) => match outOf e with
            | some .returning => match resC L T1 H1 fn.results.toList with
              | some _ => some (u', H1, n1)
              | none => none
            | _ => none
          | none => none
        | _, _ => none
      | _, _, _ => none
    | none => none
  | none => none
def panOf : Exit → Option Value
  | .panic [{ v := u, recovered := false, goexit := false }] => some u
  | _ => none
def evFnF (P : Program) (E : Exts) (M : ExtsM) (L : Lay) (fuel : Nat) : Nat → CallF
  | 0, _, _, _, _, _ => none
  | k + 1, lo, f, args, H, n => match P.funcs[f]? with
    | some fn => match fn.body with
      | some c => match fn.name == "runtime.NumGoroutine" with
        | false => match evD P E M (args.length + (fn.ntmps - args.length)) L (evFnF P E M L fuel k) lo fuel c (argsC 0 args) H n with
          | some (none, e, T1, H1, n1) => match outOf e with
            | some .returning => match resC L T1 H1 fn.results.toList with
              | some v => match scope n1 v with
                | true => some (.ret v, H1, n1)
                | false => none
              | none => none
            | _ => match panOf e with
              | some u => some (.pan u, H1, n1)
              | none => none
          | some (some (g, as), e, T1, H1, n1) => match outOf e with
            | some u => match evRec P E M L (evFnF P E M L fuel k) lo fuel g as u H1 n1 with
              | some (u', H2, n2) => match isRet (settle u') with
                | true => match resC L T1 H2 fn.results.toList with
                  | some v => match scope n2 v with
                    | true => some (.ret v, H2, n2)
                    | false => none
                  | none => none
                | false => none
              | none => none
            | none => none
          | none => none
        | true => none
      | none => none
    | none => none
section
variable {P : Program} {E : Exts} {M : ExtsM} {L : Lay} {call : CallF} {lo : Nat → Bool} {fuel : Nat} {fz : Nat → Prop}
theorem deferX_ok {x : Code} {t f : Nat} {caps : List Operand} (h : deferX x = some (t, f, caps)) : ∃ (id : Nat) (ty ty' : TypeId) (pos pos' : String) (after after' : Array Edge) (ats : Array TypeId),
    x = .region id #[{ dst := some t, op := .makeFunc (.func f) #[] caps.toArray, type := ty, pos := pos, after := after, guard := none }, { dst := none, op := .defer { callee := .value (.tmp t), args := #[], argTypes := ats }, type := ty', pos := pos', after := after', guard := none }] false := by
  unfold deferX at h
  split at h
  · rename_i id ops
    split at h
    · rename_i t1 f1 caps1 ty pos after t2 ats ty' pos' after' hl
      split at h
      · rename_i he
        have he := Nat.eq_of_beq_eq_true he
        subst he
        cases h
        refine ⟨id, ty, ty', pos, pos', after, after', ats, ?_⟩
        congr 1
        exact Array.toList_inj.1 (by rw [hl])
      · cases h
    · cases h
  · cases h
theorem recX_ok {c : Code} {t t' : Nat} {rest : Code} (h : recX c = some (t, t', rest)) : ∃ (id : Nat) (ty ty' : TypeId) (pos pos' : String) (after after' : Array Edge) (ats : Array TypeId), c = recBody id t t' ty ty' pos pos' after after' ats rest := by
  unfold recX at h
  split at h
  · rename_i id ops rest1
    split at h
    · rename_i t1 ats ty pos after t2 t3 ty' pos' after' hl
      split at h
      · rename_i he
        have he := Nat.eq_of_beq_eq_true he
        subst he
        cases h
        refine ⟨id, ty, ty', pos, pos', after, after', ats, ?_⟩
        unfold recBody
        congr 2
        exact Array.toList_inj.1 (by rw [hl])
      · cases h
    · cases h
  · cases h
theorem outOf_ret {e : Exit} (h : outOf e = some .returning) : e = .ret ∨ e = .normal := by
  cases e <;> simp [outOf] at h <;> simp
theorem outOf_cases {e : Exit} {u : FrameMode} (h : outOf e = some u) : ((e = .ret ∨ e = .normal) ∧ u = .returning) ∨ ∃ ch, e = .panic ch ∧ u = .panicking ch := by
  cases e <;> simp [outOf] at h <;> subst h <;> simp
theorem evD_ok {n0 : Nat} (hL : LayOk P L) (hm : P.follows .mixedOrders = true) (hE : ExtOk P E) (hM : ExtMOk P M) (hc : CallFOk P call) : ∀ (c : Code) {Q : Option (FuncId × List A) → Exit → Env → Heap → Prop} {ρ : Nat → Nat} {n : Nat} {T : Tre A} {H : Tre Blk} {T' : Env} {H' : Heap} {D : Option (FuncId × List A)} {e : Exit} {T1 : Tre A} {H1 : Tre Blk} {n1 : Nat},
    Cfg ρ n lo fz T H T' H' → evD P E M n0 L call lo fuel c T H n = some (D, e, T1, H1, n1) →
    (∀ ρ1 T1' H1', Cfg ρ1 n1 lo fz T1 H1 T1' H1' → Ltr ρ n fz H' ρ1 n1 H1' → (∀ f as, D = some (f, as) → scopeL n1 as = true) → Q (D.map fun p => (p.1, renL ρ1 p.2)) e T1' H1') → DWp P n0 c Q T' H' := by
  have plain : ∀ (c : Code) {Q : Option (FuncId × List A) → Exit → Env → Heap → Prop} {ρ : Nat → Nat} {n : Nat} {T : Tre A} {H : Tre Blk} {T' : Env} {H' : Heap} {D : Option (FuncId × List A)} {e : Exit} {T1 : Tre A} {H1 : Tre Blk} {n1 : Nat},
      Cfg ρ n lo fz T H T' H' → (match evCodeF P E M n0 L call lo fuel c T H n with | some (e, T1, H1, n1) => some (none, e, T1, H1, n1) | none => none) = some (D, e, T1, H1, n1) →
      (∀ ρ1 T1' H1', Cfg ρ1 n1 lo fz T1 H1 T1' H1' → Ltr ρ n fz H' ρ1 n1 H1' → (∀ f as, D = some (f, as) → scopeL n1 as = true) → Q (D.map fun p => (p.1, renL ρ1 p.2)) e T1' H1') → DWp P n0 c Q T' H' := by
    intro c Q ρ n T H T' H' D e T1 H1 n1 cf h k
    split at h
    · rename_i hcode
      cases h
      exact DWp.plain (evCodeF_ok (N := ⟨n0, [], []⟩) hL hm hE hM hc c cf hcode fun ρ1 T1' H1' c1 l1 => k ρ1 T1' H1' c1 l1 (fun f as e => by cases e))
    · cases h
  intro c
  induction c with
  | seq x y _ ihy =>
    intro Q ρ n T H T' H' D e T1 H1 n1 cf h k
    simp only [evD] at h
    split at h
    · rename_i t f caps hd
      obtain ⟨id, ty, ty', pos, pos', after, after', ats, rfl⟩ := deferX_ok hd
      split at h
      · rename_i cs hcs hlt
        split at h
        · rename_i hcode
          cases h
          have hev := cf.r.evs hcs
          have hsc := cf.s.evs hcs
          have c1 : Cfg ρ n lo fz (putC (some t) (.fn f [] cs) T) H ((t, .fn f [] (renL ρ cs)) :: T') H' := by
            refine ⟨?_, cf.s.put _ (by simp only [scope, scopeL, hsc, Bool.and_self]), cf.g⟩
            have := cf.r.put (some t) (.fn f [] cs)
            simpa only [ren, renL, put] using this
          refine DWp.defer hev hlt fun d => evCodeF_ok (N := ⟨n0, [d], []⟩) hL hm hE hM hc y c1 hcode fun ρ1 T1' H1' c2 l2 => ?_
          have := k ρ1 T1' H1' c2 l2 (fun f2 as e => by cases e; exact (by
            have := hsc
            exact scopeL_mono l2.le _ this))
          simp only [Option.map_some] at this
          rw [renL_congr l2.agree cs hsc] at this
          exact this
        · cases h
      · cases h
    · rename_i hnd
      split at h
      · rename_i hx
        refine DWp.seq (evCodeF_ok (N := ⟨n0, [], []⟩) hL hm hE hM hc x cf hx fun ρ1 T1' H1' c1 l1 => ?_)
        exact ihy c1 h fun ρ2 T2' H2' c2 l2 hs => k ρ2 T2' H2' c2 (l1.trans l2) hs
      · rename_i e2 _ _ _ hne hx
        cases h
        refine DWp.seq (evCodeF_ok (N := ⟨n0, [], []⟩) hL hm hE hM hc x cf hx fun ρ1 T1' H1' c1 l1 => ?_)
        have := k ρ1 T1' H1' c1 l1 (fun f as e => by cases e)
        cases e with
        | normal => exact absurd hx (by intro hx'; exact (hne rfl))
        | _ => exact this
      · cases h
  | _ => intro Q ρ n T H T' H' D e T1 H1 n1 cf h k; exact plain _ cf h k
theorem recA_ok {u u' : FrameMode} {x : A} (h : recA u = some (x, u')) : ((∃ v, recU u = some (v, u') ∧ ∀ w o, Rep w o x v) ∨ (recU u = none ∧ u' = u ∧ x = .nili)) ∧ scope 0 x = true := by
  unfold recA at h
  split at h
  · rename_i v u1 hu
    split at h
    · rename_i y hy
      cases h
      exact ⟨.inl ⟨v, hu, fun w o => ofVal_rep hy⟩, ofVal_scope hy⟩
    · cases h
  · rename_i hu
    cases h
    exact ⟨.inr ⟨hu, rfl, rfl⟩, rfl⟩
theorem evRec_ok (hL : LayOk P L) (hm : P.follows .mixedOrders = true) (hE : ExtOk P E) (hM : ExtMOk P M) (hc : CallFOk P call) {f : FuncId} {args : List A} {u u' : FrameMode} {H : Tre Blk} {n : Nat} {H1 : Tre Blk} {n1 : Nat} {ρ : Nat → Nat} {H' : Heap}
    (h : evRec P E M L call lo fuel f args u H n = some (u', H1, n1)) (hs : scopeL n args = true) (g : Good ρ n lo fz H H') : TrD P f (renL ρ args) H' u fun u2 H1' => u2 = u' ∧ ∃ ρ1, Good ρ1 n1 lo fz H1 H1' ∧ Ltr ρ n fz H' ρ1 n1 H1' := by
  unfold evRec at h
  split at h
  · rename_i fn hf
    split at h
    · rename_i c hb
      split at h
      · rename_i t t' rest x u1 hn hrx hra
        obtain ⟨id, ty, ty', pos, pos', after, after', ats, rfl⟩ := recX_ok hrx
        obtain ⟨hx, hxs⟩ := recA_ok hra
        split at h
        · rename_i ht ht'
          split at h
          · rename_i e T1 H2 n2 hcode
            split at h
            · rename_i ho
              split at h
              · rename_i v hv
                cases h
                refine TrD.of_recover (n := args.length + (fn.ntmps - args.length)) hf hb hn (by rw [renL_len]) ht ht' hx ?_
                have c0 : Cfg ρ n lo fz (putC (some t') x (putC (some t) x (argsC 0 args))) H ((t', x) :: (t, x) :: argEnv 0 (renL ρ args)) H' := by
                  have r0 : EnvR ρ (argsC 0 args) (argEnv 0 (renL ρ args)) := fun t x hx => argsC_ok hx
                  have s0 : EnvS n (argsC 0 args) := fun t x hx => argsC_scope hs hx
                  have hx' := scope_mono (Nat.zero_le n) x hxs
                  refine ⟨?_, (s0.put _ hx').put _ hx', g⟩
                  have := (r0.put (some t) x).put (some t') x
                  rw [ren_closed ρ hxs] at this
                  exact this
                refine evCodeF_ok (N := ⟨args.length + (fn.ntmps - args.length), [], []⟩) hL hm hE hM hc rest c0 hcode fun ρ1 T1' H1' c1 l1 => ?_
                have hr := resC_ok (N := ⟨args.length + (fn.ntmps - args.length), [], []⟩) hL c1 hv
                rcases outOf_ret ho with rfl | rfl
                · exact ⟨⟨_, hr⟩, rfl, ρ1, c1.g, l1⟩
                · exact ⟨⟨_, hr⟩, rfl, ρ1, c1.g, l1⟩
              · cases h
            · cases h
          · cases h
        · cases h
      · cases h
    · cases h
  · cases h
theorem evFnF_ok (hL : LayOk P L) (hm : P.follows .mixedOrders = true) (hE : ExtOk P E) (hM : ExtMOk P M) : ∀ k, CallFOk P (evFnF P E M L fuel k)
  | 0 => fun lo f args H n x H1 n1 h => by simp [evFnF] at h
  | k + 1 => fun lo f args H n x H1 n1 h ρ fz H' sa g => by
    have hcall := evFnF_ok hL hm hE hM k
    simp only [evFnF] at h
    split at h
    · rename_i fn hf
      split at h
      · rename_i c hb
        split at h
        · rename_i hn
          have c0 : Cfg ρ n lo fz (argsC 0 args) H (argEnv 0 (renL ρ args)) H' := ⟨fun t x hx => argsC_ok hx, fun t x hx => argsC_scope sa hx, g⟩
          refine TrF.of_bodyD (n := args.length + (fn.ntmps - args.length)) hf hb hn (by rw [renL_len]) ?_
          split at h
          · rename_i e T2 H2 n2 hcode
            refine evD_ok hL hm hE hM hcall c c0 hcode fun ρ1 T1' H1' c1 l1 _ => ?_
            simp only [Option.map_none]
            split at h
            · rename_i ho
              split at h
              · rename_i v' hv
                split at h
                · rename_i hs
                  cases h
                  rcases outOf_ret ho with rfl | rfl
                  · exact ⟨_, resC_ok hL c1 hv, _, rfl, ρ1, rfl, hs, c1.g, l1⟩
                  · exact ⟨_, resC_ok hL c1 hv, _, rfl, ρ1, rfl, hs, c1.g, l1⟩
                · cases h
              · cases h
            · split at h
              · rename_i u hu
                cases h
                unfold panOf at hu
                split at hu
                · cases hu
                  exact ⟨_, rfl, rfl, ρ1, c1.g, l1⟩
                · cases hu
              · cases h
          · rename_i g1 as e T2 H2 n2 hcode
            refine evD_ok hL hm hE hM hcall c c0 hcode fun ρ1 T1' H1' c1 l1 hsc => ?_
            simp only [Option.map_some]
            have hsc := hsc _ _ rfl
            split at h
            · rename_i u hu
              split at h
              · rename_i u' H3 n3 hrec
                split at h
                · rename_i hret
                  have hset : settle u' = .returning := by
                    cases hq : settle u' <;> simp [hq, isRet] at hret ⊢
                  split at h
                  · rename_i v hv
                    split at h
                    · rename_i hs
                      cases h
                      have htd := evRec_ok (fz := fz) hL hm hE hM hcall hrec hsc c1.g
                      have fin : ∀ u2 H3', (u2 = u' ∧ ∃ ρ2, Good ρ2 n1 lo fz H1 H3' ∧ Ltr ρ1 n2 fz H1' ρ2 n1 H3') → settle u2 = .returning ∧ ∃ r, ResOk P fn ⟨args.length + (fn.ntmps - args.length), [], []⟩ T1' H3' r ∧ OutF ρ n lo fz H' (.ret v) H1 n1 (.ret r) H3' := by
                        rintro u2 H3' ⟨rfl, ρ2, hg, hl⟩
                        refine ⟨hset, ren ρ2 v, resC_ok hL ⟨c1.r.later c1.s hl.agree, c1.s.mono hl.le, hg⟩ hv, _, rfl, ρ2, rfl, hs, hg, l1.trans hl⟩
                      rcases outOf_cases hu with ⟨rfl | rfl, rfl⟩ | ⟨ch, rfl, rfl⟩
                      · exact ⟨_, htd, fin⟩
                      · exact ⟨_, htd, fin⟩
                      · exact ⟨_, htd, fin⟩
                    · cases h
                  · cases h
                · cases h
              · cases h
            · cases h
          · cases h
        · cases h
      · cases h
    · cases h
/-- A run with nothing unknown: what the evaluator says holds. -/
theorem PTr.runF (hL : LayOk P L) (hm : P.follows .mixedOrders = true) (hE : ExtOk P E) (hM : ExtMOk P M) (k : Nat) {f : FuncId} {v : A} (hv : scope 0 v = true) (h : (match evFnF P E M L fuel k (fun _ => true) f [] .leaf 0 with | some (.ret v, _, _) => some v | _ => none) = some v) : PTr P f [] v := by
  split at h
  · rename_i v' H1 n1 he
    cases h
    have g : Good id 0 (fun _ => true) (fun _ => False) .leaf [] := ⟨fun i b h => by simp [Tre.get] at h, fun i j b c h => by simp [Tre.get] at h, List.nodup_nil, fun i h => absurd h (Nat.not_lt_zero i), fun _ _ => rfl, fun k h => h.elim⟩
    refine (TrF.toTr (R := Out id 0 (fun _ => true) (fun _ => False) [] v H1 n1) (evFnF_ok hL hm hE hM k (fun _ => true) f [] .leaf 0 _ H1 n1 he id (fun _ => False) [] rfl g)).mono ?_
    rintro r H' ⟨ρ1, rfl, _, _, _⟩
    exact ren_closed ρ1 hv
  · cases h
end
end Go.Abs

namespace Go.Abs
open Go
/-- The evaluator, at arguments that are closed. -/
theorem PTr.runA {P : Program} {E : Exts} {M : ExtsM} {L : Lay} {fuel : Nat} (hL : LayOk P L) (hm : P.follows .mixedOrders = true) (hE : ExtOk P E) (hM : ExtMOk P M) (k : Nat) {f : FuncId} {args : List A} {v : A} (ha : scopeL 0 args = true) (hv : scope 0 v = true)
    (h : (match evFnF P E M L fuel k (fun _ => true) f args .leaf 0 with | some (.ret v, _, _) => some v | _ => none) = some v) : PTr P f args v := by
  split at h
  · rename_i v' H1 n1 he
    cases h
    have g : Good id 0 (fun _ => true) (fun _ => False) .leaf [] := ⟨fun i b h => by simp [Tre.get] at h, fun i j b c h => by simp [Tre.get] at h, List.nodup_nil, fun i h => absurd h (Nat.not_lt_zero i), fun _ _ => rfl, fun k h => h.elim⟩
    have ht := evFnF_ok hL hm hE hM k (fun _ => true) f args .leaf 0 _ H1 n1 he id (fun _ => False) [] ha g
    rw [renL_closed id ha] at ht
    refine (TrF.toTr (R := Out id 0 (fun _ => true) (fun _ => False) [] v H1 n1) ht).mono ?_
    rintro r H' ⟨ρ1, rfl, _, _, _⟩
    exact ren_closed ρ1 hv
  · cases h
end Go.Abs

namespace Go.Abs
open Go
set_option linter.unusedVariables false
set_option linter.unusedSimpArgs false
/-! Boxes that nobody writes any more. -/
theorem Ext.fresh (H : Heap) (w : World) (o : Obj) : Ext H w H (w.alloc o) where
  os := rfl
  tape := rfl
  output := rfl
  size := by simp
  same k hk _ := heap_old w o k hk
  keys k hk := .inl hk
  shape k hk c T f h := by rw [heap_old w o k hk] at h; exact ⟨c, f, h, rfl⟩
theorem Sim.fresh {fr : Nat → Prop} {H : Heap} {w : World} (s : Sim fr H w) (o : Obj) : Sim fr H (w.alloc o) where
  nodup := s.nodup
  apart := s.apart
  old k h := by have := s.old k h; simp; omega
  ok p hp := by
    have h := s.ok p hp
    exact h.mono (Ext.fresh H w o).stays (heap_old w o _ h.lt)
section
variable {P : Program} {N : NN} {Q : Exit → Env → Heap → Prop} {T : Env} {H : Heap} {ops rest : List Oper} {L : Lay} {ty : TypeId} {pos : String} {after : Array Edge} {guard : Option (Nat × Bool)}
/-- A box whose content stays as it is. -/
theorem AOp.boxD (d : Nat) {t : TypeId} {x : Operand} {v : A} {cells : List A} (hx : ev T x = some v) (hc : v.cells = cells) (hv : v.leaf = true ∨ ∃ l, v = .agg l) (hd : dstOk N (some d) = true)
    (k : AOps P N ops rest Q (put (some d) (.dp cells) T) H) :
    AOp P N ops { dst := some d, op := .box t x, type := ty, pos := pos, after := after, guard := guard } rest Q T H := by
  subst hc
  refine AOp.sem (R := fun v' H' => v' = .dp v.cells ∧ H' = H) (fun fr w act s st => ?_) hd ?_
  · have hr := (ev_rep st hx).cells hv
    have x' := Ext.fresh H w (.cells (act.eval x).cells t)
    refine ⟨w.alloc (.cells (act.eval x).cells t), _, .pointer (some ⟨w.heap.size, 0, none⟩), _, .inl ?_, ⟨rfl, rfl⟩, s.fresh _, ?_, x'⟩
    · simp only [execOp, Instr.box, newVar, newRow, Sem.run_bind, run_newObj, Result.andThen_ok, Sem.run_pure]; rfl
    · refine Rep.dp_of (hr.mono x'.stays) (fun j u hu => ?_) (fun h => ?_)
      · rw [add_plain]
        simp only [World.cell?, heap_alloc_new]
        simpa using hu
      · rcases h with h | h
        · exact (own_new s).2 h
        · exact (own_new s).1 h
  · rintro v' H' ⟨rfl, rfl⟩
    exact k
/-- What a value is once a block is told by what it holds. -/
def Fz (r sz : Nat) (cells : List A) (x x' : A) : Prop := ∀ (fr : Nat → Prop) (Te : Nat) (Hr : Heap) (w : World) (v : Value), Sim fr ((r, .row Te sz [cells]) :: Hr) w → Rep w (own fr ((r, .row Te sz [cells]) :: Hr)) x v → Rep w (own fr Hr) x' v
theorem Fz.same (r sz : Nat) (cells : List A) (x : A) : Fz r sz cells x x := fun fr Te Hr w v s h => h.mono (Stays.less fun _ h => h.imp id (List.mem_cons_of_mem _))
theorem Fz.ptr (r sz : Nat) (cells : List A) : Fz r sz cells (.ptr r sz 0 0) (.dp cells) := fun fr Te Hr w v s h => by
  have hst : Stays w (own fr ((r, .row Te sz [cells]) :: Hr)) w (own fr Hr) := Stays.less fun _ h => h.imp id (List.mem_cons_of_mem _)
  cases h
  obtain ⟨vs, h1, h2, _, _⟩ := s.elem (i := 0) (e := cells) List.mem_cons_self rfl
  refine Rep.dp_of (h1.mono hst) ?_ fun h => ?_
  · simpa using h2
  · rcases h with h | h
    · exact s.apart r List.mem_cons_self h
    · exact (List.nodup_cons.1 (show (r :: keys Hr).Nodup from s.nodup)).1 h
inductive FzL (r sz : Nat) (cells : List A) : List A → List A → Prop
  | nil : FzL r sz cells [] []
  | cons {x y : A} {l m : List A} (h : Fz r sz cells x y) (t : FzL r sz cells l m) : FzL r sz cells (x :: l) (y :: m)
theorem FzL.rep {r sz : Nat} {cells : List A} {fr : Nat → Prop} {Te : Nat} {Hr : Heap} {w : World} (s : Sim fr ((r, .row Te sz [cells]) :: Hr) w) : ∀ {l m : List A} {vs : List Value}, FzL r sz cells l m → RepL w (own fr ((r, .row Te sz [cells]) :: Hr)) l vs → RepL w (own fr Hr) m vs
  | _, _, _, .nil, h => by cases h; exact .nil
  | _, _, _, .cons h t, k => by cases k with | cons k1 k2 => exact .cons (h _ _ _ _ _ s k1) (FzL.rep s t k2)
theorem Fz.fn {r sz : Nat} {cells : List A} {f : FuncId} {l m : List A} (h : FzL r sz cells l m) : Fz r sz cells (.fn f [] l) (.fn f [] m) := fun fr Te Hr w v s k => by
  obtain ⟨fs, cs, rfl, h1, h2⟩ := k.fn_inv
  have := Rep.fn_of (f := f) (h1.mono (Stays.less fun _ h => h.imp id (List.mem_cons_of_mem _)) : RepL w (own fr Hr) [] fs.toList) (h.rep s h2)
  simpa using this
/-- A block leaves the heap; one slot told anew. -/
theorem AWp.freezeF {c : Code} (t : Nat) {r Te sz : Nat} {cells : List A} {Hr : Heap} {x x' : A} (hx : get T t = some x) (hp : H.Perm ((r, .row Te sz [cells]) :: Hr)) (hz : Fz r sz cells x x') (k : AWp P N c Q ((t, x') :: T) Hr) : AWp P N c Q T H := by
  refine AWp.perm hp ⟨fun fr w a s st => ?_⟩
  have hst : Stays w (own fr ((r, .row Te sz [cells]) :: Hr)) w (own fr Hr) := Stays.less fun _ h => h.imp id (List.mem_cons_of_mem _)
  have st' : St N w (own fr Hr) ((t, x') :: T) a := ⟨st.size, st.defers, st.glob.mono hst, fun u y hy => by
    rw [get_put] at hy
    by_cases htu : t = u
    · subst htu
      rw [if_pos rfl] at hy
      cases hy
      obtain ⟨v, h1, h2⟩ := st.at_ t x hx
      exact ⟨v, h1, hz _ _ _ _ _ s h2⟩
    · rw [if_neg htu] at hy
      obtain ⟨v, h1, h2⟩ := st.at_ u y hy
      exact ⟨v, h1, h2.mono hst⟩⟩
  refine wp_mono (k.out fr w a s.drop st') ?_
  rintro e a' w' ⟨T', H'', q, s', st', x'⟩
  exact ⟨T', H'', q, s', st', x'.drop⟩
theorem AOps.freezeF (t : Nat) {r Te sz : Nat} {cells : List A} {Hr : Heap} {x x' : A} (hx : get T t = some x) (hp : H.Perm ((r, .row Te sz [cells]) :: Hr)) (hz : Fz r sz cells x x') (k : AOps P N ops rest Q ((t, x') :: T) Hr) : AOps P N ops rest Q T H := by
  refine AOps.perm hp ⟨fun fr w a s st => ?_⟩
  have hst : Stays w (own fr ((r, .row Te sz [cells]) :: Hr)) w (own fr Hr) := Stays.less fun _ h => h.imp id (List.mem_cons_of_mem _)
  have st' : St N w (own fr Hr) ((t, x') :: T) a := ⟨st.size, st.defers, st.glob.mono hst, fun u y hy => by
    rw [get_put] at hy
    by_cases htu : t = u
    · subst htu
      rw [if_pos rfl] at hy
      cases hy
      obtain ⟨v, h1, h2⟩ := st.at_ t x hx
      exact ⟨v, h1, hz _ _ _ _ _ s h2⟩
    · rw [if_neg htu] at hy
      obtain ⟨v, h1, h2⟩ := st.at_ u y hy
      exact ⟨v, h1, h2.mono hst⟩⟩
  refine wpList_mono ?_ _ _ _ (k.out fr w a s.drop st')
  rintro e a' w' ⟨T', H'', q, s', st', x'⟩
  exact ⟨T', H'', q, s', st', x'.drop⟩
/-- A block out of a heap. -/
inductive Del : Heap → Nat → Blk → Heap → Prop
  | here {r : Nat} {b : Blk} {H : Heap} : Del ((r, b) :: H) r b H
  | there {r : Nat} {b : Blk} {p : Nat × Blk} {H H' : Heap} (h : Del H r b H') : Del (p :: H) r b (p :: H')
theorem Del.perm {H H' : Heap} {r : Nat} {b : Blk} (h : Del H r b H') : H.Perm ((r, b) :: H') := by
  induction h with
  | here => exact .refl _
  | there _ ih => exact (ih.cons _).trans (.swap _ _ _)
/-- A value that can be called, and what the call does. -/
def CallT (G : List (Nat × List A)) (P : Program) (v : A) (args : List A) (H : Heap) (R : A → Heap → Prop) : Prop := ∃ f first cap, v = .fn f first cap ∧ TrG G P f (first ++ args ++ cap) H R
theorem AOp.callV {dst : Option Nat} {callee : Operand} {l : List Operand} {ats : Array TypeId} {v : A} {as : List A} {Hc F : Heap} {R : A → Heap → Prop} (hf : ev T callee = some v) (ha : evs T l = some as) (hd : dstOk N dst = true)
    (hH : H.Perm (Hc ++ F)) (ht : CallT N.g P v as Hc R) (k : ∀ r H', R r H' → AOps P N ops rest Q (put dst r T) (H' ++ F)) :
    AOp P N ops { dst := dst, op := .call { callee := .value callee, args := l.toArray, argTypes := ats }, type := ty, pos := pos, after := after, guard := guard } rest Q T H := by
  obtain ⟨f, first, cap, rfl, h⟩ := ht
  exact AOp.callG hf ha hd hH h k
theorem AOp.callH {dst : Option Nat} {callee : Operand} {l : List Operand} {ats : Array TypeId} {f : FuncId} {first cap as : List A} {R : A → Heap → Prop} (hf : ev T callee = some (.fn f first cap)) (ha : evs T l = some as) (hd : dstOk N dst = true)
    (ht : TrG N.g P f (first ++ as ++ cap) H R) (k : ∀ r H', R r H' → AOps P N ops rest Q (put dst r T) H') :
    AOp P N ops { dst := dst, op := .call { callee := .value callee, args := l.toArray, argTypes := ats }, type := ty, pos := pos, after := after, guard := guard } rest Q T H :=
  AOp.callG (F := []) hf ha hd (by rw [List.append_nil]) ht fun r H' h => by rw [List.append_nil]; exact k r H' h
theorem AOp.callB {dst : Option Nat} {callee : Operand} {l : List Operand} {ats : Array TypeId} {f : FuncId} {first cap as : List A} {Hx Hc : Heap} {R : A → Heap → Prop} (hf : ev T callee = some (.fn f first cap)) (ha : evs T l = some as) (hd : dstOk N dst = true)
    (hH : H = Hx ++ Hc) (ht : TrG N.g P f (first ++ as ++ cap) Hc R) (k : ∀ r H', R r H' → AOps P N ops rest Q (put dst r T) (H' ++ Hx)) :
    AOp P N ops { dst := dst, op := .call { callee := .value callee, args := l.toArray, argTypes := ats }, type := ty, pos := pos, after := after, guard := guard } rest Q T H :=
  AOp.callG (F := Hx) hf ha hd (by rw [hH]; exact List.perm_append_comm) ht k
/-- A call beside blocks that it does not know. -/
theorem AOp.callK (Hx : Heap) {dst : Option Nat} {callee : Operand} {l : List Operand} {ats : Array TypeId} {f : FuncId} {first cap as : List A} {Hc : Heap} {R : A → Heap → Prop} (hf : ev T callee = some (.fn f first cap)) (ha : evs T l = some as) (hd : dstOk N dst = true)
    (hH : H = Hx ++ Hc) (ht : TrG N.g P f (first ++ as ++ cap) Hc R) (k : ∀ r H', R r H' → AOps P N ops rest Q (put dst r T) (Hx ++ H')) :
    AOp P N ops { dst := dst, op := .call { callee := .value callee, args := l.toArray, argTypes := ats }, type := ty, pos := pos, after := after, guard := guard } rest Q T H :=
  AOp.callB hf ha hd hH ht fun r H' h => AOps.perm List.perm_append_comm (k r H' h)
end
end Go.Abs

namespace Go.Abs.Flex
open Go Go.Abs
set_option linter.unusedVariables false
set_option linter.unusedSimpArgs false
/-! Drawn regions, the classes of their operations told by hand: 0 reckons alone; 1 reads memory; 2 writes or makes memory; 3 makes memory that nobody writes, whatever the rest does. -/
def compat (K : Oper → Nat) (x y : Oper) : Bool := match K x, K y with
  | 3, _ | _, 3 => true
  | 2, 0 | 0, 2 | 0, 0 | 0, 1 | 1, 0 | 1, 1 => true
  | _, _ => false
def chk (K : Oper → Nat) (ops : List Oper) : Bool :=
  let b := anc ops
  Region.noSelect ops.toArray &&
  ops.zipIdx.all fun (o, i) =>
    (o.after.toList.all fun e => match Region.binds .any e with | true => Nat.blt e.on i | false => true) &&
    (ops.take i).zipIdx.all fun (x, j) => (b.getD i 0).testBit j || (x.apart ops.toArray o && compat K x o)
/-- The text's order, each step told. -/
def Plan (P : Program) (N : NN) (L : Lay) (K : Oper → Nat) (bv : Nat → A) (ops : Array Oper) (Q : Env → Heap → Prop) : List Oper → Env → Heap → Prop
  | [], T, H => ∃ T0, (∀ t x, get T0 t = some x → get T t = some x) ∧ Q T0 H
  | o :: rest, T, H => dstOk N o.dst = true ∧
      ((wantA ops (restr T (o.looksAt ops)) o = some true ∧ ∃ v, sOpX P L (restr T (o.looksAt ops)) o.op = some v ∧ Plan P N L K bv ops Q rest (put o.dst v T) H) ∨
       (wantA ops (restr T (o.looksAt ops)) o = some false ∧ Plan P N L K bv ops Q rest (put o.dst (.tup []) T) H) ∨
       ((K o = 1 ∨ K o = 2) ∧ wantA ops (restr T (o.looksAt ops)) o = some true ∧ ∃ v, AOp P N [] o [] (Qn o (restr T (o.looksAt ops)) fun r H' => r = v ∧ H' = H) (restr T (o.looksAt ops)) H ∧ Plan P N L K bv ops Q rest (put o.dst v T) H) ∨
       (K o = 2 ∧ wantA ops (restr T (o.looksAt ops)) o = some true ∧ ∃ R, ((∃ v H', R v H') ∧ AOp P N [] o [] (Qn o (restr T (o.looksAt ops)) R) (restr T (o.looksAt ops)) H) ∧ ∀ v H', R v H' → Plan P N L K bv ops Q rest (put o.dst v T) H') ∨
       ((K o = 3 ∧ sOpX P L (restr T (o.looksAt ops)) o.op = none) ∧ wantA ops (restr T (o.looksAt ops)) o = some true ∧ ∃ v, o.dst.map bv = some v ∧ (∀ H, AOp P N [] o [] (Qn o (restr T (o.looksAt ops)) fun r H' => r = v ∧ H' = H) (restr T (o.looksAt ops)) H) ∧ Plan P N L K bv ops Q rest (put o.dst v T) H))
section
variable {P : Program} {N : NN} {L : Lay} {K : Oper → Nat} {bv : Nat → A} {ops : Array Oper} {Q : Env → Heap → Prop}
theorem Plan.cong : ∀ {l : List Oper} {T T' : Env} {H : Heap}, (∀ t, get T t = get T' t) → Plan P N L K bv ops Q l T H → Plan P N L K bv ops Q l T' H
  | [], T, T', H, he, ⟨T0, h1, h2⟩ => ⟨T0, fun t x h => by rw [← he]; exact h1 t x h, h2⟩
  | o :: rest, T, T', H, he, ⟨hd, h⟩ => by
    have hr : restr T (o.looksAt ops) = restr T' (o.looksAt ops) := restr_congr _ fun t _ => he t
    have hp : ∀ v t, get (put o.dst v T) t = get (put o.dst v T') t := by
      intro v t
      cases o.dst with
      | none => exact he t
      | some d => simp only [put, get_put, he t]
    refine ⟨hd, ?_⟩
    rw [hr] at h
    rcases h with ⟨h1, v, h2, h3⟩ | ⟨h1, h3⟩ | ⟨h0, h1, v, h2, h3⟩ | ⟨h0, h1, R, h2, h3⟩ | ⟨h0, h1, v, hb, h2, h3⟩
    · exact .inl ⟨h1, v, h2, h3.cong (hp v)⟩
    · exact .inr (.inl ⟨h1, h3.cong (hp _)⟩)
    · exact .inr (.inr (.inl ⟨h0, h1, v, h2, h3.cong (hp v)⟩))
    · exact .inr (.inr (.inr (.inl ⟨h0, h1, R, h2, fun v H' hR => (h3 v H' hR).cong (hp v)⟩)))
    · exact .inr (.inr (.inr (.inr ⟨h0, h1, v, hb, h2, h3.cong (hp v)⟩)))
theorem compat_eff {x o : Oper} (hc : compat K x o = true) : (K x = 2 → K o = 0 ∨ K o = 3) ∧ (K o = 2 → K x = 0 ∨ K x = 3) := by
  unfold compat at hc
  refine ⟨fun h => ?_, fun h => ?_⟩
  · rw [h] at hc
    match ho : K o with
    | 0 => exact .inl rfl
    | 1 => rw [ho] at hc; cases hc
    | 2 => rw [ho] at hc; cases hc
    | 3 => exact .inr rfl
    | n + 4 => rw [ho] at hc; cases hc
  · rw [h] at hc
    match ho : K x with
    | 0 => exact .inl rfl
    | 1 => rw [ho] at hc; cases hc
    | 2 => rw [ho] at hc; cases hc
    | 3 => exact .inr rfl
    | n + 4 => rw [ho] at hc; cases hc
theorem Plan.swap {x o : Oper} {r : List Oper} {T : Env} {H : Heap} (ha : x.apart ops o = true) (hc : compat K x o = true) (h : Plan P N L K bv ops Q (x :: o :: r) T H) : Plan P N L K bv ops Q (o :: x :: r) T H := by
  obtain ⟨h1, h2, h3⟩ := Oper.apart_spec ha
  have r1 : ∀ v, restr (put x.dst v T) (o.looksAt ops) = restr T (o.looksAt ops) := fun v => restr_put h1
  have r2 : ∀ v, restr (put o.dst v T) (x.looksAt ops) = restr T (x.looksAt ops) := fun v => restr_put h3
  have sw : ∀ u v t, get (put o.dst v (put x.dst u T)) t = get (put x.dst u (put o.dst v T)) t := fun u v t => put_swap h2 t
  obtain ⟨hd, h⟩ := h
  obtain ⟨hcx, hco⟩ := compat_eff hc
  rcases h with ⟨w1, u, e1, hd2, h⟩ | ⟨w1, hd2, h⟩ | ⟨c1, w1, u, e1, hd2, h⟩ | ⟨c1, w1, R, e1, h⟩ | ⟨c1, w1, u, hbu, e1, hd2, h⟩
  · rw [r1 u] at h
    have q : ∀ {v : A} {H' : Heap}, Plan P N L K bv ops Q r (put o.dst v (put x.dst u T)) H' → Plan P N L K bv ops Q (x :: r) (put o.dst v T) H' := fun k => ⟨hd, .inl ⟨by rw [r2]; exact w1, u, by rw [r2]; exact e1, k.cong (sw u _)⟩⟩
    rcases h with ⟨w2, v, e2, k⟩ | ⟨w2, k⟩ | ⟨c2, w2, v, e2, k⟩ | ⟨c2, w2, R, e2, k⟩ | ⟨c2, w2, v, hbv, e2, k⟩
    · exact ⟨hd2, .inl ⟨w2, v, e2, q k⟩⟩
    · exact ⟨hd2, .inr (.inl ⟨w2, q k⟩)⟩
    · exact ⟨hd2, .inr (.inr (.inl ⟨c2, w2, v, e2, q k⟩))⟩
    · exact ⟨hd2, .inr (.inr (.inr (.inl ⟨c2, w2, R, e2, fun v H' hR => q (k v H' hR)⟩)))⟩
    · exact ⟨hd2, .inr (.inr (.inr (.inr ⟨c2, w2, v, hbv, e2, q k⟩)))⟩
  · rw [r1] at h
    have q : ∀ {v : A} {H' : Heap}, Plan P N L K bv ops Q r (put o.dst v (put x.dst (.tup []) T)) H' → Plan P N L K bv ops Q (x :: r) (put o.dst v T) H' := fun k => ⟨hd, .inr (.inl ⟨by rw [r2]; exact w1, k.cong (sw _ _)⟩)⟩
    rcases h with ⟨w2, v, e2, k⟩ | ⟨w2, k⟩ | ⟨c2, w2, v, e2, k⟩ | ⟨c2, w2, R, e2, k⟩ | ⟨c2, w2, v, hbv, e2, k⟩
    · exact ⟨hd2, .inl ⟨w2, v, e2, q k⟩⟩
    · exact ⟨hd2, .inr (.inl ⟨w2, q k⟩)⟩
    · exact ⟨hd2, .inr (.inr (.inl ⟨c2, w2, v, e2, q k⟩))⟩
    · exact ⟨hd2, .inr (.inr (.inr (.inl ⟨c2, w2, R, e2, fun v H' hR => q (k v H' hR)⟩)))⟩
    · exact ⟨hd2, .inr (.inr (.inr (.inr ⟨c2, w2, v, hbv, e2, q k⟩)))⟩
  · rw [r1 u] at h
    have q : ∀ {v : A}, Plan P N L K bv ops Q r (put o.dst v (put x.dst u T)) H → Plan P N L K bv ops Q (x :: r) (put o.dst v T) H := fun k => ⟨hd, .inr (.inr (.inl ⟨c1, by rw [r2]; exact w1, u, by rw [r2]; exact e1, k.cong (sw u _)⟩))⟩
    rcases h with ⟨w2, v, e2, k⟩ | ⟨w2, k⟩ | ⟨c2, w2, v, e2, k⟩ | ⟨c2, w2, R, e2, k⟩ | ⟨c2, w2, v, hbv, e2, k⟩
    · exact ⟨hd2, .inl ⟨w2, v, e2, q k⟩⟩
    · exact ⟨hd2, .inr (.inl ⟨w2, q k⟩)⟩
    · exact ⟨hd2, .inr (.inr (.inl ⟨c2, w2, v, e2, q k⟩))⟩
    · have := hco c2; omega
    · exact ⟨hd2, .inr (.inr (.inr (.inr ⟨c2, w2, v, hbv, e2, q k⟩)))⟩
  · have ho := hcx c1
    have putx : ∀ {v : A}, (∀ v1 H1, R v1 H1 → Plan P N L K bv ops Q r (put o.dst v (put x.dst v1 T)) H1) → Plan P N L K bv ops Q (x :: r) (put o.dst v T) H := fun k =>
      ⟨hd, .inr (.inr (.inr (.inl ⟨c1, by rw [r2]; exact w1, R, ⟨e1.1, by rw [r2]; exact e1.2⟩, fun v H' hR => (k v H' hR).cong (sw v _)⟩)))⟩
    obtain ⟨v0, H0, hR0⟩ := e1.1
    have hdo := (h v0 H0 hR0).1
    have key : ∀ v H', R v H' → (wantA ops (restr T (o.looksAt ops)) o = some true ∧ ∃ u, sOpX P L (restr T (o.looksAt ops)) o.op = some u ∧ Plan P N L K bv ops Q r (put o.dst u (put x.dst v T)) H') ∨
        (wantA ops (restr T (o.looksAt ops)) o = some false ∧ Plan P N L K bv ops Q r (put o.dst (.tup []) (put x.dst v T)) H') ∨
        ((K o = 3 ∧ sOpX P L (restr T (o.looksAt ops)) o.op = none) ∧ wantA ops (restr T (o.looksAt ops)) o = some true ∧ ∃ u, o.dst.map bv = some u ∧ (∀ H, AOp P N [] o [] (Qn o (restr T (o.looksAt ops)) fun r H' => r = u ∧ H' = H) (restr T (o.looksAt ops)) H) ∧ Plan P N L K bv ops Q r (put o.dst u (put x.dst v T)) H') := by
      intro v H' hR
      obtain ⟨_, k⟩ := h v H' hR
      rw [r1 v] at k
      rcases k with k | k | ⟨c2, _⟩ | ⟨c2, _⟩ | k
      · exact .inl k
      · exact .inr (.inl k)
      · omega
      · omega
      · exact .inr (.inr k)
    by_cases hw : wantA ops (restr T (o.looksAt ops)) o = some false
    · refine ⟨hdo, .inr (.inl ⟨hw, putx fun v H' hR => ?_⟩)⟩
      rcases key v H' hR with ⟨w2, _⟩ | ⟨_, k⟩ | ⟨_, w2, _⟩
      · rw [hw] at w2; cases w2
      · exact k
      · rw [hw] at w2; cases w2
    by_cases hs : ∃ u, sOpX P L (restr T (o.looksAt ops)) o.op = some u
    · obtain ⟨u, hu⟩ := hs
      refine ⟨hdo, .inl ⟨?_, u, hu, putx fun v H' hR => ?_⟩⟩
      · rcases key v0 H0 hR0 with ⟨w2, _⟩ | ⟨w2, _⟩ | ⟨_, w2, _⟩
        · exact w2
        · exact absurd w2 hw
        · exact w2
      · rcases key v H' hR with ⟨w2, u', e2', k⟩ | ⟨w2, _⟩ | ⟨⟨_, c3⟩, _⟩
        · rw [hu] at e2'; cases e2'; exact k
        · exact absurd w2 hw
        · rw [hu] at c3; cases c3
    · refine ⟨hdo, .inr (.inr (.inr (.inr ?_)))⟩
      rcases key v0 H0 hR0 with ⟨w2, u, e2, _⟩ | ⟨w2, _⟩ | ⟨c3, w2, u, hb, e3, _⟩
      · exact absurd ⟨u, e2⟩ hs
      · exact absurd w2 hw
      · refine ⟨c3, w2, u, hb, e3, putx fun v H' hR => ?_⟩
        rcases key v H' hR with ⟨_, u', e2', _⟩ | ⟨w2', _⟩ | ⟨_, _, u', hb', _, k⟩
        · exact absurd ⟨u', e2'⟩ hs
        · exact absurd w2' hw
        · rw [hb] at hb'; cases hb'; exact k
  · rw [r1 u] at h
    have q : ∀ {v : A} {H' : Heap}, Plan P N L K bv ops Q r (put o.dst v (put x.dst u T)) H' → Plan P N L K bv ops Q (x :: r) (put o.dst v T) H' := fun k => ⟨hd, .inr (.inr (.inr (.inr ⟨⟨c1.1, by rw [r2]; exact c1.2⟩, by rw [r2]; exact w1, u, hbu, by rw [r2]; exact e1, k.cong (sw u _)⟩)))⟩
    rcases h with ⟨w2, v, e2, k⟩ | ⟨w2, k⟩ | ⟨c2, w2, v, e2, k⟩ | ⟨c2, w2, R, e2, k⟩ | ⟨c2, w2, v, hbv, e2, k⟩
    · exact ⟨hd2, .inl ⟨w2, v, e2, q k⟩⟩
    · exact ⟨hd2, .inr (.inl ⟨w2, q k⟩)⟩
    · exact ⟨hd2, .inr (.inr (.inl ⟨c2, w2, v, e2, q k⟩))⟩
    · exact ⟨hd2, .inr (.inr (.inr (.inl ⟨c2, w2, R, e2, fun v H' hR => q (k v H' hR)⟩)))⟩
    · exact ⟨hd2, .inr (.inr (.inr (.inr ⟨c2, w2, v, hbv, e2, q k⟩)))⟩
theorem Plan.first {o : Oper} : ∀ {l1 l2 : List Oper} {T : Env} {H : Heap}, (∀ x ∈ l1, x.apart ops o = true ∧ compat K x o = true) → Plan P N L K bv ops Q (l1 ++ o :: l2) T H → Plan P N L K bv ops Q (o :: (l1 ++ l2)) T H
  | [], l2, T, H, _, h => h
  | x :: l1, l2, T, H, hc, h => by
    refine Plan.swap (hc x List.mem_cons_self).1 (hc x List.mem_cons_self).2 ?_
    have hc' : ∀ y ∈ l1, y.apart ops o = true ∧ compat K y o = true := fun y hy => hc y (List.mem_cons_of_mem _ hy)
    obtain ⟨hd, h⟩ := h
    refine ⟨hd, ?_⟩
    rcases h with ⟨h1, v, h2, h3⟩ | ⟨h1, h3⟩ | ⟨h0, h1, v, h2, h3⟩ | ⟨h0, h1, R, h2, h3⟩ | ⟨h0, h1, v, hb, h2, h3⟩
    · exact .inl ⟨h1, v, h2, Plan.first hc' h3⟩
    · exact .inr (.inl ⟨h1, Plan.first hc' h3⟩)
    · exact .inr (.inr (.inl ⟨h0, h1, v, h2, Plan.first hc' h3⟩))
    · exact .inr (.inr (.inr (.inl ⟨h0, h1, R, h2, fun v H' hR => Plan.first hc' (h3 v H' hR)⟩)))
    · exact .inr (.inr (.inr (.inr ⟨h0, h1, v, hb, h2, Plan.first hc' h3⟩)))

end
theorem chk_spec {K : Oper → Nat} {ops : List Oper} (h : chk K ops = true) : ∀ (i : Nat) (o : Oper), ops[i]? = some o → (∀ e ∈ o.after.toList, Region.binds .any e = true → e.on < i) ∧
    ∀ (j : Nat) (x : Oper), j < i → ops[j]? = some x → ((anc ops).getD i 0).testBit j = true ∨ (x.apart ops.toArray o = true ∧ compat K x o = true) := by
  simp only [chk, Bool.and_eq_true, List.all_eq_true] at h
  intro i o ho
  have h1 := h.2 (o, i) (List.mem_zipIdx_iff_getElem?.2 ho)
  refine ⟨fun e he hb => ?_, fun j x hj hx => ?_⟩
  · have := h1.1 e he
    rw [hb] at this
    simpa [Nat.blt_eq] using this
  · have h2 := h1.2 (x, j) (List.mem_zipIdx_iff_getElem?.2 (by simp only; rw [List.getElem?_take, if_pos hj]; exact hx))
    rw [Bool.or_eq_true, Bool.and_eq_true] at h2
    exact h2
theorem Plan.any {P : Program} {N : NN} {L : Lay} {K : Oper → Nat} {bv : Nat → A} {ops : List Oper} {Q0 : Exit → Env → Heap → Prop} (hL : LayOk P L) (hc : chk K ops = true) : ∀ (fuel : Nat) (listed : Array Bool) (T : Env) (H : Heap), listed.size = ops.length →
    (∀ k o, ops[k]? = some o → listed.getD k false = true → ∀ e ∈ o.after.toList, Region.binds .any e = true → listed.getD e.on false = true) → (unl listed 0 ops).length ≤ fuel → Plan P N L K bv ops.toArray (Q0 .normal) (unl listed 0 ops) T H →
    ∀ (fr : Nat → Prop) (w : World) (a : Act), Sim fr H w → St N w (own fr H) T a → wpAny P .any ops.toArray (Post N fr H w Q0) fuel listed a w := by
  intro fuel
  -- nothing is ready only if all is listed
  have done : ∀ (listed : Array Bool) (T : Env) (H : Heap), listed.size = ops.length → Region.ready .any ops.toArray listed = [] → Plan P N L K bv ops.toArray (Q0 .normal) (unl listed 0 ops) T H →
      ∀ (fr : Nat → Prop) (w : World) (a : Act), Sim fr H w → St N w (own fr H) T a → Post N fr H w Q0 .normal a w := by
    intro listed T H hs hr hp fr w a s st
    have hnil : unl listed 0 ops = [] := by
      apply Classical.byContradiction
      intro hne
      obtain ⟨i, o, h1, h2, h3⟩ := unl_first hne
      rw [Nat.zero_add] at h2
      have : i ∈ Region.ready .any ops.toArray listed := mem_ready.2 ⟨h2, o, by simpa using h1, fun e he hb => by
        have hlt := (chk_spec hc i o h1).1 e (by simpa using he) hb
        have := h3 e.on hlt
        rw [Nat.zero_add] at this
        have hi := (List.getElem?_eq_some_iff.1 h1).1
        rw [← getD_both (by omega)]; exact this⟩
      rw [hr] at this; cases this
    rw [hnil] at hp
    obtain ⟨T0, h1, h2⟩ := hp
    exact ⟨T0, H, h2, s, st.sub h1, Ext.refl H w⟩
  induction fuel with
  | zero =>
    intro listed T H hs hcl hf hp fr w a s st
    have hnil : unl listed 0 ops = [] := List.eq_nil_of_length_eq_zero (by omega)
    have hr : Region.ready .any ops.toArray listed = [] := by
      apply Classical.byContradiction
      intro hne
      obtain ⟨i, hi⟩ := List.exists_mem_of_ne_nil _ hne
      obtain ⟨h0, o, ho, _⟩ := mem_ready.1 hi
      have ho' : ops[i]? = some o := by simpa using ho
      have hlt := (List.getElem?_eq_some_iff.1 ho').1
      obtain ⟨l1, l2, h1, _⟩ := unl_split (k := 0) ho' (by rw [Nat.zero_add]; exact h0) (by omega)
      rw [hnil] at h1; simp at h1
    exact ⟨hr, done listed T H hs hr hp fr w a s st⟩
  | succ fuel ih =>
    intro listed T H hs hcl hf hp fr w a s st
    refine ⟨fun hr => done listed T H hs hr hp fr w a s st, fun i hi => ?_⟩
    obtain ⟨h0, o, ho, hedge⟩ := mem_ready.1 hi
    have ho' : ops[i]? = some o := by simpa using ho
    have hlt := (List.getElem?_eq_some_iff.1 ho').1
    obtain ⟨l1, l2, h1, h2, h3⟩ := unl_split (k := 0) ho' (by rw [Nat.zero_add]; exact h0) (by omega)
    rw [Nat.zero_add] at h2
    rw [h1] at hp hf
    have hp := Plan.first (fun x hx => by
      obtain ⟨j, hj, hxj, hjl⟩ := h3 x hx
      rw [Nat.zero_add] at hjl
      rcases (chk_spec hc i o ho').2 j x hj hxj with hb | hb
      · have := (anc_spec ops).2 i j hb listed hcl (fun o2 ho2 e he hb => by
          rw [ho'] at ho2; cases ho2
          exact hedge e (by simpa using he) hb)
        rw [← getD_both (by omega), hjl] at this; cases this
      · exact hb) hp
    rw [← h2] at hp
    have hs' : (listed.setIfInBounds i true).size = ops.length := by simpa using hs
    have hcl' : ∀ k o, ops[k]? = some o → (listed.setIfInBounds i true).getD k false = true → ∀ e ∈ o.after.toList, Region.binds .any e = true → (listed.setIfInBounds i true).getD e.on false = true := by
      intro k o2 ho2 hk e he hb
      refine getD_set_true ?_
      by_cases hki : k = i
      · subst hki
        rw [ho'] at ho2; cases ho2
        exact hedge e (by simpa using he) hb
      · rw [getD_set_ne false (Ne.symm hki)] at hk
        exact hcl k o2 ho2 hk e he hb
    have hf' : (unl (listed.setIfInBounds i true) 0 ops).length ≤ fuel := by
      rw [h2]; simp only [List.length_append, List.length_cons] at hf ⊢; omega
    have hlook : ∀ c, wantA ops.toArray (restr T (o.looksAt ops.toArray)) o = some c → Region.wanted o (yielded ops.toArray a.tmps) = c := fun c h => wantA_ok (st.sub (restr_sub T _)) h
    obtain ⟨hd, hp⟩ := hp
    unfold wpOp
    rw [ho]
    simp only
    have next : ∀ v H' w' v', Sim fr H' w' → St N w' (own fr H') (put o.dst v T) (a.put o.dst v') → Ext H w H' w' → Plan P N L K bv ops.toArray (Q0 .normal) (unl (listed.setIfInBounds i true) 0 ops) (put o.dst v T) H' →
        wpAny P .any ops.toArray (Post N fr H w Q0) fuel (listed.setIfInBounds i true) (a.put o.dst v') w' := fun v H' w' v' s' st' x hp' =>
      wpAny_mono2 (fun _ _ _ => Post.of_ext x) _ _ _ _ (ih _ _ _ hs' hcl' hf' hp' fr w' _ s' st')
    rcases hp with ⟨w1, v, e1, hp⟩ | ⟨w1, hp⟩ | ⟨_, w1, v, e1, hp⟩ | ⟨_, w1, R, ⟨_, e1⟩, hp⟩ | ⟨_, w1, v, _, e1, hp⟩
    · rw [hlook _ w1, if_pos rfl]
      refine .inl (AOp.node (R := fun r H' => r = v ∧ H' = H) (AOp.simpleX hL e1 hd (AOps.nil ⟨v, ⟨rfl, rfl⟩, rfl⟩)) hd s st ?_)
      rintro u H' w' v' ⟨rfl, rfl⟩ s' st' x
      exact next _ _ w' v' s' st' x hp
    · rw [hlook _ w1, if_neg (by simp)]
      exact next _ _ w undef s (st.put hd (Rep.tup_of .nil)) (Ext.refl H w) hp
    · rw [hlook _ w1, if_pos rfl]
      refine .inl (AOp.node e1 hd s st ?_)
      rintro u H' w' v' ⟨rfl, rfl⟩ s' st' x
      exact next _ _ w' v' s' st' x hp
    · rw [hlook _ w1, if_pos rfl]
      refine .inl (AOp.node e1 hd s st ?_)
      intro u H' w' v' hR s' st' x
      exact next _ _ w' v' s' st' x (hp u H' hR)
    · rw [hlook _ w1, if_pos rfl]
      refine .inl (AOp.node (e1 H) hd s st ?_)
      rintro u H' w' v' ⟨rfl, rfl⟩ s' st' x
      exact next _ _ w' v' s' st' x hp
/-- A region that draws its order: walked in the text's order. -/
theorem AWp.draw (K : Oper → Nat) (bv : Nat → A) {P : Program} {N : NN} {L : Lay} {ops : List Oper} {Q : Exit → Env → Heap → Prop} {T : Env} {H : Heap} {id : Nat} (hL : LayOk P L) (hm : P.follows .mixedOrders = true) (hc : chk K ops = true) (h : Plan P N L K bv ops.toArray (Q .normal) ops T H) :
    AWp P N (.region id ops.toArray true) Q T H := by
  refine ⟨fun fr w a s st => wp_region_any hm ?_⟩
  have hun : ∀ (l : List Oper) (k n : Nat), k + l.length ≤ n → unl (Array.replicate n false) k l = l := by
    intro l
    induction l with
    | nil => intros; rfl
    | cons o l ih =>
      intro k n hk
      simp only [List.length_cons] at hk
      simp only [unl]
      rw [if_neg (by simp [Array.getD, show k < n by omega]), ih (k + 1) n (by omega)]
  have h0 := Plan.any (Q0 := Q) hL hc ops.toArray.size (Array.replicate ops.toArray.size false) T H (by simp) (fun k o _ hk => by simp [Array.getD] at hk) (by rw [hun _ _ _ (by simp)]; simp) (by rw [hun _ _ _ (by simp)]; exact h)
    fr w.drew a s.drew (st.mono (Ext.drew H w).stays)
  exact wpAny_mono2 (fun _ _ _ => Post.of_ext (Ext.drew H w)) _ _ _ _ h0

/-! Its steps. -/
section
variable {P : Program} {N : NN} {L : Lay} {K : Oper → Nat} {bv : Nat → A} {ops : Array Oper} {Q : Env → Heap → Prop} {o : Oper} {rest : List Oper} {T : Env} {H : Heap}
theorem Plan.nil (h : Q T H) : Plan P N L K bv ops Q [] T H := ⟨T, fun _ _ h => h, h⟩
theorem Plan.pure {v : A} (hd : dstOk N o.dst = true) (hw : wantA ops (restr T (o.looksAt ops)) o = some true) (hv : sOp L (restr T (o.looksAt ops)) o.op = some v) (k : Plan P N L K bv ops Q rest (put o.dst v T) H) : Plan P N L K bv ops Q (o :: rest) T H := ⟨hd, .inl ⟨hw, v, sOpX_of hv, k⟩⟩
theorem Plan.quiet {v : A} (hd : dstOk N o.dst = true) (hw : wantA ops (restr T (o.looksAt ops)) o = some true) (hcl : K o = 1 ∨ K o = 2) (h : AOp P N [] o [] (Qn o (restr T (o.looksAt ops)) fun r H' => r = v ∧ H' = H) (restr T (o.looksAt ops)) H)
    (k : Plan P N L K bv ops Q rest (put o.dst v T) H) : Plan P N L K bv ops Q (o :: rest) T H := ⟨hd, .inr (.inr (.inl ⟨hcl, hw, v, h, k⟩))⟩
theorem Plan.eff {R : A → Heap → Prop} (hd : dstOk N o.dst = true) (hw : wantA ops (restr T (o.looksAt ops)) o = some true) (hcl : K o = 2) (hne : ∃ v H', R v H') (h : AOp P N [] o [] (Qn o (restr T (o.looksAt ops)) R) (restr T (o.looksAt ops)) H)
    (k : ∀ v H', R v H' → Plan P N L K bv ops Q rest (put o.dst v T) H') : Plan P N L K bv ops Q (o :: rest) T H := ⟨hd, .inr (.inr (.inr (.inl ⟨hcl, hw, R, ⟨hne, h⟩, k⟩)))⟩
theorem Plan.eff1 {v : A} {H1 : Heap} (hd : dstOk N o.dst = true) (hw : wantA ops (restr T (o.looksAt ops)) o = some true) (hcl : K o = 2) (h : AOp P N [] o [] (Qn o (restr T (o.looksAt ops)) fun r H' => r = v ∧ H' = H1) (restr T (o.looksAt ops)) H)
    (k : Plan P N L K bv ops Q rest (put o.dst v T) H1) : Plan P N L K bv ops Q (o :: rest) T H := Plan.eff hd hw hcl ⟨v, H1, rfl, rfl⟩ h fun _ _ ⟨h1, h2⟩ => by subst h1 h2; exact k
theorem Plan.made {v : A} (hd : dstOk N o.dst = true) (hw : wantA ops (restr T (o.looksAt ops)) o = some true) (hcl : K o = 3) (hn : sOpX P L (restr T (o.looksAt ops)) o.op = none) (hb : o.dst.map bv = some v) (h : ∀ H, AOp P N [] o [] (Qn o (restr T (o.looksAt ops)) fun r H' => r = v ∧ H' = H) (restr T (o.looksAt ops)) H)
    (k : Plan P N L K bv ops Q rest (put o.dst v T) H) : Plan P N L K bv ops Q (o :: rest) T H := ⟨hd, .inr (.inr (.inr (.inr ⟨⟨hcl, hn⟩, hw, v, hb, h, k⟩)))⟩
theorem Qn_n {R : A → Heap → Prop} {v : A} (h : R v H) : Qn o T R .normal (put o.dst v T) H := ⟨v, h, rfl⟩
end
end Go.Abs.Flex

namespace Go.Abs
open Go
set_option linter.unusedVariables false
set_option linter.unusedSimpArgs false
/-! Literals and appended rows that nobody writes any more. -/
section
variable {P : Program} {N : NN} {T : Env} {H : Heap} {L : Lay} {ty : TypeId} {pos : String} {after : Array Edge} {guard : Option (Nat × Bool)}
theorem sub_twice (d : Nat) (x y : A) (T : Env) : ∀ t z, get (put (some d) x T) t = some z → get ((d, x) :: put (some d) y T) t = some z := by
  intro t z h
  simp only [put, get_put] at h ⊢
  by_cases e : d = t
  · rw [if_pos e] at h ⊢; exact h
  · rw [if_neg e] at h ⊢; rw [if_neg e]; exact h
theorem AOp.buildD (d : Nat) {t : TypeId} {n e : Nat} {parts : List (Nat × Operand)} {ps : List (Nat × A)} {ti ei : TI} {out : List A} {elems : List (List A)} (hL : LayOk P L) (hp : evParts T parts = some ps) (ht : lay L t = some ti) (he : ti.td = .slice e)
    (hei : lay L e = some ei) (ho : fillR ei.size (rep n ei.zero) ps = some out) (hel : chunk ei.size n out = elems) (hsm : Nat.ble (n * ei.size) 16777216 = true) (hpos : Nat.ble 1 ei.size = true) (hz : Nat.beq ei.zero.length ei.size = true) (hl : allLeaf out = true) (hd : dstOk N (some d) = true) (hn : elems.length = n) :
    AOp P N [] { dst := some d, op := .buildSlice t n parts.toArray, type := ty, pos := pos, after := after, guard := guard } [] (Qn { dst := some d, op := .buildSlice t n parts.toArray, type := ty, pos := pos, after := after, guard := guard } T fun r H' => r = .ds elems ∧ H' = H) T H := by
  refine AOp.buildSlice hL hp ht he hei ho hel hsm hpos hz hl hd fun r hr => ?_
  refine AOps.perm (H' := H ++ [(r, .row e ei.size elems)]) (List.perm_append_comm (l₁ := [_])) ?_
  refine AOps.freezeG (t := d) (g := some r) (elems := elems) (pre := H) (sz := ei.size) (e := e) (by rw [hn]; simp only [put, get_put, outV, if_true]) (fun h => by cases h) rfl ?_
  exact AOps.sub (sub_twice d _ _ T) (AOps.nil ⟨_, ⟨rfl, rfl⟩, rfl⟩)
theorem AOp.appendD (d : Nat) {H0 : Heap} {t e : TypeId} {x y : Operand} {g : Option Nat} {elems news : List (List A)} {yv : A} {ti ei : TI} (hL : LayOk P L) (hx : ev T x = some (outV ei.size g elems.length)) (hg : g = none → elems = []) (hH : H.Perm (H0 ++ outH e ei.size g elems)) (hy : ev T y = some yv) (hy' : RowOf (H0 ++ outH e ei.size g elems) yv news)
    (ht : lay L t = some ti) (he : ti.td = .slice e) (hei : lay L e = some ei) (hpos : Nat.ble 1 ei.size = true) (hnl : ∀ c ∈ news, c.length = ei.size) (hnf : ∀ c ∈ news, allLeaf c = true)
    (hb1 : elems.length + news.length ≤ maxLen) (hb2 : (elems.length + news.length) * ei.bytes ≤ 140737488355328) (hd : dstOk N (some d) = true) :
    AOp P N [] { dst := some d, op := .call { callee := .builtin .append, args := [x, y].toArray, argTypes := [t, t].toArray }, type := ty, pos := pos, after := after, guard := guard } []
      (Qn { dst := some d, op := .call { callee := .builtin .append, args := [x, y].toArray, argTypes := [t, t].toArray }, type := ty, pos := pos, after := after, guard := guard } T fun r H' => r = .ds (elems ++ news) ∧ H' = H0) T H := by
  refine AOp.perm hH ?_
  refine AOp.appendG (pre := H0) hL hx hg rfl hy hy' ht he hei hpos hnl hnf hb1 hb2 hd fun g' hg' => ?_
  refine AOps.freezeG (t := d) (g := g') (elems := elems ++ news) (pre := H0) (sz := ei.size) (e := e) (by simp only [put, get_put, if_true]) hg' rfl ?_
  exact AOps.sub (sub_twice d _ _ T) (AOps.nil ⟨_, ⟨rfl, rfl⟩, rfl⟩)
variable {Q : Exit → Env → Heap → Prop} {ops rest : List Oper}
/-- A call between blocks that it does not know. -/
theorem AOp.callMid (Hx Hy : Heap) {dst : Option Nat} {callee : Operand} {l : List Operand} {ats : Array TypeId} {f : FuncId} {first cap as : List A} {Hc : Heap} {R : A → Heap → Prop} (hf : ev T callee = some (.fn f first cap)) (ha : evs T l = some as) (hd : dstOk N dst = true)
    (hH : H = Hx ++ (Hc ++ Hy)) (ht : TrG N.g P f (first ++ as ++ cap) Hc R) (k : ∀ r H', R r H' → AOps P N ops rest Q (put dst r T) (Hx ++ (H' ++ Hy))) :
    AOp P N ops { dst := dst, op := .call { callee := .value callee, args := l.toArray, argTypes := ats }, type := ty, pos := pos, after := after, guard := guard } rest Q T H :=
  AOp.callG (F := Hy ++ Hx) hf ha hd (by rw [hH, ← List.append_assoc (as := Hc)]; exact List.perm_append_comm) ht fun r H' h => AOps.perm (by rw [← List.append_assoc (as := H')]; exact List.perm_append_comm) (k r H' h)
end
end Go.Abs

namespace Go.Abs
open Go
set_option linter.unusedVariables false
set_option linter.unusedSimpArgs false
/-! A literal row that nobody writes any more. -/
section
variable {P : Program} {N : NN} {T : Env} {H : Heap} {L : Lay} {ty : TypeId} {pos : String} {after : Array Edge} {guard : Option (Nat × Bool)} {Q : Exit → Env → Heap → Prop} {ops rest : List Oper}
theorem AOp.buildF (d : Nat) {t : TypeId} {n e : Nat} {parts : List (Nat × Operand)} {ps : List (Nat × A)} {ti ei : TI} {out : List A} {elems : List (List A)} (hL : LayOk P L) (hp : evParts T parts = some ps) (ht : lay L t = some ti) (he : ti.td = .slice e)
    (hei : lay L e = some ei) (ho : fillR ei.size (rep n ei.zero) ps = some out) (hel : chunk ei.size n out = elems) (hsm : Nat.ble (n * ei.size) 16777216 = true) (hpos : Nat.ble 1 ei.size = true) (hz : Nat.beq ei.zero.length ei.size = true) (hl : allLeaf out = true) (hd : dstOk N (some d) = true) (hn : Nat.beq elems.length n = true)
    (k : AOps P N ops rest Q (put (some d) (.ds elems) T) H) :
    AOp P N ops { dst := some d, op := .buildSlice t n parts.toArray, type := ty, pos := pos, after := after, guard := guard } rest Q T H := by
  have hn := Nat.eq_of_beq_eq_true hn
  refine AOp.buildSlice hL hp ht he hei ho hel hsm hpos hz hl hd fun r hr => ?_
  refine AOps.perm (H' := H ++ [(r, .row e ei.size elems)]) (List.perm_append_comm (l₁ := [_])) ?_
  refine AOps.freezeG (t := d) (g := some r) (elems := elems) (pre := H) (sz := ei.size) (e := e) (by rw [hn]; simp only [put, get_put, outV, if_true]) (fun h => by cases h) rfl ?_
  exact AOps.sub (sub_twice d _ _ T) k
end
end Go.Abs

