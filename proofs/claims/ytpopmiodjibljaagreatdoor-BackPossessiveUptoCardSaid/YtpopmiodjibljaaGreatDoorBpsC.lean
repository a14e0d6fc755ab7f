/- A part of the proof: a layer of abstract values over the kit's walks, an evaluator over it, and walks of functions. -/
import Derived.Recover
import Derived.Laws.BytesArg
import Derived.Lib.Bytealg
import Derived.Lib.ReflectliteSwap
import Derived.Lib.IndexAny
import Derived.Test.YtpopmiodjibljaaGreatDoorBpsB
set_option linter.unusedVariables false
set_option linter.unusedSimpArgs false

namespace Go.Abs
open Go
abbrev Exts := FuncId → List A → Option A
def zc2 (P : Program) (E : Exts) : Prop := ∀ f xs v, E f xs = some v → ∀ (ρ : Nat → Nat) (w : World) (o : Nat → Prop) (vs : List Value), RepL w o (renL ρ xs) vs → ∃ u, (callFunc f vs.toArray).run P w = .ok (.value u) w ∧ Rep w o (ren ρ v) u
abbrev zgg := (Nat → Bool) → FuncId → List A → Tre Blk → Nat → Option (A × Tre Blk × Nat)
def zls (ops : List Oper) (T : Tre A) (o : Oper) : Option Bool :=
 match o.guard with
 | none => some true
 | some (j, b) => match (ops[j]?).bind (·.dst) with
  | none => none
  | some d => match T.get d with
   | some (.bool b') => some (b' == b)
   | some (.tup _) => some false
   | _ => none
def evOp (P : Program) (E : Exts) (L : Lay) (call : zgg) (lo : Nat → Bool) (T : Tre A) (H : Tre Blk) (n : Nat) : Op → Option (A × Tre Blk × Nat)
 | .call { callee := .value c, args := ⟨args⟩, argTypes := _ } => match evC T c with
  | some (.fn f first cap) => match evsC T args with
   | some xs => match E f (first ++ xs ++ cap) with
    | some v => match scope n v with
     | true => some (v, H, n)
     | false => none
    | none => call lo f (first ++ xs ++ cap) H n
   | none => none
  | _ => none
 | op => match sOpC L T op with
  | some v => match scope n v with
   | true => some (v, H, n)
   | false => none
  | none => match znb P L T H op with
   | some e => zb8 lo H n e
   | none => none
def zcc (T : Tre A) : List Nat → Tre A
 | [] => .leaf
 | t :: ts => match T.get t with
  | some v => Tre.set 40 (zcc T ts) t (some v)
  | none => zcc T ts
def keyOf (o : Oper) : Option Nat := match o.dst with
 | some d => some d
 | none => match o.op with
  | .store _ (.tmp a) _ => some (100000 + a)
  | _ => none
def addK (o : Oper) (l : List Nat) : List Nat := match keyOf o with
 | some d => d :: l
 | none => l
def zdH (ap : Bool) (b : List Nat) : List Oper → Nat → Bool → Nat → Nat → List Nat
 | [], _, _, _, _ => []
 | o :: rest, i, seen, mask, rm => match zoy o || (ap && (zqd o || (isSt o && !Nat.beq (rm &&& b.getD i 0) rm))) with
  | true => match seen with
   | true => addK o (zdH ap b rest (i + 1) true mask rm)
   | false => zdH ap b rest (i + 1) false (mask ||| 2 ^ i) rm
  | false => match Nat.beq (cls o) 2 with
   | true => addK o (zdH ap b rest (i + 1) true mask rm)
   | false => match Nat.beq (cls o) 1, seen || !Nat.beq ((b.getD i 0) &&& mask) 0 with
    | true, true => addK o (zdH ap b rest (i + 1) seen mask rm)
    | true, false => zdH ap b rest (i + 1) seen mask (rm ||| 2 ^ i)
    | _, _ => zdH ap b rest (i + 1) seen mask rm
def ziT (b : List Nat) : List Oper → Nat → Bool → Nat → List Nat
 | [], _, _, _ => []
 | o :: rest, i, seen, mask => match Nat.beq (cls o) 2 with
  | true => match zoy o, seen || !Nat.beq ((b.getD i 0) &&& mask) 0, o.dst with
   | true, false, some d => d :: ziT b rest (i + 1) seen (mask ||| 2 ^ i)
   | _, _, _ => ziT b rest (i + 1) (seen || !isEE o) (mask ||| 2 ^ i)
  | false => match Nat.beq (cls o) 1, !Nat.beq ((b.getD i 0) &&& mask) 0 with
   | true, true => ziT b rest (i + 1) seen (mask ||| 2 ^ i)
   | _, _ => ziT b rest (i + 1) seen mask
def memN (d : Nat) : List Nat → Bool
 | [] => false
 | x :: l => match Nat.beq x d with
  | true => true
  | false => memN d l
def zkg (ds : List Nat) (o : Oper) : Bool := match keyOf o with
 | none => true
 | some d => memN d ds
def zpW (ds : List Nat) (o : Oper) : Bool := match o.dst with
 | none => false
 | some d => memN d ds
def getW : List (Nat × (Mk × Blk)) → Nat → Option (Mk × Blk)
 | [], _ => none
 | (k, v) :: l, d => match Nat.beq k d with
  | true => some v
  | false => getW l d
def zhO (n : Nat) (T : Tre A) : List Nat → Bool
 | [] => true
 | t :: ts => match T.get t with
  | some v => and (scope n v) (zhO n T ts)
  | none => zhO n T ts
def zbz (o : Oper) : Bool := match o.op with
 | .call { callee := .value _, .. } => true
 | _ => false
inductive Stp where
 | fin (e : Exit)
 | go (cl : Bool) (T : Tre A) (H : Tre Blk) (n : Nat) (v : Option (Nat × A)) (w : Option (Nat × (Mk × Blk)))
def zlK (T : Tre A) (o : Oper) (last : Bool) : Option Stp := match last, o.guard, o.op with
 | true, none, .panic x => match evC T x with
  | some (.iface t v) => match datA v with
   | some u => some (.fin (.panic [{ v := .iface t u, recovered := false }]))
   | none => none
  | _ => none
 | _, _, _ => none
def zmW (P : Program) (L : Lay) (hv : Oper → Bool) (o : Oper) (n0 : Nat) (cl : Bool) (T Tr : Tre A) (H : Tre Blk) (n : Nat) : Option Stp := match Nat.beq (clsH hv o) 2, cl, o.dst with
 | true, true, some d => match znb P L Tr .leaf o.op with
  | some (.new m b) => match zbq n0 b with
   | true => some (.go true (putC (some d) (m.on n) T) (Tre.set 40 H n (some b)) (n + 1) none (some (d, (m, b))))
   | false => none
  | _ => none
 | _, _, _ => none
def zhF (P : Program) (E : Exts) (L : Lay) (call : zgg) (o : Oper) (sc : Bool) (H0 : Tre Blk) (n0 : Nat) (cl : Bool) (T Tr : Tre A) (H : Tre Blk) (n : Nat) : Option Stp := match cl, o.dst, sc with
 | true, some d, true => match zbz o with
  | false => match znb P L Tr H0 o.op with
   | some (.pure v2) => match scope n0 v2 with
    | true => some (.go true (putC (some d) v2 T) H n (some (d, v2)) none)
    | false => none
   | _ => none
  | true => match evOp P E L call (fun i => Nat.ble n0 i) Tr H0 n0 o.op with
   | some (v, H1, _) => match zgr n0 H1 20 v with
    | some v2 => match scope n0 v2 with
     | true => some (.go true (putC (some d) v2 T) H n (some (d, v2)) none)
     | false => none
    | none => none
   | none => none
 | _, _, _ => none
def zmw (hv : Oper → Bool) (lo : Nat → Bool) (o : Oper) (late : Bool) (cons : Nat → Bool) (n0 : Nat) (cl : Bool) (T : Tre A) (H : Tre Blk) (n : Nat) (e : Eff) : Option Stp := match isEE o && !late with
 | false => match e with
  | .pure v => match scope n v, Nat.beq (clsH hv o) 0 with
   | true, false => some (.go cl (putC o.dst v T) H n none none)
   | _, _ => none
  | e => match Nat.beq (clsH hv o) 2 with
   | true => match zb8 lo H n e with
    | some (v, H1, n1) => some (.go false (putC o.dst v T) H1 n1 none none)
    | none => none
   | false => none
 | true => match Nat.beq (clsH hv o) 2, cl, e with
  | true, true, .new m b => match zbq n b with
   | true => some (.go true (putC o.dst (m.on n) T) (Tre.set 40 H n (some b)) (n + 1) none none)
   | false => none
  | true, true, .pure v => match scope n v with
   | true => some (.go true (putC o.dst v T) H n none none)
   | false => none
  | true, true, .swap m i b' => match zbq n b', lo i, cons i || Nat.ble n0 i with
   | true, true, true => some (.go true (putC o.dst (m.on n) T) (Tre.set 40 (Tre.set 40 H i none) n (some b')) (n + 1) none none)
   | _, _, _ => none
  | true, true, .write v i b' => match zbq n b', scope n v, lo i && (cons i || Nat.ble n0 i) with
   | true, true, true => some (.go true (putC o.dst v T) (Tre.set 40 H i (some b')) n none none)
   | _, _, _ => none
  | _, _, _ => none
def zkc (P : Program) (E : Exts) (L : Lay) (call : zgg) (o : Oper) (cl : Bool) (T Tr : Tre A) (H : Tre Blk) (n : Nat) : Option Stp := match evOp P E L call (fun i => Nat.ble n i) Tr H n o.op with
 | some (v, H1, _) => match zgr n H1 20 v with
  | some v2 => match scope n v2 with
   | true => some (.go cl (putC o.dst v2 T) H n none none)
   | false => none
  | none => none
 | none => none
def ziM (P : Program) (E : Exts) (L : Lay) (call : zgg) (lo : Nat → Bool) (o : Oper) (cons : Nat → Bool) (n0 : Nat) (cl : Bool) (T Tr : Tre A) (H : Tre Blk) (n : Nat) : Option Stp := match zbz o, cl with
 | true, true => match evOp P E L call (fun i => and (lo i) (or (cons i) (Nat.ble n0 i))) Tr H n o.op with
  | some (v, H1, n1) => some (.go true (putC o.dst v T) H1 n1 none none)
  | none => none
 | _, _ => none
def eqC (P : Program) (L : Lay) (T : Tre A) : Op → Option A
 | .binOp op xt x y _ => match evC T x, evC T y with
  | some (.agg xs), some (.agg ys) => match zil P L xt xs ys with
   | some b => match op with
    | .eql => some (.bool b)
    | .neq => some (.bool !b)
    | _ => none
   | none => none
  | _, _ => none
 | .call { callee := .builtin .cap, args := ⟨[x]⟩, argTypes := ⟨[t]⟩ } => match evC T x, lay L t with
  | some .nils, some ⟨.slice _, _, _, _⟩ => some (.int .i64 0)
  | _, _ => none
 | _ => none
theorem zhy {L : Lay} {T : Env} {bop : BinOp} {xt yt : TypeId} {x y : Operand} {xs ys : List A} (hx : ev T x = some (.agg xs)) (hy : ev T y = some (.agg ys)) : sOp L T (.binOp bop xt x y yt) = none := by
 cases y with
 | const v => cases v <;> first | (simp only [sOp, hx, hy, zcF]; done) | (simp [ev, zcE] at hy; done) | (simp only [sOp, hx, hy, zcF]; split <;> simp_all)
 | _ => first | (simp only [sOp, hx, hy, zcF]; done) | (simp only [sOp, hx, hy, zcF]; split <;> simp_all)
theorem zqQ {P : Program} {L : Lay} {ρ : Nat → Nat} {T : Tre A} {T' : Env} (hT : EnvR ρ T T') {op : Op} {v : A} (h : eqC P L T op = some v) : sOpX P L T' op = some (ren ρ v) := by
 unfold eqC at h; split at h
 ·split at h
  ·rename_i hx hy
   have hx := hT.ev hx; have hy := hT.ev hy; simp only [ren] at hx hy; split at h
   ·rename_i b hb
    unfold zil at hb; split at hb
    ·rename_i ht
     split at hb
     ·rename_i hq
      have hb := zby ρ L _ _ _ _ hb; split at h
      ·cases h; exact zjn (zhi hq) (zhy hx hy) hx hy ht rfl hb rfl
      ·cases h; exact zjn (zhi hq) (zhy hx hy) hx hy ht rfl hb rfl
      ·cases h
     ·cases hb
    ·rename_i ht
     split at hb
     ·rename_i hei
      split at hb
      ·rename_i hq
       have hb := zby ρ L _ _ _ _ hb; split at h
       ·cases h; exact zg5 (zhg hq) (zhy hx hy) hx hy ht rfl hei hb rfl
       ·cases h; exact zg5 (zhg hq) (zhy hx hy) hx hy ht rfl hei hb rfl
       ·cases h
      ·cases hb
     ·cases hb
    ·cases hb
   ·cases h
  ·cases h
 ·split at h
  ·rename_i hx ht
   cases h; have hx := hT.ev hx; simp only [ren] at hx; exact znR hx ht rfl
  ·cases h
 ·cases h
def zkn (P : Program) (E : Exts) (L : Lay) (call : zgg) (hv : Oper → Bool) (lo : Nat → Bool) (o : Oper) (late : Bool) (cons : Nat → Bool) (n0 : Nat) (cl : Bool) (T Tr : Tre A) (H : Tre Blk) (n : Nat) : Option Stp := match sOpC L Tr o.op with
 | some v => match scope n v, isEE o with
   | true, false => some (.go cl (putC o.dst v T) H n none none)
   | _, _ => none
 | none => match eqC P L Tr o.op with
  | some v => match scope n v, isEE o with
   | true, false => some (.go cl (putC o.dst v T) H n none none)
   | _, _ => none
  | none => match zbz o with
   | true => zkc P E L call o cl T Tr H n
   | false => match znb P L Tr H o.op with
    | some e => zmw hv lo o late cons n0 cl T H n e
    | none => none
def zlN (P : Program) (E : Exts) (N : Nat) (L : Lay) (call : zgg) (lo : Nat → Bool) (late uni hv : Oper → Bool) (ops : List Oper) (cons : Nat → Bool) (H0 : Tre Blk) (n0 : Nat) (o : Oper) (last cl : Bool) (T : Tre A) (H : Tre Blk) (n : Nat) : Option Stp := match zae ⟨N, [], []⟩ o.dst with
 | false => none
 | true => match zls ops (zcc T (o.looksAt ops.toArray)) o with
  | none => none
  | some false => some (.go cl (putC o.dst (.tup []) T) H n none none)
  | some true => match zlA o with
   | true => zlK (zcc T (o.looksAt ops.toArray)) o last
   | false => match uni o with
    | true => zmW P L hv o n0 cl T (zcc T (o.looksAt ops.toArray)) H n
    | false => match hv o with
     | true => ziM P E L call lo o cons n0 cl T (zcc T (o.looksAt ops.toArray)) H n
     | false => match Nat.beq (clsH hv o) 1 && !late o with
      | true => zhF P E L call o (zhO n0 T (o.looksAt ops.toArray)) H0 n0 cl T (zcc T (o.looksAt ops.toArray)) H n
      | false => zkn P E L call hv lo o (late o) cons n0 cl T (zcc T (o.looksAt ops.toArray)) H n
def addV (v : Option (Nat × A)) (V : Env) : Option Env := match v with
 | none => some V
 | some (d, x) => match get V d with
  | none => some ((d, x) :: V)
  | some _ => none
def addW (w : Option (Nat × (Mk × Blk))) (W : List (Nat × (Mk × Blk))) : Option (List (Nat × (Mk × Blk))) := match w with
 | none => some W
 | some (d, x) => match getW W d with
  | none => some ((d, x) :: W)
  | some _ => none
def ziw (P : Program) (E : Exts) (N : Nat) (L : Lay) (call : zgg) (lo : Nat → Bool) (late uni hv : Oper → Bool) (ops : List Oper) (cons : Nat → Bool) (H0 : Tre Blk) (n0 : Nat) : List Oper → Bool → Tre A → Tre Blk → Nat → Option (Exit × Tre A × Tre Blk × Nat × Env × List (Nat × (Mk × Blk)))
 | [], _, T, H, n => some (.normal, T, H, n, [], [])
 | o :: rest, cl, T, H, n => match zlN P E N L call lo late uni hv ops cons H0 n0 o rest.isEmpty cl T H n with
  | none => none
  | some (.fin e) => some (e, T, H, n, [], [])
  | some (.go cl' T' H' n' v w) => match ziw P E N L call lo late uni hv ops cons H0 n0 rest cl' T' H' n' with
   | none => none
   | some (e, T1, H1, n1, V, W) => match addV v V, addW w W with
    | some V', some W' => some (e, T1, H1, n1, V', W')
    | _, _ => none
def zmx (lo : Nat → Bool) (n : Nat) : List Nat → Tre Blk → Option (Tre Blk)
 | [], H => some H
 | i :: l, H => match H.get i, lo i, Nat.blt i n with
  | some _, true, true => zmx lo n l (Tre.set 40 H i none)
  | _, _, _ => none
def Tre.filt {α : Type} (f : Nat → Bool) : Tre α → Tre α
 | .leaf => .leaf
 | .node l v r => .node (l.filt fun k => f (2 * k + 1)) (match f 0 with | true => v | false => none) (r.filt fun k => f (2 * k + 2))
theorem Tre.filt_get {α : Type} : ∀ {t : Tre α} {f : Nat → Bool} {k : Nat} {b : α}, (t.filt f).get k = some b → t.get k = some b ∧ f k = true
 | .leaf, f, k, b, h => by simp [Tre.filt, Tre.get] at h
 | .node l v r, f, k, b, h => by
  simp only [Tre.filt, Tre.get] at h; split at h
  ·rename_i hk
   have hk0 := Nat.eq_of_beq_eq_true hk; subst hk0; split at h
   ·rename_i hf; exact ⟨by simp only [Tre.get, Nat.beq_refl]; exact h, hf⟩
   ·cases h
  ·rename_i hk
   split at h
   ·rename_i hk2
    obtain ⟨h1, h2⟩ := Tre.filt_get h; simp only [Tre.get, hk, hk2]; have e : 2 * Nat.div k 2 + 1 = k := by
     simp only [nbeq, decide_eq_true_iff, decide_eq_false_iff_not, zlu, zli] at *; omega
    rw [e] at h2; exact ⟨h1, h2⟩
   ·rename_i hk2
    obtain ⟨h1, h2⟩ := Tre.filt_get h; simp only [Tre.get, hk, hk2]; have e : 2 * Nat.sub (Nat.div k 2) 1 + 2 = k := by
     simp only [nbeq, decide_eq_true_iff, decide_eq_false_iff_not, zlu, zli, zqc] at *; omega
    rw [e] at h2; exact ⟨h1, h2⟩
abbrev Res := Option (Exit × Tre A × Tre Blk × Nat)
def ziK (step : Tre A → Tre Blk → Nat → Res) : Nat → Tre A → Tre Blk → Nat → Res
 | 0, _, _, _ => none
 | f + 1, T, H, n => match step T H n with
  | some (.normal, T1, H1, n1) => ziK step f T1 H1 n1
  | r => r
def zeA : Nat → List A → Tre A
 | _, [] => .leaf
 | i, a :: l => Tre.set 40 (zeA (i + 1) l) i (some a)
def resV (L : Lay) (T : Tre A) (H : Tre Blk) : ResultVar → Option A
 | .tmp t => T.get t
 | .cell t ty => match T.get t with
  | some (.ptr r sz i o) => match H.get r with
   | some (.row _ sz' elems) => match Nat.beq sz sz' with
    | true => match elems[i]? with
     | some e => match lay L ty with
      | some ti => zbo ti e o
      | none => none
     | none => none
    | false => none
   | _ => none
  | _ => none
def resC (L : Lay) (T : Tre A) (H : Tre Blk) : List ResultVar → Option A
 | [] => some (.tup [])
 | [a] => resV L T H a
 | [a, b] => match resV L T H a, resV L T H b with
  | some x, some y => some (.tup [x, y])
  | _, _ => none
 | [a, b, c] => match resV L T H a, resV L T H b, resV L T H c with
  | some x, some y, some z => some (.tup [x, y, z])
  | _, _, _ => none
 | [a, b, c, d] => match resV L T H a, resV L T H b, resV L T H c, resV L T H d with
  | some x, some y, some z, some u => some (.tup [x, y, z, u])
  | _, _, _, _ => none
 | _ => none
structure Cfg (ρ : Nat → Nat) (n : Nat) (lo : Nat → Bool) (fz : Nat → Prop) (T : Tre A) (H : Tre Blk) (T' : Env) (H' : Heap) : Prop where
 r : EnvR ρ T T'
 s : EnvS n T
 g : Good ρ n lo fz H H'
theorem AOp.callExt {P : Program} {N : NN} {Q : Exit → Env → Heap → Prop} {T : Env} {H : Heap} {ops rest : List Oper} {dst : Option Nat} {callee : Operand} {args : List Operand} {ats : Array TypeId} {ty : TypeId} {pos : String} {after : Array Edge} {guard : Option (Nat × Bool)}
  {f : FuncId} {first cap xs : List A} {v : A} (hf : ev T callee = some (.fn f first cap)) (ha : evs T args = some xs) (he : ∀ (w : World) (o : Nat → Prop) (vs : List Value), RepL w o (first ++ xs ++ cap) vs → ∃ u, (callFunc f vs.toArray).run P w = .ok (.value u) w ∧ Rep w o v u)
  (hd : zae N dst = true) (kk : AOps P N ops rest Q (put dst v T) H) :
  AOp P N ops ⟨dst, .call { callee := .value callee, args := args.toArray, argTypes := ats }, ty, pos, after, guard⟩ rest Q T H :=
 AOp.pure (fun fr w act s st => by
  obtain ⟨fs, cs, e1, r1, r2⟩ := (zad st hf).fn_inv; have r3 := zcS st ha; obtain ⟨u, h1, h2⟩ := he w _ _ ((r1.append r3).append r2); have e2 : ((fs.toList ++ args.map act.eval) ++ cs.toList).toArray = fs ++ args.toArray.map act.eval ++ cs := by simp
  rw [e2] at h1; refine ⟨u, ?_, h2⟩; simp only [execOp, resolve, Deferred.ofValue, invoke, Sem.run_bind, Sem.run_pure, Result.andThen_ok, e1]; exact h1) hd kk
section
variable {P : Program} {E : Exts} {N : NN} {L : Lay} {call : zgg} {ρ : Nat → Nat} {n : Nat} {lo : Nat → Bool} {fz : Nat → Prop} {T : Tre A} {H : Tre Blk} {T' : Env} {H' : Heap}
theorem ziW (hL : zag P L) (hE : zc2 P E) (hc : zgG P call) (c : Cfg ρ n lo fz T H T' H') {o : Oper} (hd : zae N o.dst = true) {v : A} {H1 : Tre Blk} {n1 : Nat} (h : evOp P E L call lo T H n o.op = some (v, H1, n1))
  {ops rest : List Oper} {Q : Exit → Env → Heap → Prop} (k : ∀ r H1', Out ρ n lo fz H' v H1 n1 r H1' → AOps P N ops rest Q (put o.dst r T') H1') : AOp P N ops o rest Q T' H' := by
 obtain ⟨dst, op, ty, pos, after, guard⟩ := o; simp only at h hd k; unfold evOp at h; split at h
 ·split at h
  ·rename_i hf
   have hf' := c.r.ev hf; have sf := c.s.ev hf; simp only [ren] at hf'; simp only [scope, Bool.and_eq_true] at sf; split at h
   ·rename_i ha
    have ha' := c.r.evs ha; have sa := c.s.evs ha; split at h
    ·rename_i v' hv
     split at h
     ·rename_i hs
      cases h; refine AOp.callExt hf' ha' (fun w o vs hr => hE _ _ _ hv ρ w o vs ?_) hd (k _ _ ⟨ρ, rfl, hs, c.g, Ltr.refl ..⟩); rw [zaZ, zaZ]; exact hr
     ·cases h
    ·have ht := hc _ _ _ _ _ _ _ _ h ρ fz H' (zbx (zbx sf.1 sa) sf.2) c.g
     simp only [zaZ] at ht; refine AOp.callFn (F := []) hf' ha' hd (by simp) ht fun r H1' hr => ?_; rw [List.append_nil]; exact k r H1' hr
   ·cases h
  ·cases h
 ·split at h
  ·rename_i v' hv
   split at h
   ·rename_i hs
    cases h; exact AOp.simple hL (zm0 c.r hv) hd (k _ _ ⟨ρ, rfl, hs, c.g, Ltr.refl ..⟩)
   ·cases h
  ·split at h
   ·rename_i e he
    exact zf5 (zfr hL c.r c.g hd he) c.g h k
   ·cases h
theorem Cfg.next {v : A} {H1 : Tre Blk} {n1 : Nat} {r : A} {H1' : Heap} (c : Cfg ρ n lo fz T H T' H') (h : Out ρ n lo fz H' v H1 n1 r H1') (d : Option Nat) : ∃ ρ1, Cfg ρ1 n1 lo fz (putC d v T) H1 (put d r T') H1' ∧ Ltr ρ n fz H' ρ1 n1 H1' := by
 obtain ⟨ρ1, rfl, hs, g, l⟩ := h; exact ⟨ρ1, ⟨(c.r.later c.s l.agree).put d v, (c.s.mono l.le).put d hs, g⟩, l⟩
theorem zcw {T : Tre A} : ∀ {ts : List Nat} {t : Nat} {x : A}, (zcc T ts).get t = some x → T.get t = some x ∧ t ∈ ts
 | [], t, x, h => by simp [zcc, Tre.get] at h
 | u :: ts, t, x, h => by
  simp only [zcc] at h; split at h
  ·rename_i v hv
   rcases Tre.get_set _ _ _ _ _ _ h with ⟨h1, h2⟩ | ⟨h1, h2⟩
   ·subst h1; cases h2; exact ⟨hv, List.mem_cons_self ..⟩
   ·obtain ⟨k1, k2⟩ := zcw h2
    exact ⟨k1, List.mem_cons_of_mem _ k2⟩
  ·obtain ⟨k1, k2⟩ := zcw h
   exact ⟨k1, List.mem_cons_of_mem _ k2⟩
theorem zfM {T' : Env} {t : Nat} {y : A} (h : get T' t = some y) : ∀ {ts : List Nat}, t ∈ ts → get (restr T' ts) t = some y
 | [], hm => by cases hm
 | u :: ts, hm => by
  simp only [restr]; by_cases e : u = t
  ·subst e; rw [h]; simp only [zau, if_true]
  ·have hm : t ∈ ts := by
    rcases List.mem_cons.1 hm with rfl | hm
    ·exact absurd rfl e
    ·exact hm
   split
   ·rw [zau, if_neg e]; exact zfM h hm
   ·exact zfM h hm
theorem Cfg.restr (c : Cfg ρ n lo fz T H T' H') (ts : List Nat) : Cfg ρ n lo fz (zcc T ts) H (Go.Abs.restr T' ts) H' :=
 ⟨fun t x hx => by obtain ⟨k1, k2⟩ := zcw hx; exact zfM (c.r t x k1) k2, fun t x hx => c.s t x (zcw hx).1, c.g⟩
theorem zjZ {ops : List Oper} {o : Oper} (hT : EnvR ρ T T') {b : Bool} (h : zls ops T o = some b) : zas ops.toArray T' o = some b := by
 unfold zls at h; unfold zas; split at h
 ·rename_i hg; rw [hg]; exact h
 ·rename_i j b hg
  rw [hg]; simp only [List.getElem?_toArray]; split at h
  ·cases h
  ·rename_i d hdj
   rw [hdj]; simp only; split at h
   ·rename_i b' hb
    have hb := hT d _ hb; simp only [ren] at hb; rw [hb]; exact h
   ·rename_i l hb
    have hb := hT d _ hb; simp only [ren] at hb; rw [hb]; exact h
   ·cases h
theorem zb6 {α : Type} : ∀ {l m : List α}, l.Nodup → (∀ x ∈ l, x ∈ m) → ∃ G, m.Perm (G ++ l)
 | [], m, _, _ => ⟨m, by simp⟩
 | a :: l, m, hn, h => by
  obtain ⟨m', hm⟩ := zbZ (h a (List.mem_cons_self ..)); obtain ⟨h1, h2⟩ := List.nodup_cons.1 hn; obtain ⟨G, hG⟩ := zb6 h2 (m := m') fun x hx => by
   rcases List.mem_cons.1 (hm.mem_iff.1 (h x (List.mem_cons_of_mem _ hx))) with e | e
   ·subst e; exact absurd hx h1
   ·exact e
  exact ⟨G, hm.trans ((hG.cons a).trans List.perm_middle.symm)⟩
theorem zb3 {H : Heap} (h : (keys H).Nodup) : H.Nodup := List.Pairwise.of_map _ (fun a b hab e => hab (by rw [e])) h
theorem zfy {n : Nat} {T : Tre A} : ∀ {ts : List Nat}, zhO n T ts = true → ∀ t x, t ∈ ts → T.get t = some x → scope n x = true
 | [], _, t, x, hm, _ => by cases hm
 | u :: ts, h, t, x, hm, hx => by
  simp only [zhO] at h; split at h
  ·rename_i v hv
   simp only [Bool.and_eq_true] at h; rcases List.mem_cons.1 hm with rfl | hm
   ·rw [hx] at hv; cases hv; exact h.1
   ·exact zfy h.2 t x hm hx
  ·rename_i hv
   rcases List.mem_cons.1 hm with rfl | hm
   ·rw [hx] at hv; cases hv
   ·exact zfy h t x hm hx
theorem zgP (hL : zag P L) (hE : zc2 P E) (hc : zgG P call) (c : Cfg ρ n lo fz T H T' H') {o : Oper} (hd : zae N o.dst = true) {v v2 : A} {H1 : Tre Blk} {n1 : Nat} (h : evOp P E L call (fun i => Nat.ble n i) T H n o.op = some (v, H1, n1))
  (hdp : zgr n H1 20 v = some v2) (hs : scope n v2 = true) : AOp P N [] o [] (Qn o T' fun r K => r = ren ρ v2 ∧ K = H') T' H' := by
 have cq : Cfg ρ n (fun i => Nat.ble n i) (fun k => k ∈ keys H') T H T' H' := ⟨c.r, c.s, ⟨c.g.mem, c.g.inj, c.g.nodup, fun i hi hn => absurd hi (by have := Nat.le_of_ble_eq_true hn; omega), fun i hi => Nat.ble_eq_true_of_le hi, fun k hk => hk⟩⟩; refine ziW hL hE hc cq hd h fun r H1' hr => ?_; obtain ⟨ρ1, rfl, hs1, g1, l1⟩ := hr; obtain ⟨G, hG⟩ := zb6 (zb3 c.g.nodup) (m := H1') fun p hp => l1.keep p hp (zbG hp); have e2 : ren ρ1 v2 = ren ρ v2 := zbn l1.agree v2 hs; refine AOps.conv (r2 := ren ρ v2) hG (fun fr w u s hr => ?_) (AOps.nil (Qn_n ⟨rfl, rfl⟩)); rw [← e2]; exact zhx g1 (fun k hk => hk) s 20 v v2 u hdp hr
mutual
theorem zfu (ρ : Nat → Nat) : ∀ (v : A) (u : Value), datA v = some u → datA (ren ρ v) = some u
 | .int k n, u, h => by simpa only [ren] using h
 | .bool b, u, h => by simpa only [ren] using h
 | .str s, u, h => by simpa only [ren] using h
 | .agg l, u, h => by
  simp only [datA] at h; split at h
  ·rename_i vs hvs
   simp only [ren, datA, zjA ρ l vs hvs]; exact h
  ·cases h
 | .iface t x, u, h => by
  simp only [datA] at h; split at h
  ·rename_i u' hu
   simp only [ren, datA, zfu ρ x _ hu]; exact h
  ·cases h
 | .nilp, _, h | .ptr .., _, h | .dp _, _, h | .nils, _, h | .ds _, _, h | .os .., _, h | .nilm, _, h | .abs _ _, _, h | .map _, _, h | .nilf, _, h | .fn .., _, h | .nili, _, h | .tup _, _, h => by simp only [datA] at h; cases h
theorem zjA (ρ : Nat → Nat) : ∀ (l : List A) (us : List Value), datA.datL l = some us → datA.datL (renL ρ l) = some us
 | [], us, h => by simpa only [renL] using h
 | a :: l, us, h => by
  simp only [datA.datL] at h; split at h
  ·rename_i v1 vs1 h1 h2
   simp only [renL, datA.datL, zfu ρ a _ h1, zjA ρ l _ h2]; exact h
  ·cases h
end
theorem zll {P : Program} {N : NN} {ρ : Nat → Nat} {n : Nat} {lo : Nat → Bool} {fz : Nat → Prop} {H : Tre Blk} {H' : Heap} {o : Oper} {T' : Env} {e : Eff} (he : zeF P N ρ H o T' H' e) (g : Good ρ n lo fz H H') {v : A} {H1 : Tre Blk} {n1 : Nat} (h : zb8 lo H n e = some (v, H1, n1)) : NeR (Out ρ n lo fz H' v H1 n1) H' := by
 intro l; cases e with
 | pure x =>
  simp only [zb8] at h; split at h
  ·rename_i hs
   cases h; exact ⟨_, _, ⟨ρ, rfl, hs, g, Ltr.refl ..⟩, g.nodup, fun k hk _ => hk⟩
  ·cases h
 | new m b =>
  simp only [zb8] at h; split at h
  ·rename_i hs
   cases h; obtain ⟨r, hr⟩ := fresh (l ++ keys H'); have hr1 : r ∉ l := fun e => hr (List.mem_append.2 (.inl e)); have hr2 : r ∉ keys H' := fun e => hr (List.mem_append.2 (.inr e)); have gn := g.new hr2 hs; refine ⟨_, _, ⟨upd ρ n r, rfl, m.scope n, gn, fun i hi => zaM hi, Nat.le_succ _, fun p hp _ => List.mem_cons_of_mem _ hp⟩, gn.nodup, fun k hk hl => ?_⟩; rcases List.mem_cons.1 hk with e | e
   ·have e1 : k = _ := e
    simp only at e1; rw [e1] at hl; exact absurd hl hr1
   ·exact e
  ·cases h
 | write x i b' =>
  simp only [zb8] at h; split at h
  ·rename_i hb hs hl
   cases h; obtain ⟨b, hi, he⟩ := he; obtain ⟨H'', hat⟩ := At.of_mem (renB ρ b') (g.mem _ _ hi).2.2; refine ⟨_, _, ⟨ρ, rfl, hs, g.write hi hb hat, fun _ _ => rfl, Nat.le_refl _, fun p hp hf => hat.other hp fun e => ?_⟩, (g.write hi hb hat).nodup, fun k hk _ => by rw [hat.keys] at hk; exact hk⟩
   rw [e] at hf; exact g.fz i (g.mem _ _ hi).1 hl hf
  ·cases h
 | swap m i b' =>
  simp only [zb8] at h; split at h
  ·rename_i hb hl
   cases h; obtain ⟨b, Hr, hi, hp, he⟩ := he; obtain ⟨r, hr⟩ := fresh (l ++ keys Hr); have hr1 : r ∉ l := fun e => hr (List.mem_append.2 (.inl e)); have hr2 : r ∉ keys Hr := fun e => hr (List.mem_append.2 (.inr e)); have gs := g.swap hi hl hb hp hr2; refine ⟨_, _, ⟨upd ρ n r, rfl, m.scope n, gs, fun i hi => zaM hi, Nat.le_succ _, fun p hp' hf => ?_⟩, gs.nodup, fun k hk hkl => ?_⟩
   ·rcases List.mem_cons.1 (hp.mem_iff.1 hp') with e | e
    ·rw [e] at hf; exact absurd hf (g.fz i (g.mem _ _ hi).1 hl)
    ·exact List.mem_cons_of_mem _ e
   ·rcases List.mem_cons.1 hk with e | e
    ·have e1 : k = _ := e
     simp only at e1; rw [e1] at hkl; exact absurd hkl hr1
    ·exact (hp.map (·.1)).mem_iff.2 (List.mem_cons_of_mem _ e)
  ·cases h
 | free x i =>
  simp only [zb8] at h; split at h
  ·rename_i hs hl
   cases h; obtain ⟨b, Hr, hi, hp, he⟩ := he; have gf := g.free hi hl hp; refine ⟨_, _, ⟨ρ, rfl, hs, gf, fun _ _ => rfl, Nat.le_refl _, fun p hp' hf => ?_⟩, gf.nodup, fun k hk _ => (hp.map (·.1)).mem_iff.2 (List.mem_cons_of_mem _ hk)⟩; rcases List.mem_cons.1 (hp.mem_iff.1 hp') with e | e
   ·rw [e] at hf; exact absurd hf (g.fz i (g.mem _ _ hi).1 hl)
   ·exact e
  ·cases h
theorem zky {l : List (Nat × (Mk × Blk))} {d d' : Nat} {v : Mk × Blk} : getW ((d, v) :: l) d' = if d = d' then some v else getW l d' := by
 simp only [getW]; by_cases h : d = d'
 ·subst h; simp
 ·have : Nat.beq d d' = false := by
   cases hb : Nat.beq d d'
   ·rfl
   ·exact absurd (Nat.eq_of_beq_eq_true hb) h
  simp only [this, if_neg h]
theorem zj3 {d : Nat} : ∀ {l : List Nat}, memN d l = true → d ∈ l
 | [], h => by cases h
 | x :: l, h => by
  simp only [memN] at h; split at h
  ·rename_i e; rw [Nat.eq_of_beq_eq_true e]; exact List.mem_cons_self ..
  ·exact List.mem_cons_of_mem _ (zj3 h)
theorem zmM {H' B G Hr : Heap} {p : Nat × Blk} (hn : (keys H').Nodup) (hG : H'.Perm (G ++ B)) (hp : H'.Perm (p :: Hr)) (hb : p.1 ∉ keys B) : ∃ G', Hr.Perm (G' ++ B) := by
 have hm : p ∈ G ++ B := hG.mem_iff.1 (hp.mem_iff.2 (List.mem_cons_self ..)); rcases List.mem_append.1 hm with hm | hm
 ·obtain ⟨G', hG'⟩ := zbZ hm
  refine ⟨G', ?_⟩; have : (p :: Hr).Perm (p :: (G' ++ B)) := hp.symm.trans (hG.trans (hG'.append_right B)); exact List.Perm.cons_inv this
 ·exact absurd (zbG hm) hb
theorem zjL {ρ : Nat → Nat} {n : Nat} {lo : Nat → Bool} {fz : Nat → Prop} : ∀ {cons : List Nat} {H : Tre Blk} {H' : Heap} {H0 : Tre Blk}, Good ρ n lo fz H H' → zmx lo n cons H = some H0 → ∃ B G, Good ρ n lo fz H0 B ∧ H'.Perm (G ++ B) ∧ ∀ i ∈ cons, i < n ∧ ρ i ∉ keys B
 | [], H, H', H0, g, h => by
  simp only [zmx] at h; cases h; exact ⟨H', [], g, by simp, fun i hi => by cases hi⟩
 | i :: l, H, H', H0, g, h => by
  simp only [zmx] at h; split at h
  ·rename_i b hi hlo hlt
   obtain ⟨Hr, hp⟩ := zbZ (g.mem _ _ hi).2.2; have gf := g.free hi hlo hp; obtain ⟨B, G, h1, h2, h3⟩ := zjL gf h; refine ⟨B, (ρ i, renB ρ b) :: G, h1, hp.trans (h2.cons _), fun j hj => ?_⟩; rcases List.mem_cons.1 hj with rfl | hj
   ·refine ⟨by simpa [Nat.blt_eq] using hlt, fun e => ?_⟩
    have hnd : (keys ((ρ j, renB ρ b) :: Hr)).Nodup := (hp.map _).nodup_iff.1 g.nodup; refine (List.nodup_cons.1 hnd).1 ?_; exact (h2.map (·.1)).mem_iff.2 (by simp only [keys, List.map_append, List.mem_append]; exact .inr e)
   ·exact h3 j hj
  ·cases h
theorem zmm {ρ : Nat → Nat} {n : Nat} {lo : Nat → Bool} {fz : Nat → Prop} {H : Tre Blk} {H' : Heap} (g : Good ρ n lo fz H H') (cons : Nat → Bool) (hc : ∀ i, cons i = true → i < n ∧ (H.get i).isSome = true) :
  ∃ B G, Good ρ n lo fz (H.filt fun i => !(lo i && cons i)) B ∧ H'.Perm (G ++ B) ∧ ∀ i, lo i = true → cons i = true → i < n ∧ ρ i ∉ keys B := by
 classical
 have S0 : ∀ (S : Nat → Prop), (∀ k, S k ↔ ∃ j, lo j = true ∧ cons j = true ∧ ρ j = k) → ∃ B G, Good ρ n lo fz (H.filt fun i => !(lo i && cons i)) B ∧ H'.Perm (G ++ B) ∧ ∀ i, lo i = true → cons i = true → i < n ∧ ρ i ∉ keys B := by
  intro S hS; refine ⟨H'.filter (fun p => !decide (S p.1)), H'.filter (fun p => decide (S p.1)), ⟨fun i b hi => ?_, fun i j b c hi hj => ?_, ?_, g.fz, g.nw, fun k hk => ?_⟩, (List.filter_append_perm _ _).symm, fun i hl hi => ⟨(hc i hi).1, fun hm => ?_⟩⟩
  ·obtain ⟨h1, h2⟩ := Tre.filt_get hi
   obtain ⟨k1, k2, k3⟩ := g.mem i b h1; refine ⟨k1, k2, List.mem_filter.2 ⟨k3, ?_⟩⟩; simp only [Bool.not_eq_true', decide_eq_false_iff_not]; intro hs; obtain ⟨j, hl, hj, e⟩ := (hS _).1 hs; obtain ⟨c, hjc⟩ := Option.isSome_iff_exists.1 (hc j hj).2; have := g.inj j i c b hjc h1 e; subst this; simp [hl, hj] at h2
  ·exact g.inj i j b c (Tre.filt_get hi).1 (Tre.filt_get hj).1
  ·exact g.nodup.sublist ((List.filter_sublist).map _)
  ·obtain ⟨p, hp, rfl⟩ := List.mem_map.1 (g.fzk k hk)
   refine List.mem_map.2 ⟨p, List.mem_filter.2 ⟨hp, ?_⟩, rfl⟩; simp only [Bool.not_eq_true', decide_eq_false_iff_not]; intro hs; obtain ⟨j, hl, hj, e⟩ := (hS _).1 hs; exact g.fz j (hc j hj).1 hl (by rw [e]; exact hk)
  ·obtain ⟨p, hp, e⟩ := List.mem_map.1 hm
   have := (List.mem_filter.1 hp).2; simp only [Bool.not_eq_true', decide_eq_false_iff_not] at this; exact this ((hS _).2 ⟨i, hl, hi, e.symm⟩)
 exact S0 _ fun k => Iff.rfl
theorem zp8 {v : Option (Nat × A)} {V V' : Env} (h : addV v V = some V') : (∀ d x, get V d = some x → get V' d = some x) ∧ ∀ d x, v = some (d, x) → get V' d = some x := by
 unfold addV at h; split at h
 ·cases h; exact ⟨fun _ _ h => h, fun _ _ h => by cases h⟩
 ·rename_i d x
  split at h
  ·rename_i hV
   cases h; refine ⟨fun d' y hy => ?_, fun d' y hy => by cases hy; rw [zau, if_pos rfl]⟩
   rw [zau, if_neg]
   ·exact hy
   ·intro e; rw [e, hy] at hV; cases hV
  ·cases h
theorem zqI {v : Option (Nat × (Mk × Blk))} {V V' : List (Nat × (Mk × Blk))} (h : addW v V = some V') : (∀ d x, getW V d = some x → getW V' d = some x) ∧ ∀ d x, v = some (d, x) → getW V' d = some x := by
 unfold addW at h; split at h
 ·cases h; exact ⟨fun _ _ h => h, fun _ _ h => by cases h⟩
 ·rename_i d x
  split at h
  ·rename_i hV
   cases h; refine ⟨fun d' y hy => ?_, fun d' y hy => by cases hy; rw [zky, if_pos rfl]⟩
   rw [zky, if_neg]
   ·exact hy
   ·intro e; rw [e, hy] at hV; cases hV
  ·cases h
theorem zib (hL : zag P L) (hE : zc2 P E) (hc : zgG P call) {late uni hv : Oper → Bool} {ops : List Oper} {cons : Nat → Bool} {Q : Exit → Env → Heap → Prop} {ρ0 : Nat → Nat} {n0 : Nat} {H0 : Tre Blk} {B : Heap} (g0 : Good ρ0 n0 lo fz H0 B) (hcons : ∀ i, lo i = true → cons i = true → i < n0 ∧ ρ0 i ∉ keys B)
  {o : Oper} {rest : List Oper} {cl : Bool} {ρ : Nat → Nat} {n : Nat} {T : Tre A} {H : Tre Blk} {T' : Env} {H' : Heap} {st : Stp}
  (c : Cfg ρ n lo fz T H T' H') (hag : ∀ i, i < n0 → ρ i = ρ0 i) (hn0 : n0 ≤ n) (hcl : cl = true → (∃ G, H'.Perm (G ++ B)) ∧ ∀ i, n0 ≤ i → i < n → ρ i ∉ keys B)
  (h : zlN P E N.n L call lo late uni hv ops cons H0 n0 o rest.isEmpty cl T H n = some st) {bv : Nat → A} {nv : Nat → (Nat → A) × Blk}
  (k : match st with
   | .fin e => Q e T' H'
   | .go cl1 T1 H1 n1 v w => (∀ d x, v = some (d, x) → bv d = ren ρ0 x) ∧ (∀ d m b, w = some (d, (m, b)) → nv d = (m.on, renB ρ0 b)) ∧
    ∀ ρ1 T1' H1', Cfg ρ1 n1 lo fz T1 H1 T1' H1' → Ltr ρ n fz H' ρ1 n1 H1' → (∀ i, i < n0 → ρ1 i = ρ0 i) → n0 ≤ n1 → (cl1 = true → (∃ G, H1'.Perm (G ++ B)) ∧ ∀ i, n0 ≤ i → i < n1 → ρ1 i ∉ keys B) → zaB P N L ops.toArray late uni hv bv nv B Q rest T1' H1') :
  zaB P N L ops.toArray late uni hv bv nv B Q (o :: rest) T' H' := by
 unfold zlN at h; have cr := c.restr (o.looksAt ops.toArray); split at h
 ·cases h
 rename_i hd; have hd : zae N o.dst = true := hd; split at h
 ·cases h
 ·rename_i hw
  cases h; obtain ⟨_, _, k⟩ := k; have c1 : Cfg ρ n lo fz (putC o.dst (.tup []) T) H (put o.dst (.tup []) T') H' := ⟨by have := c.r.put o.dst (.tup []); simpa only [ren, renL] using this, c.s.put o.dst (by rfl), c.g⟩
  exact ⟨hd, .inr (.inl ⟨zjZ cr.r hw, k _ _ _ c1 (Ltr.refl ..) hag hn0 hcl⟩)⟩
 rename_i hw; have hw := zjZ cr.r hw; split at h
 ·-- a panic
  rename_i hpan; unfold zlK at h; split at h
  ·rename_i x hlast hg hop
   split at h
   ·rename_i t v hx
    have hx2 := cr.r.ev hx; simp only [ren] at hx2; split at h
    ·rename_i u hu
     cases h; exact ⟨hd, .inr (.inr (.inr (.inr (.inr (.inl ⟨hpan, by cases rest <;> simp_all, hg, x, t, _, u, hop, hx2, zfu ρ _ _ hu, T', H', fun _ _ h => h, List.Perm.refl _, k⟩)))))⟩
    ·cases h
   ·cases h
  ·cases h
 rename_i hpan; split at h
 ·-- a block, whatever else
  rename_i hun; unfold zmW at h; split at h
  ·rename_i d hc2 hdst _
   split at h
   ·rename_i m b he
    split at h
    ·rename_i hsb
     cases h; obtain ⟨_, kw, k⟩ := k; obtain ⟨⟨G, hG⟩, hfr⟩ := hcl rfl; have hb0 : renB ρ b = renB ρ0 b := zcC hag b hsb; have gl : Good ρ n lo (fun _ => False) .leaf [] := ⟨fun i b h => by simp [Tre.get] at h, fun i j b c h => by simp [Tre.get] at h, List.nodup_nil, fun i _ _ h => h, c.g.nw, fun k h => h.elim⟩
     have hef := zfr (N := N) hL cr.r gl hd he; have hnd := kw d m b rfl; refine ⟨hd, .inr (.inr (.inr (.inr (.inr (.inr ⟨⟨hun, Nat.eq_of_beq_eq_true hc2, G, hG⟩, hw, m.on, renB ρ0 b, by rw [hdst, Option.map_some, hnd], ?_, fun r0 hr0 => ?_⟩)))))⟩
     ·exact hef [] [] _ fun r0 _ => AOps.nil (Qn_n ⟨r0, rfl, by rw [hb0]⟩)
     ·have hsb' := zce hn0 b hsb
      rw [← hb0]; have c1 : Cfg (upd ρ n r0) (n + 1) lo fz (putC (some d) (m.on n) T) (Tre.set 40 H n (some b)) (put o.dst (m.on r0) T') ((r0, renB ρ b) :: H') := by
       refine ⟨?_, (c.s.mono (Nat.le_succ n)).put _ (m.scope n), c.g.new hr0 hsb'⟩; have := (c.r.later c.s (fun i hi => (zaM hi : upd ρ n r0 i = ρ i))).put (some d) (m.on n); rw [Mk.ren, zbV] at this; rw [hdst]; exact this
      refine k _ _ _ c1 ⟨fun i hi => zaM hi, Nat.le_succ _, fun p hp _ => List.mem_cons_of_mem _ hp⟩ (fun i hi => (zaM (by omega)).trans (hag i hi)) (by omega) (fun _ => ⟨⟨(r0, renB ρ b) :: G, hG.cons _⟩, fun i h0 h1 => ?_⟩); by_cases hi : i = n
      ·subst hi; rw [zbV]
       exact fun e => hr0 ((hG.map (·.1)).mem_iff.2 (by simp only [keys, List.map_append, List.mem_append]; exact .inr e))
      ·rw [zaM (by omega)]; exact hfr i h0 (by omega)
    ·cases h
   ·cases h
  ·cases h
 rename_i hun; split at h
 ·-- a call that turns memory
  rename_i hhv; unfold ziM at h; split at h
  ·rename_i hcv _
   split at h
   ·rename_i v H2 n2 ho
    cases h; obtain ⟨_, _, k⟩ := k; obtain ⟨⟨G, hG⟩, hfr⟩ := hcl rfl; have hBH : ∀ k, k ∈ keys B → k ∈ keys H' := fun k hk => (hG.map (·.1)).mem_iff.2 (by simp only [keys, List.map_append, List.mem_append]; exact .inr hk); have hop : ∃ cc args ats, o.op = .call { callee := .value cc, args := args, argTypes := ats } := by
     unfold zbz at hcv; split at hcv
     ·rename_i hq; exact ⟨_, _, _, hq⟩
     ·cases hcv
    obtain ⟨cc, args, ats, hop⟩ := hop; have hnb : ∀ i, i < n → lo i = true → or (cons i) (Nat.ble n0 i) = true → ρ i ∉ keys B := by
     intro i hi hlo hco; rcases Bool.or_eq_true _ _ |>.mp hco with hq | hq
     ·obtain ⟨k1, k2⟩ := hcons i hlo hq
      rw [hag i k1]; exact k2
     ·exact hfr i (Nat.le_of_ble_eq_true hq) hi
    have g2 : Good ρ n (fun i => and (lo i) (or (cons i) (Nat.ble n0 i))) (fun k => fz k ∨ k ∈ keys B) H H' := by
     refine ⟨c.g.mem, c.g.inj, c.g.nodup, fun i hi hl => ?_, fun i hi => ?_, fun k hk => ?_⟩
     ·have hl := (Bool.and_eq_true _ _).mp hl
      rintro (hz | hz)
      ·exact c.g.fz i hi hl.1 hz
      ·exact hnb i hi hl.1 hl.2 hz
     ·rw [c.g.nw i hi, show Nat.ble n0 i = true from Nat.ble_eq_true_of_le (by omega), Bool.or_true]; rfl
     ·rcases hk with hk | hk
      ·exact c.g.fzk k hk
      ·exact hBH k hk
    have cr2 : Cfg ρ n (fun i => and (lo i) (or (cons i) (Nat.ble n0 i))) (fun k => fz k ∨ k ∈ keys B) (zcc T (o.looksAt ops.toArray)) H (restr T' (o.looksAt ops.toArray)) H' := ⟨cr.r, cr.s, g2⟩; refine ⟨hd, .inr (.inr (.inr (.inl ⟨⟨by simp only [clsH, hhv], hun⟩, hw, Out ρ n (fun i => and (lo i) (or (cons i) (Nat.ble n0 i))) (fun k => fz k ∨ k ∈ keys B) H' v H2 n2, ⟨(fun e => by rw [hhv] at e; cases e), ziW hL hE hc cr2 hd ho fun r H1' hr => AOps.nil (Qn_n hr), fun _ _ => ⟨⟨G, hG⟩, fun r H1' hr => ?_⟩⟩, fun r H1' hr => ?_⟩)))⟩
    ·obtain ⟨ρ1, rfl, hs1, g1, l1⟩ := hr
     have hndB : B.Nodup := by
      have : ((G ++ B).map (fun p : Nat × Blk => p.1)).Nodup := (List.Perm.nodup_iff (List.Perm.map (fun p : Nat × Blk => p.1) hG)).1 c.g.nodup; rw [List.map_append] at this; exact zb3 (List.nodup_append.1 this).2.1
     exact zb6 hndB fun p hp => l1.keep p (hG.mem_iff.2 (List.mem_append.2 (.inr hp))) (.inr (zbG hp))
    ·obtain ⟨ρ1, rfl, hs1, g1, l1⟩ := hr
     have l2 : Ltr ρ n fz H' ρ1 n2 H1' := ⟨l1.agree, l1.le, fun p hp hf => l1.keep p hp (.inl hf)⟩; have hwr : ∀ i, n0 ≤ i → lo i = true → and (lo i) (or (cons i) (Nat.ble n0 i)) = true := fun i hi hl => by
      rw [hl, show Nat.ble n0 i = true from Nat.ble_eq_true_of_le hi, Bool.or_true]; rfl
     have g3 : Good ρ1 n2 lo fz H2 H1' := by
      refine ⟨g1.mem, g1.inj, g1.nodup, fun i hi hl hz => ?_, fun i hi => c.g.nw i (by have := l1.le; omega), fun k hk => g1.fzk k (.inl hk)⟩; by_cases hin : i < n
      ·rw [l1.agree i hin] at hz; exact c.g.fz i hin hl hz
      ·exact g1.fz i hi (hwr i (by omega) hl) (.inl hz)
     have hout : Out ρ n lo fz H' v H2 n2 (ren ρ1 v) H1' := ⟨ρ1, rfl, hs1, g3, l2⟩; obtain ⟨ρ2, c1, l3⟩ := c.next hout o.dst; have hndB : B.Nodup := by
      have : ((G ++ B).map (fun p : Nat × Blk => p.1)).Nodup := (List.Perm.nodup_iff (List.Perm.map (fun p : Nat × Blk => p.1) hG)).1 c.g.nodup; rw [List.map_append] at this; exact zb3 (List.nodup_append.1 this).2.1
     have c2 : Cfg ρ1 n2 lo fz (putC o.dst v T) H2 (put o.dst (ren ρ1 v) T') H1' := ⟨(c.r.later c.s l1.agree).put o.dst v, (c.s.mono l1.le).put o.dst hs1, g3⟩; refine k _ _ _ c2 l2 (fun i hi => (l1.agree i (by omega)).trans (hag i hi)) (by have := l1.le; omega) fun _ => ⟨zb6 hndB fun p hp => l1.keep p (hG.mem_iff.2 (List.mem_append.2 (.inr hp))) (.inr (zbG hp)), fun i h0 h1 hz => ?_⟩; by_cases hin : i < n
     ·rw [l1.agree i hin] at hz; exact hfr i h0 hin hz
     ·exact g1.fz i h1 (hwr i h0 (c.g.nw i (by omega))) (.inr hz)
   ·cases h
  ·cases h
 rename_i hhv; split at h
 ·-- early
  rename_i hearly; simp only [Bool.and_eq_true, Bool.not_eq_true'] at hearly; have hcls := Nat.eq_of_beq_eq_true hearly.1; unfold zhF at h; split at h
  ·rename_i d hdst hsc _
   have hsT : EnvS n0 (zcc T (o.looksAt ops.toArray)) := fun t x hx => by
    obtain ⟨k1, k2⟩ := zcw hx; exact zfy hsc t x k2 k1
   have cb : Cfg ρ0 n0 lo fz (zcc T (o.looksAt ops.toArray)) H0 (restr T' (o.looksAt ops.toArray)) B :=
    ⟨fun t x hx => by rw [zbn (fun i hi => (hag i hi).symm) x (hsT t x hx)]; exact cr.r t x hx, hsT, g0⟩
   split at h
   ·split at h
    ·rename_i v2 he
     split at h
     ·rename_i hs
      cases h; obtain ⟨kv, _, k⟩ := k; have hef := zfr (N := N) hL cb.r cb.g hd he; have e2 : ren ρ v2 = ren ρ0 v2 := zbn hag v2 hs; have c1 : Cfg ρ n lo fz (putC (some d) v2 T) H (put o.dst (ren ρ0 v2) T') H' := ⟨by rw [← e2, hdst]; exact c.r.put (some d) v2, c.s.put _ (zbg hn0 v2 hs), c.g⟩
      exact ⟨hd, .inr (.inr (.inr (.inr (.inl ⟨⟨hcls, hun, (hcl rfl).1⟩, hw, ren ρ0 v2, by rw [hdst, Option.map_some, kv d v2 rfl], hef [] [] _ (AOps.nil (Qn_n ⟨rfl, rfl⟩)), k _ _ _ c1 (Ltr.refl ..) hag hn0 hcl⟩))))⟩
     ·cases h
    ·cases h
   ·split at h
    ·rename_i v H2 n2 ho
     split at h
     ·rename_i v2 hdp
      split at h
      ·rename_i hs
       cases h; obtain ⟨kv, _, k⟩ := k; have e2 : ren ρ v2 = ren ρ0 v2 := zbn hag v2 hs; have c1 : Cfg ρ n lo fz (putC (some d) v2 T) H (put o.dst (ren ρ0 v2) T') H' := ⟨by rw [← e2, hdst]; exact c.r.put (some d) v2, c.s.put _ (zbg hn0 v2 hs), c.g⟩
       have hq := zgP (N := N) hL hE hc cb hd ho hdp hs; exact ⟨hd, .inr (.inr (.inr (.inr (.inl ⟨⟨hcls, hun, (hcl rfl).1⟩, hw, ren ρ0 v2, by rw [hdst, Option.map_some, kv d v2 rfl], hq, k _ _ _ c1 (Ltr.refl ..) hag hn0 hcl⟩))))⟩
      ·cases h
     ·cases h
    ·cases h
  ·cases h
 rename_i hearly; have hlate : clsH hv o = 1 → late o = true := fun e => by
  rw [e] at hearly; simpa using hearly
 unfold zkn at h; split at h
 ·rename_i v hv
  split at h
  ·rename_i hs hee
   cases h; obtain ⟨_, _, k⟩ := k; have c1 : Cfg ρ n lo fz (putC o.dst v T) H (put o.dst (ren ρ v) T') H' := ⟨c.r.put o.dst v, c.s.put o.dst hs, c.g⟩; exact ⟨hd, .inl ⟨⟨hlate, hee, hun⟩, hw, _, zgV (zm0 cr.r hv), k _ _ _ c1 (Ltr.refl ..) hag hn0 hcl⟩⟩
  ·cases h
 split at h
 ·rename_i v hv
  split at h
  ·rename_i hs hee
   cases h; obtain ⟨_, _, k⟩ := k; have c1 : Cfg ρ n lo fz (putC o.dst v T) H (put o.dst (ren ρ v) T') H' := ⟨c.r.put o.dst v, c.s.put o.dst hs, c.g⟩; exact ⟨hd, .inl ⟨⟨hlate, hee, hun⟩, hw, _, zqQ cr.r hv, k _ _ _ c1 (Ltr.refl ..) hag hn0 hcl⟩⟩
  ·cases h
 split at h
 ·rename_i hcv
  unfold zkc at h; split at h
  ·rename_i v H2 n2 ho
   split at h
   ·rename_i v2 hdp
    split at h
    ·rename_i hs
     cases h; obtain ⟨_, _, k⟩ := k; have c1 : Cfg ρ n lo fz (putC o.dst v2 T) H (put o.dst (ren ρ v2) T') H' := ⟨c.r.put o.dst v2, c.s.put o.dst hs, c.g⟩; have hop : ∃ cc args ats, o.op = .call { callee := .value cc, args := args, argTypes := ats } := by
      unfold zbz at hcv; split at hcv
      ·rename_i hq; exact ⟨_, _, _, hq⟩
      ·cases hcv
     obtain ⟨cc, args, ats, hop⟩ := hop; have hcl1 : clsH hv o = 1 := by simp only [clsH, hhv, cls, hop]
     have hnw : isEE o = false := by simp only [isEE, zoy, zqd, isSt, hop, Bool.or_false]
     exact ⟨hd, .inr (.inr (.inl ⟨⟨by rw [hcl1]; simp, hlate, (fun e => by rw [hnw] at e; cases e), hun⟩, hw, _, zgP (N := N) hL hE hc cr hd ho hdp hs, k _ _ _ c1 (Ltr.refl ..) hag hn0 hcl⟩))⟩
    ·cases h
   ·cases h
  ·cases h
 split at h
 ·rename_i e5 he
  have hef := zfr (N := N) hL cr.r c.g hd he; unfold zmw at h; split at h
  ·rename_i hel
   have hel' : isEE o = true → late o = true := fun e => by rw [e] at hel; simpa using hel
   split at h
   ·rename_i v
    split at h
    ·rename_i hs hcl0
     cases h; obtain ⟨_, _, k⟩ := k; have c1 : Cfg ρ n lo fz (putC o.dst v T) H (put o.dst (ren ρ v) T') H' := ⟨c.r.put o.dst v, c.s.put o.dst hs, c.g⟩; exact ⟨hd, .inr (.inr (.inl ⟨⟨(fun e => by rw [e] at hcl0; cases hcl0), hlate, hel', hun⟩, hw, _, hef [] [] _ (AOps.nil (Qn_n ⟨rfl, rfl⟩)), k _ _ _ c1 (Ltr.refl ..) hag hn0 hcl⟩))⟩
    ·cases h
   ·rename_i hnp
    split at h
    ·rename_i hc2
     split at h
     ·rename_i v H2 n2 ha
      cases h; obtain ⟨_, _, k⟩ := k; refine ⟨hd, .inr (.inr (.inr (.inl ⟨⟨Nat.eq_of_beq_eq_true hc2, hun⟩, hw, Out ρ n lo fz H' v H2 n2, ⟨fun _ => zll hef c.g ha, zf5 hef c.g ha fun r H1' hr => AOps.nil (Qn_n hr), fun hi hl => ?_⟩, fun r H1' hr => ?_⟩)))⟩
      ·rw [hhv, Bool.or_false] at hi; have := hel' hi; rw [hl] at this; cases this
      ·obtain ⟨ρ1, c1, l1⟩ := c.next hr o.dst
       exact k _ _ _ c1 l1 (fun i hi => (l1.agree i (by omega)).trans (hag i hi)) (by have := l1.le; omega) (fun e => by cases e)
     ·cases h
    ·cases h
  ·rename_i hel
   split at h
   ·rename_i m b hc2 _
    split at h
    ·rename_i hsb
     cases h; obtain ⟨_, _, k⟩ := k; obtain ⟨⟨G, hG⟩, hfr⟩ := hcl rfl; have hsub : ∀ k, k ∈ keys B → k ∈ keys H' := fun k hk => (hG.map (·.1)).mem_iff.2 (by simp only [keys, List.map_append, List.mem_append]; exact .inr hk); refine ⟨hd, .inr (.inr (.inr (.inl ⟨⟨Nat.eq_of_beq_eq_true hc2, hun⟩, hw, fun r H1' => ∃ r0, r0 ∉ keys H' ∧ r = m.on r0 ∧ H1' = (r0, renB ρ b) :: H', ⟨?_, hef [] [] _ fun r0 hr0 => AOps.nil (Qn_n ⟨r0, hr0, rfl, rfl⟩), fun _ _ => ⟨⟨G, hG⟩, ?_⟩⟩, ?_⟩)))⟩
     ·intro _ l
      obtain ⟨r0, hr0⟩ := fresh (l ++ keys H'); have hr1 : r0 ∉ l := fun e => hr0 (List.mem_append.2 (.inl e)); have hr2 : r0 ∉ keys H' := fun e => hr0 (List.mem_append.2 (.inr e)); refine ⟨_, _, ⟨r0, hr2, rfl, rfl⟩, List.nodup_cons.2 ⟨hr2, c.g.nodup⟩, fun k hk hkl => ?_⟩; rcases List.mem_cons.1 hk with e | e
      ·have e1 : k = _ := e
       simp only at e1; rw [e1] at hkl; exact absurd hkl hr1
      ·exact e
     ·rintro r H1' ⟨r0, hr0, rfl, rfl⟩
      exact ⟨(r0, renB ρ b) :: G, hG.cons _⟩
     ·rintro r H1' ⟨r0, hr0, rfl, rfl⟩
      have c1 : Cfg (upd ρ n r0) (n + 1) lo fz (putC o.dst (m.on n) T) (Tre.set 40 H n (some b)) (put o.dst (m.on r0) T') ((r0, renB ρ b) :: H') := by
       refine ⟨?_, (c.s.mono (Nat.le_succ n)).put _ (m.scope n), c.g.new hr0 hsb⟩; have := (c.r.later c.s (fun i hi => (zaM hi : upd ρ n r0 i = ρ i))).put o.dst (m.on n); rw [Mk.ren, zbV] at this; exact this
      refine k _ _ _ c1 ⟨fun i hi => zaM hi, Nat.le_succ _, fun p hp _ => List.mem_cons_of_mem _ hp⟩ (fun i hi => (zaM (by omega)).trans (hag i hi)) (by omega) (fun _ => ⟨⟨(r0, renB ρ b) :: G, hG.cons _⟩, fun i h0 h1 => ?_⟩); by_cases hi : i = n
      ·subst hi; rw [zbV]; exact fun e => hr0 (hsub _ e)
      ·rw [zaM (by omega)]; exact hfr i h0 (by omega)
    ·cases h
   ·rename_i v hc2 _
    split at h
    ·rename_i hs
     cases h; obtain ⟨_, _, k⟩ := k; obtain ⟨⟨G, hG⟩, hfr⟩ := hcl rfl; have c1 : Cfg ρ n lo fz (putC o.dst v T) H (put o.dst (ren ρ v) T') H' := ⟨c.r.put o.dst v, c.s.put o.dst hs, c.g⟩; refine ⟨hd, .inr (.inr (.inr (.inl ⟨⟨Nat.eq_of_beq_eq_true hc2, hun⟩, hw, fun r H1' => r = ren ρ v ∧ H1' = H', ⟨fun _ l => ⟨_, _, ⟨rfl, rfl⟩, c.g.nodup, fun k hk _ => hk⟩, hef [] [] _ (AOps.nil (Qn_n ⟨rfl, rfl⟩)), fun _ _ => ⟨⟨G, hG⟩, ?_⟩⟩, ?_⟩)))⟩
     ·rintro r H1' ⟨rfl, rfl⟩; exact ⟨G, hG⟩
     ·rintro r H1' ⟨rfl, rfl⟩
      exact k _ _ _ c1 (Ltr.refl ..) hag hn0 (fun _ => ⟨⟨G, hG⟩, hfr⟩)
    ·cases h
   ·rename_i m i b' hc2 _
    split at h
    ·rename_i hsb hlo hco
     cases h; obtain ⟨_, _, k⟩ := k; obtain ⟨⟨G, hG⟩, hfr⟩ := hcl rfl; obtain ⟨b, Hr, hi, hp, hef⟩ := hef; have hib : ρ i ∉ keys B := by
      rcases Bool.or_eq_true _ _ |>.mp hco with hq | hq
      ·obtain ⟨k1, k2⟩ := hcons i hlo hq
       rw [hag i k1]; exact k2
      ·exact hfr i (Nat.le_of_ble_eq_true hq) (c.g.mem _ _ hi).1
     obtain ⟨Gr, hGr⟩ := zmM c.g.nodup hG hp hib; have hsub : ∀ k, k ∈ keys B → k ∈ keys Hr := fun k hk => (hGr.map (·.1)).mem_iff.2 (by simp only [keys, List.map_append, List.mem_append]; exact .inr hk); have hlo' := hlo; refine ⟨hd, .inr (.inr (.inr (.inl ⟨⟨Nat.eq_of_beq_eq_true hc2, hun⟩, hw, fun r H1' => ∃ r0, r0 ∉ keys Hr ∧ r = m.on r0 ∧ H1' = (r0, renB ρ b') :: Hr, ⟨?_, hef [] [] _ fun r0 hr0 => AOps.nil (Qn_n ⟨r0, hr0, rfl, rfl⟩), fun _ _ => ⟨⟨G, hG⟩, ?_⟩⟩, ?_⟩)))⟩
     ·intro _ l
      obtain ⟨r0, hr0⟩ := fresh (l ++ keys Hr); have hr1 : r0 ∉ l := fun e => hr0 (List.mem_append.2 (.inl e)); have hr2 : r0 ∉ keys Hr := fun e => hr0 (List.mem_append.2 (.inr e)); have hnd : (keys ((ρ i, renB ρ b) :: Hr)).Nodup := (hp.map _).nodup_iff.1 c.g.nodup; refine ⟨_, _, ⟨r0, hr2, rfl, rfl⟩, List.nodup_cons.2 ⟨hr2, (List.nodup_cons.1 hnd).2⟩, fun k hk hkl => ?_⟩; rcases List.mem_cons.1 hk with e | e
      ·have e1 : k = _ := e
       simp only at e1; rw [e1] at hkl; exact absurd hkl hr1
      ·exact (hp.map (·.1)).mem_iff.2 (List.mem_cons_of_mem _ e)
     ·rintro r H1' ⟨r0, hr0, rfl, rfl⟩
      exact ⟨(r0, renB ρ b') :: Gr, hGr.cons _⟩
     ·rintro r H1' ⟨r0, hr0, rfl, rfl⟩
      have gs := c.g.swap hi hlo' hsb hp hr0; have c1 : Cfg (upd ρ n r0) (n + 1) lo fz (putC o.dst (m.on n) T) (Tre.set 40 (Tre.set 40 H i none) n (some b')) (put o.dst (m.on r0) T') ((r0, renB ρ b') :: Hr) := by
       refine ⟨?_, (c.s.mono (Nat.le_succ n)).put _ (m.scope n), gs⟩; have := (c.r.later c.s (fun i hi => (zaM hi : upd ρ n r0 i = ρ i))).put o.dst (m.on n); rw [Mk.ren, zbV] at this; exact this
      refine k _ _ _ c1 ⟨fun i hi => zaM hi, Nat.le_succ _, fun p hp' hf => by
       rcases List.mem_cons.1 (hp.mem_iff.1 hp') with e | e
       ·rw [e] at hf; exact absurd hf (c.g.fz i (c.g.mem _ _ hi).1 hlo')
       ·exact List.mem_cons_of_mem _ e⟩ (fun i hi => (zaM (by omega)).trans (hag i hi)) (by omega) (fun _ => ⟨⟨(r0, renB ρ b') :: Gr, hGr.cons _⟩, fun j h0 h1 => ?_⟩)
      by_cases hi : j = n
      ·subst hi; rw [zbV]; exact fun e => hr0 (hsub _ e)
      ·rw [zaM (by omega)]; exact hfr j h0 (by omega)
    ·cases h
   ·rename_i v i b' hc2 _
    split at h
    ·rename_i hsb hsv hco
     have hco := (Bool.and_eq_true _ _).mp hco; cases h; obtain ⟨_, _, k⟩ := k; obtain ⟨⟨G, hG⟩, hfr⟩ := hcl rfl; obtain ⟨b, hi, hef⟩ := hef; have hib : ρ i ∉ keys B := by
      rcases Bool.or_eq_true _ _ |>.mp hco.2 with hq | hq
      ·obtain ⟨k1, k2⟩ := hcons i hco.1 hq
       rw [hag i k1]; exact k2
      ·exact hfr i (Nat.le_of_ble_eq_true hq) (c.g.mem _ _ hi).1
     have pres : ∀ H'', At H' (ρ i) (renB ρ b) (renB ρ b') H'' → ∃ G', H''.Perm (G' ++ B) := by
      intro H'' hat; have hndB : B.Nodup := by
       have : ((G ++ B).map (fun p : Nat × Blk => p.1)).Nodup := (List.Perm.nodup_iff (List.Perm.map (fun p : Nat × Blk => p.1) hG)).1 c.g.nodup; rw [List.map_append] at this; exact zb3 (List.nodup_append.1 this).2.1
      exact zb6 hndB fun p hp => hat.other (hG.mem_iff.2 (List.mem_append.2 (.inr hp))) fun e => hib (by rw [← e]; exact zbG hp)
     refine ⟨hd, .inr (.inr (.inr (.inl ⟨⟨Nat.eq_of_beq_eq_true hc2, hun⟩, hw, fun r H1' => r = ren ρ v ∧ At H' (ρ i) (renB ρ b) (renB ρ b') H1', ⟨?_, ?_, fun _ _ => ⟨⟨G, hG⟩, ?_⟩⟩, ?_⟩)))⟩
     ·intro _ l
      obtain ⟨H'', hat⟩ := At.of_mem (renB ρ b') (c.g.mem _ _ hi).2.2; exact ⟨_, H'', ⟨rfl, hat⟩, (c.g.write hi hsb hat).nodup, fun k hk _ => by rw [hat.keys] at hk; exact hk⟩
     ·obtain ⟨H'', hat⟩ := At.of_mem (renB ρ b') (c.g.mem _ _ hi).2.2
      exact hef [] [] _ H'' hat (AOps.nil (Qn_n ⟨rfl, hat⟩))
     ·rintro r H1' ⟨rfl, hat⟩; exact pres H1' hat
     ·rintro r H1' ⟨rfl, hat⟩
      have gw := c.g.write hi hsb hat; have c1 : Cfg ρ n lo fz (putC o.dst v T) (Tre.set 40 H i (some b')) (put o.dst (ren ρ v) T') H1' := ⟨c.r.put o.dst v, c.s.put o.dst hsv, gw⟩; exact k _ _ _ c1 ⟨fun _ _ => rfl, Nat.le_refl _, fun p hp hf => hat.other hp fun e => by rw [e] at hf; exact c.g.fz i (c.g.mem _ _ hi).1 hco.1 hf⟩ hag hn0 (fun _ => ⟨pres H1' hat, hfr⟩)
    ·cases h
   ·cases h
 ·cases h
theorem zh3 (hL : zag P L) (hE : zc2 P E) (hc : zgG P call) {late uni hv : Oper → Bool} {ops : List Oper} {cons : Nat → Bool} {Q : Exit → Env → Heap → Prop} {e : Exit} {T1 : Tre A} {H1 : Tre Blk} {n1 : Nat} {ρ0 : Nat → Nat} {n0 : Nat} {H0 : Tre Blk} {B : Heap} (g0 : Good ρ0 n0 lo fz H0 B) (hcons : ∀ i, lo i = true → cons i = true → i < n0 ∧ ρ0 i ∉ keys B) :
  ∀ (rest : List Oper) {cl : Bool} {ρ : Nat → Nat} {n : Nat} {T : Tre A} {H : Tre Blk} {T' : Env} {H' : Heap} {V : Env} {W : List (Nat × (Mk × Blk))},
  Cfg ρ n lo fz T H T' H' → (∀ i, i < n0 → ρ i = ρ0 i) → n0 ≤ n → (cl = true → (∃ G, H'.Perm (G ++ B)) ∧ ∀ i, n0 ≤ i → i < n → ρ i ∉ keys B) → ziw P E N.n L call lo late uni hv ops cons H0 n0 rest cl T H n = some (e, T1, H1, n1, V, W) →
  (∀ ρ1 T1' H1', Cfg ρ1 n1 lo fz T1 H1 T1' H1' → Ltr ρ n fz H' ρ1 n1 H1' → Q e T1' H1') → ∀ (bv : Nat → A) (nv : Nat → (Nat → A) × Blk), (∀ d x, get V d = some x → bv d = ren ρ0 x) → (∀ d m b, getW W d = some (m, b) → nv d = (m.on, renB ρ0 b)) → zaB P N L ops.toArray late uni hv bv nv B Q rest T' H'
 | [], cl, ρ, n, T, H, T', H', V, W, c, hag, hn0, hcl, h, k, bv, nv, hbv, hnv => by
  simp only [ziw] at h; cases h; exact ⟨T', H', fun _ _ h => h, List.Perm.refl _, k _ _ _ c (Ltr.refl ..)⟩
 | o :: rest, cl, ρ, n, T, H, T', H', V, W, c, hag, hn0, hcl, h, k, bv, nv, hbv, hnv => by
  simp only [ziw] at h; split at h
  ·cases h
  ·rename_i e' hst
   cases h; exact zib hL hE hc g0 hcons c hag hn0 hcl hst (k _ _ _ c (Ltr.refl ..))
  ·rename_i cl1 T2 H2 n2 v w hst
   split at h
   ·cases h
   ·rename_i e' T3 H3 n3 V3 W3 hrest
    split at h
    ·rename_i V4 W4 hV hW
     cases h; obtain ⟨hV1, hV2⟩ := zp8 hV; obtain ⟨hW1, hW2⟩ := zqI hW; refine zib hL hE hc g0 hcons c hag hn0 hcl hst ⟨fun d x hx => hbv d x (hV2 d x hx), fun d m b hx => hnv d m b (hW2 d _ hx), fun ρ1 T1' H1' c1 l1 ha1 hn1 hc1 => ?_⟩; exact zh3 hL hE hc g0 hcons rest c1 ha1 hn1 hc1 hrest (fun ρ2 T2' H2' c2 l2 => k _ _ _ c2 (l1.trans l2)) bv nv (fun d x hx => hbv d x (hV1 d x hx)) (fun d m b hx => hnv d m b (hW1 d _ hx))
    ·cases h
end
section
variable {P : Program} {E : Exts} {N : NN} {L : Lay} {call : zgg} {lo : Nat → Bool} {fuel : Nat} {fz : Nat → Prop}
theorem ziC {c : Code} {Q : Exit → Env → Heap → Prop} {e : Exit} {T1 : Tre A} {H1 : Tre Blk} {n1 : Nat} {step : Tre A → Tre Blk → Nat → Res}
  (hs : ∀ {Q : Exit → Env → Heap → Prop} {ρ : Nat → Nat} {n : Nat} {T : Tre A} {H : Tre Blk} {T' : Env} {H' : Heap} {e : Exit} {T1 : Tre A} {H1 : Tre Blk} {n1 : Nat}, Cfg ρ n lo fz T H T' H' → step T H n = some (e, T1, H1, n1) →
   (∀ ρ1 T1' H1', Cfg ρ1 n1 lo fz T1 H1 T1' H1' → Ltr ρ n fz H' ρ1 n1 H1' → Q e T1' H1') → AWp P N c Q T' H') :
  ∀ (f : Nat) {ρ : Nat → Nat} {n : Nat} {T : Tre A} {H : Tre Blk} {T' : Env} {H' : Heap}, Cfg ρ n lo fz T H T' H' → ziK step f T H n = some (e, T1, H1, n1) →
  (∀ ρ1 T1' H1', Cfg ρ1 n1 lo fz T1 H1 T1' H1' → Ltr ρ n fz H' ρ1 n1 H1' → Q e T1' H1') → AWp P N c (seqQ (AIn P N c Q) Q) T' H'
 | 0, ρ, n, T, H, T', H', cf, h, k => by simp [ziK] at h
 | f + 1, ρ, n, T, H, T', H', cf, h, k => by
  simp only [ziK] at h; split at h
  ·rename_i T2 H2 n2 hst
   refine hs cf hst fun ρ1 T1' H1' c1 l1 => zar ?_; exact AIn.round (ziC hs f c1 h fun ρ2 T2' H2' c2 l2 => k _ _ _ c2 (l1.trans l2))
  ·rename_i hne
   refine hs cf h fun ρ1 T1' H1' c1 l1 => ?_; have hq := k ρ1 T1' H1' c1 l1; cases e with
   | normal => exact absurd h (hne T1 H1 n1)
   | _ => exact hq
theorem zha {ρ : Nat → Nat} : ∀ {l : List A} {i t : Nat} {x : A}, (zeA i l).get t = some x → get (zbW i (renL ρ l)) t = some (ren ρ x)
 | [], i, t, x, h => by simp [zeA, Tre.get] at h
 | a :: l, i, t, x, h => by
  simp only [zeA] at h; simp only [renL, zbW, zau]; rcases Tre.get_set _ _ _ _ _ _ h with ⟨h1, h2⟩ | ⟨h1, h2⟩
  ·cases h2; rw [if_pos h1.symm]
  ·rw [if_neg (fun e => h1 e.symm)]; exact zha h2
theorem zdR {n : Nat} : ∀ {l : List A} {i t : Nat} {x : A}, zao n l = true → (zeA i l).get t = some x → scope n x = true
 | [], i, t, x, _, h => by simp [zeA, Tre.get] at h
 | a :: l, i, t, x, s, h => by
  simp only [zeA] at h; simp only [zao, Bool.and_eq_true] at s; rcases Tre.get_set _ _ _ _ _ _ h with ⟨h1, h2⟩ | ⟨h1, h2⟩
  ·cases h2; exact s.1
  ·exact zdR s.2 h2
def zkt (tmps : Array Value) : ResultVar → Sem Value
 | .tmp t => Pure.pure (tmps.getD t undef)
 | .cell a t => do loadVar t (← asAddr (tmps.getD a undef))
theorem zck (hL : zag P L) {ρ : Nat → Nat} {n : Nat} {T : Tre A} {H : Tre Blk} {T' : Env} {H' : Heap} (c : Cfg ρ n lo fz T H T' H') {rv : ResultVar} {v : A} (h : resV L T H rv = some v) {fr : Nat → Prop} {w : World} {a : Act} (s : Sim fr H' w) (st : St N w (own fr H') T' a) :
  ∃ u, (zkt a.tmps rv).run P w = .ok u w ∧ Rep w (own fr H') (ren ρ v) u := by
 unfold resV at h; split at h
 ·rename_i t
  exact ⟨_, by simp only [zkt, Sem.run_pure], zaO st (c.r _ _ h)⟩
 ·rename_i t ty
  split at h
  ·rename_i h1
   have h1 := c.r _ _ h1; simp only [ren] at h1; split at h
   ·rename_i hrow
    have hm := (c.g.mem _ _ hrow).2.2; simp only [renB] at hm; split at h
    ·rename_i hsz
     have hsz := Nat.eq_of_beq_eq_true hsz; subst hsz; split at h
     ·rename_i he
      split at h
      ·rename_i ti ht
       have hu := zaO st h1
       generalize h1' : a.tmps.getD t undef = u at hu
       cases hu; obtain ⟨vs, h2, h3, _, _⟩ := s.elem hm (by rw [za4, he]; rfl); obtain ⟨z, hz, hr⟩ := zbp (hL _ _ ht) h2 (h3.drop _) (by rw [zdi, h]; rfl); rw [add_plain] at hz; refine ⟨z, ?_, hr⟩; simp only [zkt, h1', asAddr, Sem.run_bind, Sem.run_pure, Result.andThen_ok, hz]
      ·cases h
     ·cases h
    ·cases h
   ·cases h
  ·cases h
theorem zhq (hL : zag P L) {fn : Func} {ρ : Nat → Nat} {n : Nat} {T : Tre A} {H : Tre Blk} {T' : Env} {H' : Heap} (c : Cfg ρ n lo fz T H T' H') {v : A} (h : resC L T H fn.results.toList = some v) : zac P fn N T' H' (ren ρ v) := by
 intro fr w a s st; have hdef : results fn a.tmps = (do
  let vs ← fn.results.mapM (zkt a.tmps)
  Pure.pure (if h : vs.size = 1 then vs[0] else .tuple vs)) := by
  unfold results; congr 2
 rw [hdef]; unfold resC at h; split at h
 ·rename_i hr
  cases h; have hr : fn.results = #[] := Array.toList_inj.1 (by simpa using hr); exact ⟨.tuple #[], by simp [hr], Rep.tup_of .nil⟩
 ·rename_i x hr
  have hr : fn.results = #[x] := Array.toList_inj.1 (by simpa using hr); obtain ⟨u, h1, h2⟩ := zck (N := N) hL c h s st; exact ⟨u, by simp [hr, h1], h2⟩
 ·rename_i x y hr
  have hr : fn.results = #[x, y] := Array.toList_inj.1 (by simpa using hr); split at h
  ·rename_i hx hy
   cases h; obtain ⟨u1, h1, r1⟩ := zck (N := N) hL c hx s st; obtain ⟨u2, h2, r2⟩ := zck (N := N) hL c hy s st; exact ⟨.tuple #[u1, u2], by simp [hr, h1, h2], by simp only [ren, renL]; exact Rep.tup_of (.cons r1 (.cons r2 .nil))⟩
  ·cases h
 ·rename_i x y z hr
  have hr : fn.results = #[x, y, z] := Array.toList_inj.1 (by simpa using hr); split at h
  ·rename_i hx hy hz
   cases h; obtain ⟨u1, h1, r1⟩ := zck (N := N) hL c hx s st; obtain ⟨u2, h2, r2⟩ := zck (N := N) hL c hy s st; obtain ⟨u3, h3, r3⟩ := zck (N := N) hL c hz s st; exact ⟨.tuple #[u1, u2, u3], by simp [hr, h1, h2, h3], by simp only [ren, renL]; exact Rep.tup_of (.cons r1 (.cons r2 (.cons r3 .nil)))⟩
  ·cases h
 ·rename_i x y z q hr
  have hr : fn.results = #[x, y, z, q] := Array.toList_inj.1 (by simpa using hr); split at h
  ·rename_i hx hy hz hq
   cases h; obtain ⟨u1, h1, r1⟩ := zck (N := N) hL c hx s st; obtain ⟨u2, h2, r2⟩ := zck (N := N) hL c hy s st; obtain ⟨u3, h3, r3⟩ := zck (N := N) hL c hz s st; obtain ⟨u4, h4, r4⟩ := zck (N := N) hL c hq s st; exact ⟨.tuple #[u1, u2, u3, u4], by simp [hr, h1, h2, h3, h4], by simp only [ren, renL]; exact Rep.tup_of (.cons r1 (.cons r2 (.cons r3 (.cons r4 .nil))))⟩
  ·cases h
 ·cases h
end
inductive Fin where
 | ret (v : A)
 | pan (u : Value)
def zq8 (w : World) (o : Nat → Prop) : Fin → Ending → Prop
 | .ret r, e => ∃ v, e = .returned v ∧ Rep w o r v
 | .pan u, e => e = .panicked [{ v := u, recovered := false }]
structure TrF (P : Program) (f : FuncId) (args : List A) (H : Heap) (R : Fin → Heap → Prop) : Prop where
 can : zcT P f
 run : ∀ (fr : Nat → Prop) (w : World) (vs : List Value), Sim fr H w → RepL w (own fr H) args vs →
  Calls P f vs.toArray w fun e w' => ∃ x H', R x H' ∧ zq8 w' (own fr H') x e ∧ Sim fr H' w' ∧ Ext H w H' w'
section
variable {P : Program} {N : NN} {Q : Exit → Env → Heap → Prop} {T : Env} {H : Heap}
theorem TrF.toTr {f : FuncId} {args : List A} {R : A → Heap → Prop} (h : TrF P f args H fun x H' => ∃ r, x = .ret r ∧ R r H') : Tr P f args H R :=
 ⟨h.can, fun fr w vs s a => (h.run fr w vs s a).mono fun _ _ ⟨x, H', ⟨r, hx, hR⟩, hf, s', xx⟩ => by
  subst hx; obtain ⟨v, he, hv⟩ := hf; exact ⟨r, H', v, he, hR, s', hv, xx⟩⟩
theorem TrF.frame {f : FuncId} {args : List A} {R : Fin → Heap → Prop} (F : Heap) (h : TrF P f args H R) : TrF P f args (H ++ F) fun r H' => ∃ H0, R r H0 ∧ H' = H0 ++ F := by
 refine ⟨h.can, fun fr w vs s as => ?_⟩; rw [zbC] at as; refine (h.run _ w vs s.split as).mono ?_; rintro e w' ⟨x, H', hR, hf, s', xx⟩; refine ⟨x, H' ++ F, ⟨H', hR, rfl⟩, ?_, s.join s' xx, xx.frame⟩; rw [zbC]; exact hf
theorem AOp.callF {ops rest : List Oper} {dst : Option Nat} {callee : Operand} {args : List Operand} {ats : Array TypeId} {ty : TypeId} {pos : String} {after : Array Edge} {guard : Option (Nat × Bool)}
  {f : FuncId} {first cap as : List A} {Hc F : Heap} {R : Fin → Heap → Prop} (hf : ev T callee = some (.fn f first cap)) (ha : evs T args = some as) (hd : zae N dst = true)
  (hH : H.Perm (Hc ++ F)) (ht : TrF P f (first ++ as ++ cap) Hc R) (k : ∀ r H', R (.ret r) H' → AOps P N ops rest Q (put dst r T) (H' ++ F))
  (kp : ∀ u H', R (.pan u) H' → Q (.panic [{ v := u, recovered := false }]) T (H' ++ F)) :
  AOp P N ops ⟨dst, .call { callee := .value callee, args := args.toArray, argTypes := ats }, ty, pos, after, guard⟩ rest Q T H := by
 refine ⟨fun fr w a s st => ?_⟩; have s1 := s.perm hH; have e1 : own fr H = own fr (Hc ++ F) := zaz hH; rw [e1] at st; obtain ⟨fs, cs, hv, r1, r2⟩ := (zad st hf).fn_inv; have r3 := zcS st ha; have hargs := (r1.append r3).append r2; have hcall := (ht.frame F).run fr w _ s1 hargs; unfold Oper.wp execOp; simp only [resolve, Deferred.ofValue, hv, Sem.run_bind, Sem.run_pure, Result.andThen_ok, invoke, zch ht.can, Oper.upon_enter]; have e2 : ((fs.toList ++ args.map a.eval) ++ cs.toList).toArray = fs ++ args.toArray.map a.eval ++ cs := by simp
 rw [e2] at hcall; refine hcall.mono ?_; rintro e w' ⟨y, H', ⟨H0, hR, rfl⟩, hfin, s', x⟩; have x' : Ext H w (H0 ++ F) w' := x.perm hH; cases y with
 | ret r =>
  obtain ⟨v, rfl, hr⟩ := hfin; exact AOps.ext x' ((k r H0 hR).out fr w' (a.put dst v) s' ((st.mono x.stays).put hd hr))
 | pan u =>
  obtain rfl : e = _ := hfin; exact ⟨T, H0 ++ F, kp u H0 hR, s', st.mono x.stays, x'⟩
def zrh (P : Program) (fn : Func) (N : NN) (R : Fin → Heap → Prop) : Exit → Env → Heap → Prop
 | .ret, T, H | .normal, T, H => ∃ r, zac P fn N T H r ∧ R (.ret r) H
 | .panic ch, T, H => ∃ u, ch = [{ v := u, recovered := false }] ∧ R (.pan u) H
 | _, _, _ => False
theorem zja {N : Nat} {fn : Func} {args : List A} (hN : args.length + (fn.ntmps - args.length) = N) {w : World} {o : Nat → Prop} {vs : List Value} (as : RepL w o args vs) : St ⟨N, [], []⟩ w o (zbW 0 args) { tmps := vs.toArray ++ Array.replicate (fn.ntmps - vs.toArray.size) undef, defers := [] } := by
 refine ⟨?_, rfl, GOk.nil, fun t x hx => ?_⟩
 ·simp [as.length, hN]
 ·obtain ⟨_, h2⟩ := zeu args 0 t x hx
  obtain ⟨v, hv, hr⟩ := as.get t x (by simpa using h2); refine ⟨v, ?_, hr⟩; have hlt : t < vs.length := (List.getElem?_eq_some_iff.1 hv).1; rw [Array.getElem?_append_left (by simpa using hlt)]; simpa using hv
end
structure TrG (G : List (Nat × List A)) (P : Program) (f : FuncId) (args : List A) (H : Heap) (R : A → Heap → Prop) : Prop where
 can : zcT P f
 run : ∀ (fr : Nat → Prop) (w : World) (vs : List Value), Sim fr H w → GOk G w (own fr H) → RepL w (own fr H) args vs →
  Calls P f vs.toArray w fun e w' => ∃ r H' v, e = .returned v ∧ R r H' ∧ Sim fr H' w' ∧ Rep w' (own fr H') r v ∧ Ext H w H' w'
section
variable {G : List (Nat × List A)} {P : Program} {f : FuncId} {args : List A} {H : Heap} {R : A → Heap → Prop}
theorem Tr.g (h : Tr P f args H R) : TrG G P f args H R := ⟨h.can, fun fr w vs s _ a => h.run fr w vs s a⟩
theorem TrG.mono {R' : A → Heap → Prop} (h : TrG G P f args H R) (hr : ∀ r H', R r H' → R' r H') : TrG G P f args H R' :=
 ⟨h.can, fun fr w vs s g a => (h.run fr w vs s g a).mono fun _ _ ⟨r, H', v, he, hR, rest⟩ => ⟨r, H', v, he, hr _ _ hR, rest⟩⟩
theorem TrG.frame (F : Heap) (h : TrG G P f args H R) : TrG G P f args (H ++ F) fun r H' => ∃ H0, R r H0 ∧ H' = H0 ++ F := by
 refine ⟨h.can, fun fr w vs s g as => ?_⟩; rw [zbC] at as g; refine (h.run _ w vs s.split g as).mono ?_; rintro e w' ⟨r, H', v, rfl, hR, s', hr, x⟩; exact ⟨r, H' ++ F, v, rfl, ⟨H', hR, rfl⟩, s.join s' x, by rw [zbC]; exact hr, x.frame⟩
theorem TrG.of_body {N : Nat} {fn : Func} {c : Code} (hf : P.funcs[f]? = some fn) (hb : fn.body = some c) (hn : (fn.name == "runtime.NumGoroutine") = false)
  (hN : args.length + (fn.ntmps - args.length) = N) (h : AWp P ⟨N, [], G⟩ c (zkV P fn ⟨N, [], G⟩ R) (zbW 0 args) H) : TrG G P f args H R := by
 refine ⟨⟨fn, hf, by simp [hb], hn⟩, fun fr w vs s g as => ?_⟩
 have st := zja hN as; refine calls_of_wp hf hb (wp_mono (h.out fr w _ s ⟨st.size, st.defers, g, st.at_⟩) ?_)
 rintro e a w' ⟨T', H', q, s', st', x'⟩; cases e with
 | normal =>
  obtain ⟨r, hr, hR⟩ := q; obtain ⟨v, h1, h2⟩ := hr fr w' a s' st'; exact ⟨st'.defers, v, h1, r, H', v, rfl, hR, s', h2, x'⟩
 | ret =>
  obtain ⟨r, hr, hR⟩ := q; obtain ⟨v, h1, h2⟩ := hr fr w' a s' st'; exact ⟨st'.defers, v, h1, r, H', v, rfl, hR, s', h2, x'⟩
 | _ => exact q.elim
def PTrG (G : List (Nat × List A)) (P : Program) (f : FuncId) (args : List A) (v : A) : Prop := TrG G P f args [] fun r _ => r = v
theorem PTr.g {v : A} (h : PTr P f args v) : PTrG G P f args v := Tr.g h
theorem PTrG.of_body {N : Nat} {fn : Func} {c : Code} {v : A} (hf : P.funcs[f]? = some fn) (hb : fn.body = some c) (hn : (fn.name == "runtime.NumGoroutine") = false)
  (hN : args.length + (fn.ntmps - args.length) = N) (h : AWp P ⟨N, [], G⟩ c (zkV P fn ⟨N, [], G⟩ fun r _ => r = v) (zbW 0 args) []) : PTrG G P f args v := TrG.of_body hf hb hn hN h
theorem PTrG.sub {args' : List A} {v : A} (h : PTrG G P f args v) (hs : ∀ (w : World) (o : Nat → Prop) (vs : List Value), RepL w o args' vs → RepL w o args vs) : PTrG G P f args' v :=
 ⟨h.can, fun fr w vs s g a => h.run fr w vs s g (hs w _ vs a)⟩
variable {N : NN} {Q : Exit → Env → Heap → Prop} {T : Env} {ops rest : List Oper} {dst : Option Nat} {ty : TypeId} {pos : String} {after : Array Edge} {guard : Option (Nat × Bool)}
theorem AOp.callG {callee : Operand} {l : List Operand} {ats : Array TypeId} {first cap as : List A} {Hc F : Heap} (hf : ev T callee = some (.fn f first cap)) (ha : evs T l = some as) (hd : zae N dst = true)
  (hH : H.Perm (Hc ++ F)) (ht : TrG N.g P f (first ++ as ++ cap) Hc R) (k : ∀ r H', R r H' → AOps P N ops rest Q (put dst r T) (H' ++ F)) :
  AOp P N ops ⟨dst, .call { callee := .value callee, args := l.toArray, argTypes := ats }, ty, pos, after, guard⟩ rest Q T H := by
 refine ⟨fun fr w a s st => ?_⟩; have s1 := s.perm hH; have e1 : own fr H = own fr (Hc ++ F) := zaz hH; rw [e1] at st; obtain ⟨fs, cs, hv, r1, r2⟩ := (zad st hf).fn_inv; have r3 := zcS st ha; have hargs := (r1.append r3).append r2; have hcall := (ht.frame F).run fr w _ s1 st.glob hargs; unfold Oper.wp execOp; simp only [resolve, Deferred.ofValue, hv, Sem.run_bind, Sem.run_pure, Result.andThen_ok, invoke, zch ht.can, Oper.upon_enter]; have e2 : ((fs.toList ++ l.map a.eval) ++ cs.toList).toArray = fs ++ l.toArray.map a.eval ++ cs := by simp
 rw [e2] at hcall; refine hcall.mono ?_; rintro e w' ⟨r, H', v, rfl, ⟨H0, hR, rfl⟩, s', hr, x⟩; have x' : Ext H w (H0 ++ F) w' := x.perm hH; exact AOps.ext x' ((k r H0 hR).out fr w' (a.put dst v) s' ((st.mono x.stays).put hd hr))
theorem AOp.callPG {callee : Operand} {l : List Operand} {ats : Array TypeId} {first cap as : List A} {v : A} (hf : ev T callee = some (.fn f first cap)) (ha : evs T l = some as) (hd : zae N dst = true)
  (ht : PTrG N.g P f (first ++ as ++ cap) v) (k : AOps P N ops rest Q (put dst v T) H) :
  AOp P N ops ⟨dst, .call { callee := .value callee, args := l.toArray, argTypes := ats }, ty, pos, after, guard⟩ rest Q T H :=
 AOp.callG hf ha hd (List.Perm.refl ([] ++ H)) ht fun r H' h1 => by subst h1; exact AOps.dropL H' k
theorem PTrG.of_below {f : FuncId} {args : List A} {r : A} (hc : zcT P f) (h : ∀ (w : World) (o : Nat → Prop) (vs : List Value), GOk G w o → RepL w o args vs → ∃ v, (∀ w' o', Rep w' o' r v) ∧ Calls P f vs.toArray w fun e w' => e = .returned v ∧ Go.RowKit.Below w.heap.size w w') : PTrG G P f args r := by
 refine ⟨hc, fun fr w vs s g a => ?_⟩; obtain ⟨v, hv, hcall⟩ := h w _ vs g a; refine hcall.mono ?_; rintro e w' ⟨rfl, b⟩; have hsame : ∀ k, k < w.heap.size → w'.heap[k]? = w.heap[k]? := b.block; exact ⟨r, [], v, rfl, rfl, ⟨List.nodup_nil, fun r hr => (by cases hr), fun k hk => Nat.lt_of_lt_of_le (s.old k hk) b.size, fun p hp => (by cases hp)⟩, hv _ _,
  ⟨b.os, b.tape, b.output, b.size, fun k hk _ => hsame k hk, fun k hk => (by cases hk), fun k hk c T f hh => ⟨c, f, by rw [← hsame k hk]; exact hh, rfl⟩⟩⟩
theorem GOk.cell {g : List (Nat × List A)} {w : World} {o : Nat → Prop} (h : GOk g w o) {b : Nat} {cells : List A} (hm : (b, cells) ∈ g) (j : Nat) (hj : j < cells.length) : ∃ v, w.cell? ⟨b, j, none⟩ = some v ∧ Rep w o cells[j] v := by
 have hr := h _ hm; cases hr with
 | dp _ _ vs hc hh =>
  refine ⟨vs j, ?_, hh j hj⟩; have := (hc j hj).2; rw [add_plain] at this; simpa using this
end
inductive Fr where
 | seq (y : Code)
 | block (id : Nat)
inductive Foc where
 | code (c : Code)
 | ops (all rest : List Oper)
 | pl (ops : Array Oper) (rest : List Oper)
 | ex (e : Exit)
def kQ (P : Program) (N : NN) : List Fr → (Exit → Env → Heap → Prop) → Exit → Env → Heap → Prop
 | [], Q => Q
 | .seq y :: k, Q => seqQ (AWp P N y (kQ P N k Q)) (kQ P N k Q)
 | .block id :: k, Q => zeZ id (kQ P N k Q)
def ACd (P : Program) (N : NN) (L : Lay) (f : Foc) (k : List Fr) (Q : Exit → Env → Heap → Prop) (T : Env) (H : Heap) : Prop :=
 match f with
 | .code c => AWp P N c (kQ P N k Q) T H
 | .ops all rest => AOps P N all rest (kQ P N k Q) T H
 | .pl ops rest => Pl P N L ops (kQ P N k Q .normal) rest T H
 | .ex e => kQ P N k Q e T H
structure AC (P : Program) (N : NN) (L : Lay) (f : Foc) (k : List Fr) (Q : Exit → Env → Heap → Prop) (T : Env) (H : Heap) : Prop where
 out : ACd P N L f k Q T H
abbrev Pos := Foc × List Fr × Env
noncomputable def stOp (L : Lay) (all rest : List Oper) (o : Oper) (k : List Fr) (T : Env) : Option Pos :=
 match sOp L T o.op with
 | some v => some (.ops all rest, k, put o.dst v T)
 | none => none
noncomputable def zpx (L : Lay) (all rest : List Oper) (o : Oper) (k : List Fr) (T : Env) : Option Pos :=
 match o.guard with
 | none => stOp L all rest o k T
 | some (j, b) => match (all[j]?).bind (·.dst) with
  | some d => match get T d with
   | some (.bool b') => match Bool.xor b b' with
    | true => some (.ops all rest, k, put o.dst (.tup []) T)
    | false => stOp L all rest o k T
   | some (.tup _) => some (.ops all rest, k, put o.dst (.tup []) T)
   | _ => none
  | none => none
noncomputable def stPl (L : Lay) (ops : Array Oper) (rest : List Oper) (o : Oper) (k : List Fr) (T : Env) : Option Pos :=
 match zas ops (restr T (o.looksAt ops)) o with
 | some true => match sOp L (restr T (o.looksAt ops)) o.op with
  | some v => some (.pl ops rest, k, put o.dst v T)
  | none => none
 | some false => some (.pl ops rest, k, put o.dst (.tup []) T)
 | none => none
def stEx (e : Exit) : List Fr → Env → Option Pos
 | .seq y :: k, T => match e with
  | .normal => some (.code y, k, T)
  | _ => some (.ex e, k, T)
 | .block id :: k, T => match e with
  | .exit id' => match Nat.beq id' id with
   | true => some (.ex .normal, k, T)
   | false => some (.ex (.exit id'), k, T)
  | _ => some (.ex e, k, T)
 | [], _ => none
def zlZ (bl : Bool) (c : Code) (k : List Fr) (T : Env) : Option Pos :=
 match c with
 | .seq x y => some (.code x, .seq y :: k, T)
 | .region _ ops d => match d with
  | false => some (.ops ops.toList ops.toList, k, T)
  | true => none
 | .skip => some (.ex .normal, k, T)
 | .exit id => some (.ex (.exit id), k, T)
 | .ret => some (.ex .ret, k, T)
 | .block id c => match bl with
  | true => some (.code c, .block id :: k, T)
  | false => none
 | .cond c x y => match ev T c with
  | some (.bool b) => match b with
   | true => some (.code x, k, T)
   | false => some (.code y, k, T)
  | _ => none
 | _ => none
noncomputable def st1 (L : Lay) (N : NN) (bl : Bool) (f : Foc) (k : List Fr) (T : Env) : Option Pos :=
 match f with
 | .code c => zlZ bl c k T
 | .ops all l => match l with
  | [] => some (.ex .normal, k, T)
  | o :: rest => match zae N o.dst with
   | true => zpx L all rest o k T
   | false => none
 | .pl ops l => match l with
  | [] => some (.ex .normal, k, T)
  | o :: rest => match zae N o.dst with
   | true => stPl L ops rest o k T
   | false => none
 | .ex e => stEx e k T
noncomputable def stN (L : Lay) (N : NN) (bl : Bool) : Nat → Foc → List Fr → Env → Option Pos
 | 0, f, k, T => some (f, k, T)
 | n + 1, f, k, T => match st1 L N bl f k T with
  | some (f', k', T') => stN L N bl n f' k' T'
  | none => none
section
variable {P : Program} {N : NN} {L : Lay} {Q : Exit → Env → Heap → Prop} {H : Heap}
theorem zlX (hL : zag P L) {all rest : List Oper} {o : Oper} {k k' : List Fr} {f' : Foc} {T T' : Env} (hd : zae N o.dst = true) (h : stOp L all rest o k T = some (f', k', T')) (c : ACd P N L f' k' Q T' H) : AOp P N all o rest (kQ P N k Q) T H := by
 unfold stOp at h; split at h
 ·rename_i v hv
  cases h; exact AOp.simple hL hv hd c
 ·cases h
theorem zoz (hL : zag P L) {all rest : List Oper} {o : Oper} {k k' : List Fr} {f' : Foc} {T T' : Env} (hd : zae N o.dst = true) (h : zpx L all rest o k T = some (f', k', T')) (c : ACd P N L f' k' Q T' H) : AOps P N all (o :: rest) (kQ P N k Q) T H := by
 unfold zpx at h; split at h
 ·rename_i hg
  exact AOps.plain hg (zlX hL hd h c)
 ·rename_i j b hg
  split at h
  ·rename_i d hj
   split at h
   ·rename_i b' ht
    split at h
    ·rename_i hx
     cases h; exact AOps.unwanted hg hj ht hx hd c
    ·rename_i hx
     have e : b' = b := by cases b <;> cases b' <;> first | rfl | cases hx
     subst e; exact AOps.wanted hg hj ht hd (zlX hL hd h c)
   ·rename_i l ht
    cases h; exact AOps.unwantedU hg hj ht hd c
   ·cases h
  ·cases h
theorem zpU {ops : Array Oper} {rest : List Oper} {o : Oper} {k k' : List Fr} {f' : Foc} {T T' : Env} (hd : zae N o.dst = true) (h : stPl L ops rest o k T = some (f', k', T')) (c : ACd P N L f' k' Q T' H) : Pl P N L ops (kQ P N k Q .normal) (o :: rest) T H := by
 unfold stPl at h; split at h
 ·rename_i hw
  split at h
  ·rename_i v hv
   cases h; exact ⟨Plan.pure hd hw hv c.out⟩
  ·cases h
 ·rename_i hw
  cases h; exact ⟨Plan.skip hd hw c.out⟩
 ·cases h
theorem zqC {e : Exit} {k k' : List Fr} {f' : Foc} {T T' : Env} (h : stEx e k T = some (f', k', T')) (c : ACd P N L f' k' Q T' H) : kQ P N k Q e T H := by
 unfold stEx at h; split at h
 ·cases e <;> cases h <;> exact c
 ·rename_i id k0 T0
  cases e with
  | exit id' =>
   simp only at h; split at h
   ·rename_i hb
    cases h; exact zj1 hb c
   ·rename_i hb
    cases h; exact zj2 hb c
  | _ => cases h; exact c
 ·cases h
theorem zng {bl : Bool} {x : Code} {k k' : List Fr} {f' : Foc} {T T' : Env} (h : zlZ bl x k T = some (f', k', T')) (c : ACd P N L f' k' Q T' H) : AWp P N x (kQ P N k Q) T H := by
 unfold zlZ at h; split at h
 ·cases h; exact AWp.seq c
 ·rename_i id ops d
  split at h
  ·cases h
   have : AWp P N (.region id ops.toList.toArray false) (kQ P N k Q) T H := AWp.region c; simpa using this
  ·cases h
 ·cases h; exact AWp.skip c
 ·cases h; exact AWp.exit c
 ·cases h; exact AWp.ret c
 ·split at h
  ·cases h; exact AWp.block c
  ·cases h
 ·split at h
  ·rename_i b hb
   split at h
   ·cases h; exact AWp.condT hb c
   ·cases h; exact AWp.condF hb c
  ·cases h
 ·cases h
theorem zrg (hL : zag P L) {bl : Bool} {f f' : Foc} {k k' : List Fr} {T T' : Env} (h : st1 L N bl f k T = some (f', k', T')) (c : ACd P N L f' k' Q T' H) : ACd P N L f k Q T H := by
 unfold st1 at h; split at h
 ·exact zng h c
 ·split at h
  ·cases h; exact AOps.nil c
  ·split at h
   ·rename_i hd
    exact zoz hL hd h c
   ·cases h
 ·split at h
  ·cases h; exact Pl.nil c
  ·split at h
   ·rename_i hd
    exact zpU hd h c
   ·cases h
 ·exact zqC h c
theorem AC.g (n : Nat) (hL : zag P L) {f f' : Foc} {k k' : List Fr} {T T' : Env} (h : stN L N true n f k T = some (f', k', T')) (c : AC P N L f' k' Q T' H) : AC P N L f k Q T H := by
 induction n generalizing f k T with
 | zero => cases h; exact c
 | succ n ih =>
  unfold stN at h; split at h
  ·rename_i f1 k1 T1 h1
   exact ⟨zrg hL h1 (ih h).out⟩
  ·cases h
variable {T : Env} {k : List Fr}
theorem AC.nilE {e : Exit} (h : Q e T H) : AC P N L (.ex e) [] Q T H := ⟨h⟩
theorem AC.toOps {all rest : List Oper} (h : AOps P N all rest (kQ P N k Q) T H) : AC P N L (.ops all rest) k Q T H := ⟨h⟩
theorem AC.toPl {ops : Array Oper} {rest : List Oper} (h : Pl P N L ops (kQ P N k Q .normal) rest T H) : AC P N L (.pl ops rest) k Q T H := ⟨h⟩
theorem AC.toCode {c : Code} (h : AWp P N c (kQ P N k Q) T H) : AC P N L (.code c) k Q T H := ⟨h⟩
theorem AC.pln {all rest : List Oper} {dst : Option Nat} {op : Op} {ty : TypeId} {pos : String} {after : Array Edge} (h : AOp P N all { dst := dst, op := op, type := ty, pos := pos, after := after, guard := none } rest (kQ P N k Q) T H) : AC P N L (.ops all ({ dst := dst, op := op, type := ty, pos := pos, after := after, guard := none } :: rest)) k Q T H := ⟨AOps.pln h⟩
theorem AC.wtd {all rest : List Oper} {dst : Option Nat} {op : Op} {ty : TypeId} {pos : String} {after : Array Edge} {j d : Nat} {b : Bool} (hdj : (all[j]?).bind (·.dst) = some d) (ht : get T d = some (.bool b)) (hd : zae N dst = true) (h : AOp P N all { dst := dst, op := op, type := ty, pos := pos, after := after, guard := some (j, b) } rest (kQ P N k Q) T H) : AC P N L (.ops all ({ dst := dst, op := op, type := ty, pos := pos, after := after, guard := some (j, b) } :: rest)) k Q T H := ⟨AOps.wtd hdj ht hd h⟩
theorem AC.drawn {ops : List Oper} {id : Nat} (hL : zag P L) (hm : P.follows .mixedOrders = true) (hc : chk ops = true) (h : AC P N L (.pl ops.toArray ops) k Q T H) : AC P N L (.code (.region id ops.toArray true)) k Q T H := ⟨AWp.drawn hL hm hc h.out⟩
theorem AC.sim {all rest : List Oper} {dst : Option Nat} {op : Op} {ty : TypeId} {pos : String} {after : Array Edge} {v : A} (hL : zag P L) (h : sOp L T op = some v) (hd : zae N dst = true) (c : AC P N L (.ops all rest) k Q (put dst v T) H) : AC P N L (.ops all ({ dst := dst, op := op, type := ty, pos := pos, after := after, guard := none } :: rest)) k Q T H := ⟨AOps.sim hL h hd c.out⟩
theorem AC.simW {all rest : List Oper} {dst : Option Nat} {op : Op} {ty : TypeId} {pos : String} {after : Array Edge} {v : A} {j d : Nat} {b : Bool} (hL : zag P L) (hdj : (all[j]?).bind (·.dst) = some d) (ht : get T d = some (.bool b)) (h : sOp L T op = some v) (hd : zae N dst = true) (c : AC P N L (.ops all rest) k Q (put dst v T) H) : AC P N L (.ops all ({ dst := dst, op := op, type := ty, pos := pos, after := after, guard := some (j, b) } :: rest)) k Q T H := ⟨AOps.simW hL hdj ht h hd c.out⟩
end
section
variable {P : Program} {N : NN} {Q : Exit → Env → Heap → Prop} {T : Env} {H : Heap} {ops rest : List Oper} {L : Lay} {dst : Option Nat} {ty : TypeId} {pos : String} {after : Array Edge} {guard : Option (Nat × Bool)}
theorem AOp.pushM {α : Type} (f : α → List A) (g : Option Nat) (l : List α) (a : α) (pre : Heap) {t e : TypeId} {x y : Operand} {rb : Nat} {ti ei : TI} (hL : zag P L) (hg : g = none → l = []) (hx : ev T x = some (outV ei.size g l.length))
  (hH : H = (rb, .row e ei.size [f a]) :: (pre ++ outH e ei.size g (l.map f))) (hy : ev T y = some (.os rb ei.size 0 1))
  (ht : lay L t = some ti) (he : ti.td = .slice e) (hei : lay L e = some ei) (hpos : Nat.ble 1 ei.size = true) (hnl : (f a).length = ei.size) (hnf : zah (f a) = true)
  (hb : l.length ≤ 100000000) (hb2 : Nat.ble ei.bytes 10000 = true) (hd : zae N dst = true)
  (k : ∀ r', AOps P N ops rest Q (put dst (outV ei.size (some r') (l ++ [a]).length) T) (pre ++ outH e ei.size (some r') ((l ++ [a]).map f))) :
  AOp P N ops ⟨dst, .call { callee := .builtin .append, args := [x, y].toArray, argTypes := [t, t].toArray }, ty, pos, after, guard⟩ rest Q T H := by
 have hbb := Nat.le_of_ble_eq_true hb2; have hm : (l.length + 1) * ei.bytes ≤ 140737488355328 := by
  calc (l.length + 1) * ei.bytes ≤ 100000001 * 10000 := Nat.mul_le_mul (by omega) hbb
   _ ≤ 140737488355328 := by decide
 refine AOp.appendG (g := g) (elems := l.map f) (news := [f a]) (pre := (rb, .row e ei.size [f a]) :: pre) hL (by rw [List.length_map]; exact hx) (fun h => by rw [hg h]; rfl) (by rw [hH]; rfl) hy (by rw [hH]; exact RowOf.os (off := 0) (len := 1) List.mem_cons_self (Nat.le_refl _)) ht he hei hpos
  (fun c hc => by rw [List.mem_singleton.1 hc]; exact hnl) (fun c hc => by rw [List.mem_singleton.1 hc]; exact hnf) (by simp only [List.length_map, List.length_singleton, maxLen]; omega) (by simp only [List.length_map, List.length_singleton]; exact hm) hd fun g' hg' => ?_
 cases g' with
 | none => have := hg' rfl; simp at this
 | some r' =>
  have h := k r'; have e1 : (l.map f ++ [f a]).length = (l ++ [a]).length := by simp
  have e2 : (l ++ [a]).map f = l.map f ++ [f a] := by simp
  rw [e1, ← e2]; exact AOps.dropL [_] h
theorem AWp.freezeM {α : Type} {f : α → List A} {g : Option Nat} {l : List α} {pre : Heap} {c : Code} {t e sz : Nat} (ht : get T t = some (outV sz g l.length)) (hH : H = pre ++ outH e sz g (l.map f)) (hg : g = none → l = []) (k : AWp P N c Q ((t, .ds (l.map f)) :: T) pre) : AWp P N c Q T H :=
 AWp.freezeG (g := g) (elems := l.map f) (by rw [List.length_map]; exact ht) (fun h => by rw [hg h]; rfl) hH k
theorem AOps.freezeM {α : Type} {f : α → List A} {g : Option Nat} {l : List α} {pre : Heap} {t e sz : Nat} (ht : get T t = some (outV sz g l.length)) (hH : H = pre ++ outH e sz g (l.map f)) (hg : g = none → l = []) (k : AOps P N ops rest Q ((t, .ds (l.map f)) :: T) pre) : AOps P N ops rest Q T H :=
 AOps.freezeG (g := g) (elems := l.map f) (by rw [List.length_map]; exact ht) (fun h => by rw [hg h]; rfl) hH k
end
section
variable {P : Program} {N : NN} {Q : Exit → Env → Heap → Prop} {T : Env} {H : Heap} {ops rest : List Oper} {L : Lay} {dst : Option Nat} {ty : TypeId} {pos : String} {after : Array Edge} {guard : Option (Nat × Bool)}
end
section
variable {P : Program} {N : NN} {Q : Exit → Env → Heap → Prop} {T : Env} {H : Heap} {ops rest : List Oper} {L : Lay} {dst : Option Nat} {ty : TypeId} {pos : String} {after : Array Edge} {guard : Option (Nat × Bool)}
theorem AOp.pushL {α : Type} (f : α → List A) (g : Option Nat) (l news : List α) (pre : Heap) {t e : TypeId} {x y : Operand} {rb : Nat} {ti ei : TI} (hL : zag P L) (hg : g = none → l = []) (hx : ev T x = some (outV ei.size g l.length))
  (hH : H = (rb, .row e ei.size (news.map f)) :: (pre ++ outH e ei.size g (l.map f))) (hy : ev T y = some (.os rb ei.size 0 news.length)) (hne : news ≠ [])
  (ht : lay L t = some ti) (he : ti.td = .slice e) (hei : lay L e = some ei) (hpos : Nat.ble 1 ei.size = true) (hnl : ∀ a ∈ news, (f a).length = ei.size) (hnf : ∀ a ∈ news, zah (f a) = true)
  (hb : l.length + news.length ≤ 100000000) (hb2 : Nat.ble ei.bytes 10000 = true) (hd : zae N dst = true)
  (k : ∀ r', r' ∉ keys pre → AOps P N ops rest Q (put dst (outV ei.size (some r') (l ++ news).length) T) (pre ++ outH e ei.size (some r') ((l ++ news).map f))) :
  AOp P N ops ⟨dst, .call { callee := .builtin .append, args := [x, y].toArray, argTypes := [t, t].toArray }, ty, pos, after, guard⟩ rest Q T H := by
 have hbb := Nat.le_of_ble_eq_true hb2; have hrow : RowOf H (.os rb ei.size 0 news.length) (news.map f) := by
  have := RowOf.os (H := H) (r := rb) (Te := e) (sz := ei.size) (off := 0) (len := news.length) (elems := news.map f) (by rw [hH]; exact List.mem_cons_self) (by simp); rw [List.drop_zero, List.take_of_length_le (by simp)] at this; exact this
 have hnl' : ∀ i (hi : i < (news.map f).length), (news.map f)[i].length = ei.size := fun i hi => by
  rw [List.getElem_map]; exact hnl _ (List.getElem_mem _)
 have hnf' : ∀ c ∈ news.map f, zah c = true := fun c hc => by
  obtain ⟨a, ha, rfl⟩ := List.mem_map.1 hc; exact hnf a ha
 have hmul : ∀ n : Nat, n ≤ 100000000 → n * ei.bytes ≤ 140737488355328 := fun n hn => by
  have := Nat.mul_le_mul hn hbb; omega
 cases g with
 | none =>
  have := hg rfl; subst this; simp only [outV] at hx; refine AOp.appendNil (news := news.map f) (Hr := pre) hL hx hy ht he hei hpos hrow (.inr ⟨_, by rw [hH]; simp only [outH, List.append_nil]; exact List.Perm.refl _⟩) hnl' hnf' (by simpa using hne) (by rw [List.length_map]; unfold maxLen; simp at hb; omega) (by rw [List.length_map]; exact hmul _ (by simpa using hb)) hd fun r hr => ?_
  have := k r hr; simp only [outV, outH, List.nil_append] at this; rw [List.length_map]; exact AOps.perm (List.perm_append_comm (l₁ := [_])) this
 | some r =>
  simp only [outV] at hx; simp only [outH] at hH k; refine AOp.append (all := l.map f) (news := news.map f) (H1 := (rb, .row e ei.size (news.map f)) :: pre) (Hr := pre) hL hx hy ht he hei hpos (by rw [hH, ← List.cons_append]; exact List.perm_append_comm (l₂ := [_])) (by rw [List.length_map]; exact Nat.le_refl _) hrow (.inr ⟨_, List.Perm.refl _⟩) hnl' hnf' (by rw [List.length_map]; unfold maxLen; omega) (by rw [List.length_map]; exact hmul _ hb) hd fun r' hr' => ?_; have := k r' hr'; simp only [outV, List.length_append, List.map_append] at this; rw [List.length_map, ← List.length_map (f := f) (as := l), List.take_length]; refine AOps.perm (List.perm_append_comm (l₁ := [_])) ?_; rw [List.length_map]; exact this
end
section
variable {P : Program} {N : NN} {Q : Env → Heap → Prop} {T : Env} {H : Heap} {ops : Array Oper} {rest : List Oper} {L : Lay} {dst : Option Nat} {ty : TypeId} {pos : String} {after : Array Edge}
end
def extC (same ixb : List Nat) : Exts := fun f xs => match memN f same, xs with
 | true, [v] => some v
 | _, _ => match memN f ixb, xs with
  | true, [.str s, .int .u8 c] => match decide (inR .i64 (Lib.indexByte s c.toNat.toUInt8)) with
   | true => some (.int .i64 (Lib.indexByte s c.toNat.toUInt8))
   | false => none
  | _, _ => none
def zjf (P : Program) (f : FuncId) (e : Array Value → Sem Value) : Prop := ∃ fn, P.funcs[f]? = some fn ∧ (fn.name == "runtime.NumGoroutine") = false ∧ fn.body.isNone = true ∧ Extern.findNext fn = none ∧ Extern.find fn = some e
theorem zhA {d : Nat} : ∀ {l : List Nat}, memN d l = true → d ∈ l
 | [], h => by cases h
 | x :: l, h => by
  simp only [memN] at h; split at h
  ·rename_i e; rw [Nat.eq_of_beq_eq_true e]; exact List.mem_cons_self ..
  ·exact List.mem_cons_of_mem _ (zhA h)
theorem zql {P : Program} {same ixb : List Nat} (h1 : ∀ f ∈ same, zjf P f Extern.AbiNoEscape.same) (h2 : ∀ f ∈ ixb, zjf P f Extern.BytealgIndexByte.indexByte) : zc2 P (extC same ixb) := by
 intro f xs v h ρ w o vs hr; unfold extC at h; split at h
 ·rename_i hm
  cases h; obtain ⟨fn, k1, k2, k3, k4, k5⟩ := h1 f (zhA hm); simp only [renL] at hr; cases hr with
  | cons ha ht =>
   cases ht; refine ⟨_, ?_, ha⟩; rw [run_callFunc_extern k1 k2 k3 k4 k5]; simp [Lib.run_noEscape]
 ·split at h
  ·rename_i hm hne
   split at h
   ·rename_i hin
    have hin := of_decide_eq_true hin; cases h; obtain ⟨fn, k1, k2, k3, k4, k5⟩ := h2 f (zhA hm); simp only [renL, ren] at hr; cases hr with
    | cons ha ht =>
     cases ht with
     | cons hb ht =>
      cases ht; cases ha; cases hb; refine ⟨_, ?_, .int _ _ hin⟩; rw [run_callFunc_extern k1 k2 k3 k4 k5]; simp [Lib.run_indexByteString]
   ·cases h
  ·cases h
section
variable {P : Program} {fr : Nat → Prop} {H : Heap} {w : World}
theorem zid {t : TypeId} {ti : TI} (hL : TIOk P t ti) (s : Sim fr H w) {r Te sz k : Nat} {elems : List (List A)} {e e' : List A} {H' : Heap} {v : Value} (hat : At H r (.row Te sz elems) (.row Te sz (elems.set k e')) H') (he : elems[k]? = some e)
  (hr : Rep w (own fr H) (.agg e') v) (hl : zah e' = true) (hsz : ti.size = sz) (hle : e'.length = sz) :
  ∃ w', (storeVar t ⟨r, k * sz, none⟩ v).run P w = .ok () w' ∧ Sim fr H' w' ∧ Ext H w H' w' := by
 obtain ⟨_, _, _, hlen⟩ := s.elem hat.mem he; have st : St ⟨2, [], []⟩ w (own fr H) [(0, .ptr r sz k 0), (1, .agg e')] { tmps := #[.pointer (some ⟨r, k * sz + 0, none⟩), v], defers := [] } := by
  refine ⟨rfl, rfl, GOk.nil, fun t x hx => ?_⟩; simp only [get] at hx; split at hx
  ·rename_i h0
   have h0 := Nat.eq_of_beq_eq_true h0; subst h0; cases hx; exact ⟨_, rfl, .ptr ..⟩
  ·split at hx
   ·rename_i h1
    have h1 := Nat.eq_of_beq_eq_true h1; subst h1; cases hx; exact ⟨_, rfl, hr⟩
   ·cases hx
 obtain ⟨w', v1, v', H1, hrun, ⟨rfl, rfl⟩, s', _, x'⟩ := zim (dst := none) (ty := 0) (pos := "") (after := #[]) (guard := none) (x := .tmp 0) (y := .tmp 1) (v := .agg e') (cells := e') hL rfl rfl rfl (.inr ⟨_, rfl⟩) hl (by rw [hle, hsz]) hat he (by
  unfold zbN; obtain ⟨_, _, _, _, hlen⟩ := s.elem hat.mem he; have hb : Nat.ble (0 + e'.length) e.length = true := Nat.ble_eq_true_of_le (by omega); rw [hb]; simp [hlen, hle, List.drop_eq_nil_of_le]) fr w _ s st
 refine ⟨w', ?_, s', x'⟩; simp only [execOp, Instr.storeAt, Instr.sureAddr, Act.eval, Sem.run_bind, Sem.run_pure, Result.andThen_ok] at hrun; have e0 : (#[Value.pointer (some ⟨r, k * sz, none⟩), v] : Array Value).getD 0 undef = .pointer (some ⟨r, k * sz, none⟩) := rfl; have e1 : (#[Value.pointer (some ⟨r, k * sz, none⟩), v] : Array Value).getD 1 undef = v := rfl; simp only [Nat.add_zero] at hrun; simp only [e0, e1, Sem.run_bind, Sem.run_pure, Result.andThen_ok] at hrun; cases hs : (storeVar t ⟨r, k * sz, none⟩ v).run P w with
 | ok u w1 =>
  rw [hs] at hrun; simp only [Result.andThen_ok, Sem.run_pure] at hrun; rcases hrun with hrun | ⟨hrun, _⟩
  ·cases hrun
  ·cases hrun; rfl
 | halt h w1 =>
  rw [hs] at hrun; rcases hrun with hrun | ⟨hrun, _⟩ <;> cases hrun
theorem At.uniq {H H1 H2 : Heap} {r : Nat} {b b1 : Blk} (h1 : At H r b b1 H1) (h2 : At H r b b1 H2) (hn : (Go.Abs.keys H).Nodup) : H1 = H2 := by
 induction h1 generalizing H2 with
 | here =>
  cases h2 with
  | here => rfl
  | there h2 =>
   have := h2.mem; exact absurd (List.mem_map.2 ⟨_, this, rfl⟩) (List.nodup_cons.1 hn).1
 | there h1 ih =>
  cases h2 with
  | here => exact absurd (List.mem_map.2 ⟨_, h1.mem, rfl⟩) (List.nodup_cons.1 hn).1
  | there h2 => rw [ih h2 (List.nodup_cons.1 hn).2]
theorem At.trans {H H1 H2 : Heap} {r : Nat} {b b1 b2 : Blk} (h1 : At H r b b1 H1) (h2 : At H1 r b1 b2 H2) (hn : (Go.Abs.keys H).Nodup) : At H r b b2 H2 := by
 induction h1 generalizing H2 with
 | here =>
  cases h2 with
  | here => exact .here
  | there h2 => exact absurd (List.mem_map.2 ⟨_, h2.mem, rfl⟩) (List.nodup_cons.1 hn).1
 | there h1 ih =>
  cases h2 with
  | here =>
   have hk := h1.keys; exact absurd (List.mem_map.2 ⟨_, h1.mem, rfl⟩) (List.nodup_cons.1 hn).1
  | there h2 => exact .there (ih h2 (List.nodup_cons.1 hn).2)
theorem At.some' {H H1 : Heap} {r : Nat} {b b1 : Blk} (b2 : Blk) (h : At H r b b1 H1) : ∃ K, At H r b b2 K := by
 induction h with
 | here => exact ⟨_, .here⟩
 | there _ ih => obtain ⟨K2, h2⟩ := ih; exact ⟨_, .there h2⟩
theorem At.then' {H H1 : Heap} {r : Nat} {b b1 : Blk} (b2 : Blk) (h : At H r b b1 H1) : ∃ K, At H1 r b1 b2 K := by
 induction h with
 | here => exact ⟨_, .here⟩
 | there _ ih => obtain ⟨K2, h2⟩ := ih; exact ⟨_, .there h2⟩
theorem zow {t : TypeId} {ti : TI} (hL : TIOk P t ti) (hagg : ti.td.isAgg = true) (s : Sim fr H w) {r Te sz off n i j : Nat} {elems : List (List A)} {a b : List A} {H' : Heap} (hi : i < n) (hj : j < n)
  (hat : At H r (.row Te sz elems) (.row Te sz ((elems.set (off + i) b).set (off + j) a)) H') (ha : elems[off + i]? = some a) (hb : elems[off + j]? = some b) (hsz : ti.size = sz) (c : Nat) :
  ∃ w', (Extern.ReflectliteSwapper.swap false #[.int .i64 i, .int .i64 j, .slice (some ⟨r, off * sz, none⟩) n c, typeHandle P t]).run P w = .ok (.tuple #[]) w' ∧ Sim fr H' w' ∧ Ext H w H' w' := by
 obtain ⟨va, ra, ca, la, hla⟩ := s.elem hat.mem ha; obtain ⟨vb, rb, cb, lb, hlb⟩ := s.elem hat.mem hb; have load : ∀ {e : List A} {vs : List Value} {k : Nat}, RepL w (own fr H) e vs → zbd w ⟨r, k * sz, none⟩ vs → e.length = sz → ∃ z, (loadVar t ⟨r, k * sz, none⟩).run P w = .ok z w ∧ Rep w (own fr H) (.agg e) z := by
  intro e vs k hr hc hl; have := zbp (P := P) hL (a := ⟨r, k * sz, none⟩) (o := 0) (v := .agg e) hr (by simpa [add_plain] using hc) (by
   unfold zbo; have hb : Nat.ble (0 + ti.size) e.length = true := Nat.ble_eq_true_of_le (by omega); rw [hagg, hb]; simp [List.take_of_length_le (show e.length ≤ ti.size by omega)])
  simpa [add_plain] using this
 obtain ⟨za, hza, hra⟩ := load ra ca hla; obtain ⟨zb, hzb, hrb⟩ := load rb cb hlb; have hn := s.nodup; obtain ⟨H1, hat1⟩ := hat.some' (.row Te sz (elems.set (off + i) b)); obtain ⟨w1, hs1, s1, x1⟩ := zid hL s hat1 ha hrb lb hsz hlb; obtain ⟨H2, hat2⟩ := hat1.then' (.row Te sz ((elems.set (off + i) b).set (off + j) a))
 have hbj : ∃ e, (elems.set (off + i) b)[off + j]? = some e := by
  have hlt := (List.getElem?_eq_some_iff.1 hb).1; exact ⟨_, List.getElem?_eq_getElem (by simpa using hlt)⟩
 obtain ⟨e2, he2⟩ := hbj; obtain ⟨w2, hs2, s2, x2⟩ := zid hL s1 hat2 he2 (hra.mono x1.stays) la hsz hla; have e3 : H2 = H' := At.uniq (hat1.trans hat2 hn) hat hn; subst e3; refine ⟨w2, ?_, s2, x1.trans x2⟩; have hio : ((i : Nat) : Int) < n := by omega
 have hjo : ((j : Nat) : Int) < n := by omega
 rw [Lib.rl_swap]; have hexch : (Extern.ReflectliteSwapper.exchange t ⟨r, off * sz, none⟩ i j).run P w = .ok (.tuple #[]) w2 := by
  have a1 : (⟨r, off * sz, none⟩ : Addr).add (i * ti.size) = ⟨r, (off + i) * sz, none⟩ := by rw [add_plain, hsz, Nat.add_mul]
  have a2 : (⟨r, off * sz, none⟩ : Addr).add (j * ti.size) = ⟨r, (off + j) * sz, none⟩ := by rw [add_plain, hsz, Nat.add_mul]
  unfold Extern.ReflectliteSwapper.exchange; simp only [Sem.run_bind, zay hL, Result.andThen_ok, a1, a2, hza, hzb, hs1, hs2, Sem.run_pure]
 have hh : (Extern.Rtype.ofHandle (typeHandle P t)).run P w = .ok t w := by simp [Extern.Rtype.ofHandle, handleType, typeHandle, Result.andThen]
 have c1 : ¬ (((i : Nat) : Int) < 0) := by omega
 have c2 : ¬ (((j : Nat) : Int) < 0) := by omega
 have c3 : ¬ (((i : Nat) : Int) ≥ n) := by omega
 have c4 : ¬ (((j : Nat) : Int) ≥ n) := by omega
 simp only [Bool.false_eq_true, if_false, c1, c2, c3, c4, decide_false, Bool.or_false, Sem.run_bind, hh, Result.andThen_ok, Int.toNat_natCast, hexch]
end
abbrev zc7 := FuncId → List A → Tre Blk → Option Eff
def zjP (P : Program) (f : FuncId) (xs : List A) (H : Heap) (R : A → Heap → Prop) : Prop :=
 ∀ (fr : Nat → Prop) (w : World) (vs : List Value), Sim fr H w → RepL w (own fr H) xs vs → ∃ u w' v H1, (callFunc f vs.toArray).run P w = .ok (.value u) w' ∧ R v H1 ∧ Sim fr H1 w' ∧ Rep w' (own fr H1) v u ∧ Ext H w H1 w'
def EffM (P : Program) (ρ : Nat → Nat) (H : Tre Blk) (f : FuncId) (xs : List A) (H' : Heap) : Eff → Prop
 | .pure v => zjP P f (renL ρ xs) H' fun r K => r = ren ρ v ∧ K = H'
 | .write v i b' => ∃ b, H.get i = some b ∧ ∀ H'', At H' (ρ i) (renB ρ b) (renB ρ b') H'' → zjP P f (renL ρ xs) H' fun r K => r = ren ρ v ∧ K = H''
 | _ => False
def zcu (P : Program) (M : zc7) : Prop := ∀ f xs H e, M f xs H = some e → ∀ (ρ : Nat → Nat) (n : Nat) (lo : Nat → Bool) (fz : Nat → Prop) (H' : Heap), Good ρ n lo fz H H' → EffM P ρ H f xs H' e
def noM : zc7 := fun _ _ _ => none
theorem zku {P : Program} : zcu P noM := fun _ _ _ _ h => by cases h
theorem AOp.callM {P : Program} {N : NN} {Q : Exit → Env → Heap → Prop} {T : Env} {H : Heap} {ops rest : List Oper} {dst : Option Nat} {callee : Operand} {args : List Operand} {ats : Array TypeId} {ty : TypeId} {pos : String} {after : Array Edge} {guard : Option (Nat × Bool)}
  {f : FuncId} {first cap xs : List A} {R : A → Heap → Prop} (hf : ev T callee = some (.fn f first cap)) (ha : evs T args = some xs) (he : zjP P f (first ++ xs ++ cap) H R)
  (hd : zae N dst = true) (kk : ∀ v H1, R v H1 → AOps P N ops rest Q (put dst v T) H1) :
  AOp P N ops ⟨dst, .call { callee := .value callee, args := args.toArray, argTypes := ats }, ty, pos, after, guard⟩ rest Q T H :=
 AOp.sem (R := R) (fun fr w act s st => by
  obtain ⟨fs, cs, e1, r1, r2⟩ := (zad st hf).fn_inv; have r3 := zcS st ha; obtain ⟨u, w', v, H1, h1, h2, h3, h4, h5⟩ := he fr w _ s ((r1.append r3).append r2); have e2 : ((fs.toList ++ args.map act.eval) ++ cs.toList).toArray = fs ++ args.toArray.map act.eval ++ cs := by simp
  rw [e2] at h1; refine ⟨w', v, u, H1, .inl ?_, h2, h3, h4, h5⟩; simp only [execOp, resolve, Deferred.ofValue, invoke, Sem.run_bind, Sem.run_pure, Result.andThen_ok, e1]; exact h1) hd kk
theorem EffM.ok {P : Program} {N : NN} {ρ : Nat → Nat} {H : Tre Blk} {T' : Env} {H' : Heap} {dst : Option Nat} {callee : Operand} {args : List Operand} {ats : Array TypeId} {ty : TypeId} {pos : String} {after : Array Edge} {guard : Option (Nat × Bool)}
  {f : FuncId} {xs first as cap : List A} (hf : ev T' callee = some (.fn f first cap)) (ha : evs T' args = some as) (hxs : first ++ as ++ cap = renL ρ xs) (hd : zae N dst = true) {e : Eff} (h : EffM P ρ H f xs H' e) :
  zeF P N ρ H ⟨dst, .call { callee := .value callee, args := args.toArray, argTypes := ats }, ty, pos, after, guard⟩ T' H' e := by
 cases e with
 | pure v =>
  intro ops rest Q k; simp only [EffM] at h; rw [← hxs] at h; exact AOp.callM hf ha h hd fun r K ⟨e1, e2⟩ => by subst e1; subst e2; exact k
 | write v i b' =>
  obtain ⟨b, hi, h⟩ := h; refine ⟨b, hi, fun ops rest Q H'' hat k => ?_⟩; have h := h H'' hat; rw [← hxs] at h; exact AOp.callM hf ha h hd fun r K ⟨e1, e2⟩ => by subst e1; subst e2; exact k
 | new m b => exact h.elim
 | swap m i b => exact h.elim
 | free v i => exact h.elim
structure SortS (P : Program) (L : Lay) (t e : TypeId) (g vo sw ln s1 s2 s9 : Nat) where
 i : TypeInfo
 ie : TypeInfo
 ei : TI
 ke : Nat
 hg : P.globals.size = g
 hi : P.info? t = some i
 hd : i.desc = .slice e
 hpk : P.packed t = false
 hie : P.info? e = some ie
 hke : ∀ w, (Extern.Rtype.kind e).run P w = .ok ke w
 hk9 : ∀ n, 2 ≤ n → Lib.swapperK n ie ke = 9
 hei : lay L e = some ei
 hagg : ei.td.isAgg = true
 f1 : P.funcs.findIdx? (·.name == "internal/reflectlite" ++ ".Swapper$" ++ toString 1) = some s1
 f2 : P.funcs.findIdx? (·.name == "internal/reflectlite" ++ ".Swapper$" ++ toString 2) = some s2
 f9 : P.funcs.findIdx? (·.name == "internal/reflectlite" ++ ".Swapper$" ++ toString 9) = some s9
 xv : zjf P vo fun args => Extern.ReflectliteValue.unpack (args.getD 0 (.tuple #[]))
 xs : zjf P sw (Extern.ReflectliteSwapper.swapper "internal/reflectlite" (Extern.ReflectliteValue.valueError "Swapper"))
 xl : zjf P ln (Extern.ReflectliteValue.method (Extern.ReflectliteValue.valueError "reflectlite.Value.Len" 0) Extern.ReflectliteValue.len)
 x9 : zjf P s9 (Extern.ReflectliteSwapper.swap false)
def zci : A → Option Nat
 | .os _ _ _ n => some n
 | .nils => some 0
 | .ds l => some l.length
 | _ => none
def extS (L : Lay) (t e g vo sw ln s1 s2 s9 : Nat) : zc7 := fun f xs H => match xs with
 | [.iface t' x] => match Nat.beq t' t, zci x with
  | true, some n => match Nat.beq f vo, Nat.beq f sw with
   | true, _ => some (.pure (.agg [.abs g t, .dp [x], .int .u64 151]))
   | false, true => match n with
    | 0 => some (.pure (.fn s1 [] []))
    | 1 => some (.pure (.fn s2 [] []))
    | _ => some (.pure (.fn s9 [] [x, .abs g e]))
   | false, false => none
  | _, _ => none
 | [.agg [.abs g' t', .dp [x], .int .u64 k]] => match Nat.beq f ln && Nat.beq g' g && Nat.beq t' t && decide (k = 151), zci x with
  | true, some n => match Nat.ble n 4611686018427387904 with
   | true => some (.pure (.int .i64 n))
   | false => none
  | _, _ => none
 | [.int .i64 i, .int .i64 j, .os r sz off n, .abs g' e'] => match Nat.beq f s9 && Nat.beq g' g && Nat.beq e' e && decide (0 ≤ i ∧ i < n ∧ 0 ≤ j ∧ j < n), lay L e, H.get r with
  | true, some ei, some (.row Te sz' elems) => match Nat.beq sz sz' && Nat.beq ei.size sz, elems[off + i.toNat]?, elems[off + j.toNat]? with
   | true, some a, some b => some (.write (.tup []) r (.row Te sz' ((elems.set (off + i.toNat) b).set (off + j.toNat) a)))
   | _, _, _ => none
  | _, _, _ => none
 | _ => none
theorem zdk {w : World} {o : Nat → Prop} {x : A} {n : Nat} {u : Value} (h : zci x = some n) (hr : Rep w o x u) : ∃ p c, u = .slice p n c := by
 cases x <;> simp only [zci] at h <;> first | (cases h; done) | skip
 ·cases h; cases hr; exact ⟨_, _, rfl⟩
 ·cases h; cases hr
  ·exact ⟨_, _, rfl⟩
  ·exact ⟨_, _, rfl⟩
 ·cases h; cases hr; exact ⟨_, _, rfl⟩
theorem zeR {ρ : Nat → Nat} {x : A} {n : Nat} (h : zci x = some n) : zci (ren ρ x) = some n := by
 cases x <;> simp only [zci] at h <;> first | (cases h; done) | (simp only [ren, zci, zam]; exact h)
theorem zhz {P : Program} {f : FuncId} {e : Array Value → Sem Value} (h : zjf P f e) (args : Array Value) (w : World) : (callFunc f args).run P w = ((e args).run P w).andThen fun v w' => .ok (.value v) w' := by
 obtain ⟨fn, k1, k2, k3, k4, k5⟩ := h; rw [run_callFunc_extern k1 k2 k3 k4 k5]
theorem zm2 {P : Program} {L : Lay} (hL : zag P L) {t e g vo sw ln s1 s2 s9 : Nat} (S : SortS P L t e g vo sw ln s1 s2 s9) : zcu P (extS L t e g vo sw ln s1 s2 s9) := by
 intro f xs H ef h ρ n0 lo fz H' hG; unfold extS at h; split at h
 ·rename_i t' x
  split at h
  ·rename_i n ht hx
   have ht := Nat.eq_of_beq_eq_true ht; subst ht; have hx' := zeR (ρ := ρ) hx; split at h
   ·rename_i hvo
    have hvo := Nat.eq_of_beq_eq_true hvo; subst hvo; cases h; intro fr w vs s hr; simp only [renL, ren] at hr; cases hr with | cons ha hr =>
    cases hr; cases ha with | iface _ _ v hv =>
    obtain ⟨p, c, rfl⟩ := zdk hx' hv; refine ⟨.agg #[typeHandle P t', .pointer (some ⟨w.heap.size, 0, none⟩), .int .u64 151], w.alloc (.cells #[.slice p n c] t'), _, H', ?_, ⟨rfl, rfl⟩, s.newU _, ?_, Ext.newU ..⟩
    ·rw [zhz S.xv, show (Extern.ReflectliteValue.unpack ((#[Value.iface t' (.slice p n c)] : Array Value).getD 0 (.tuple #[]))).run P w = _ from Lib.run_valueOf_slice (P := P) t' e S.i S.hi S.hd p n c w]
     rfl
    ·simp only [ren, renL]
     have hst := (Ext.newU H' w (.cells #[.slice p n c] t')).stays (fr := fr); refine Rep.agg_of (.cons ?_ (.cons ?_ (.cons (.int _ _ ?_) .nil)))
     ·have := Rep.abs (w := w.alloc (.cells #[.slice p n c] t')) (own := own fr H') g t'
      rw [← S.hg] at this ⊢; exact this
     ·refine Rep.dp_of (vs := [.slice p n c]) (.cons (hv.mono hst) .nil) (fun j v hj => ?_) (fun ho => ?_)
      ·cases j with
       | zero =>
        simp only [List.getElem?_cons_zero, Option.some.injEq] at hj; subst hj; unfold World.cell?; rw [add_plain, heap_alloc_new]; rfl
       | succ j => simp at hj
      ·obtain ⟨h1, h2⟩ := zaQ s
       rcases ho with ho | ho
       ·exact h2 ho
       ·exact h1 ho
     ·unfold inR IntKind.min IntKind.max; decide
   ·rename_i hvo hsw
    have hsw := Nat.eq_of_beq_eq_true hsw; subst hsw; have key : ∀ (k fk : Nat) (bs : List A), P.funcs.findIdx? (·.name == "internal/reflectlite" ++ ".Swapper$" ++ toString k) = some fk → Lib.swapperK n S.ie S.ke = k → (k ≤ 2 → bs = []) → (¬ k ≤ 2 → bs = [ren ρ x, .abs g e]) →
      zjP P f (renL ρ [.iface t' x]) H' fun r K => r = .fn fk [] bs ∧ K = H' := by
     intro k fk bs hf hk hb1 hb2 fr w vs s hr; simp only [renL, ren] at hr; cases hr with | cons ha hr =>
     cases hr; cases ha with | iface _ _ v hv =>
     have hv0 := hv; obtain ⟨p, c, rfl⟩ := zdk hx' hv; have hrun := Lib.run_swapper_slice (P := P) t' e S.i S.ie S.hi S.hd S.hie S.ke S.hke p n c fk (by rw [hk]; exact hf) w; refine ⟨.func (.func fk) #[] (if Lib.swapperK n S.ie S.ke ≤ 2 then #[] else #[Value.slice p n c, typeHandle P e]), w, _, H', ?_, ⟨rfl, rfl⟩, s, ?_, Ext.refl ..⟩
     ·rw [zhz S.xs]
      show ((Extern.ReflectliteSwapper.swapper "internal/reflectlite" (Extern.ReflectliteValue.valueError "Swapper") #[.iface t' (.slice p n c)]).run P w).andThen _ = _
      rw [hrun]; rfl
     ·rw [hk]
      by_cases hk2 : k ≤ 2
      ·rw [if_pos hk2, hb1 hk2]; exact Rep.fn_of (us := []) (vs := []) .nil .nil
      ·rw [if_neg hk2, hb2 hk2]
       have ha := Rep.abs (w := w) (own := own fr H') g e; rw [← S.hg] at ha ⊢; exact Rep.fn_of (us := []) (vs := [_, _]) .nil (.cons hv0 (.cons ha .nil))
    split at h
    ·cases h
     exact key 1 s1 [] S.f1 rfl (fun _ => rfl) (fun h => absurd (by omega) h)
    ·cases h
     exact key 2 s2 [] S.f2 rfl (fun _ => rfl) (fun h => absurd (by omega) h)
    ·rename_i h0 h1
     cases h; have hn : 2 ≤ n := by
      cases n with
      | zero => exact absurd rfl h0
      | succ n => cases n with
       | zero => exact absurd rfl h1
       | succ n => omega
     exact key 9 s9 [ren ρ x, .abs g e] S.f9 (S.hk9 n hn) (fun h => absurd h (by omega)) (fun _ => rfl)
   ·cases h
  ·cases h
 ·rename_i g' t' x k
  split at h
  ·rename_i n hc hx
   simp only [Bool.and_eq_true, decide_eq_true_eq] at hc; obtain ⟨⟨⟨hf, hg⟩, ht⟩, rfl⟩ := hc; have hf := Nat.eq_of_beq_eq_true hf; have hg := Nat.eq_of_beq_eq_true hg; have ht := Nat.eq_of_beq_eq_true ht; subst hf; subst hg; subst ht; have hx' := zeR (ρ := ρ) hx; split at h
   ·rename_i hn
    cases h; intro fr w vs s hr; simp only [renL, ren] at hr; cases hr with | cons ha hr =>
    cases hr; obtain ⟨cs, rfl, hl⟩ := ha.agg_inv; obtain ⟨l⟩ := cs; simp only at hl; cases hl with | cons h1 hl =>
    cases hl with | cons h2 hl =>
    cases hl with | cons h3 hl =>
    cases hl; cases h1; cases h3; obtain ⟨a, us, rfl, hru, hca, _⟩ := h2.dp_inv; cases hru with | cons hv hru =>
    cases hru; obtain ⟨p, c, rfl⟩ := zdk hx' hv; have hcell : w.cell? a = some (.slice p n c) := by
     have := hca 0 _ rfl; simpa [Addr.add_zero'] using this
    have hrun := Lib.run_valueLen_slice (P := P) t' e S.i S.hi S.hd S.hpk a p n c w hcell; refine ⟨.int .i64 n, w, _, H', ?_, ⟨rfl, rfl⟩, s, ?_, Ext.refl ..⟩
    ·rw [zhz S.xl]
     have : typeHandle P t' = .pointer (some ⟨g', t', none⟩) := by rw [typeHandle, S.hg]
     rw [this] at hrun
     show ((Extern.ReflectliteValue.method (Extern.ReflectliteValue.valueError "reflectlite.Value.Len" 0) Extern.ReflectliteValue.len #[.agg #[.pointer (some ⟨g', t', none⟩), .pointer (some a), .int .u64 151]]).run P w).andThen _ = _
     rw [hrun]; rfl
    ·simp only [ren]
     have := Nat.le_of_ble_eq_true hn; exact .int _ _ (zdM.2 ⟨by omega, by omega⟩)
   ·cases h
  ·cases h
 ·rename_i i j r sz off n g' e'
  split at h
  ·rename_i ei Te sz' elems hc hei hrow
   simp only [Bool.and_eq_true, decide_eq_true_eq] at hc; obtain ⟨⟨⟨hf, hg⟩, he⟩, hi0, hin, hj0, hjn⟩ := hc; have hf := Nat.eq_of_beq_eq_true hf; have hg := Nat.eq_of_beq_eq_true hg; have he := Nat.eq_of_beq_eq_true he; subst hf; subst hg; subst he; split at h
   ·rename_i a b hsz ha hb
    simp only [Bool.and_eq_true] at hsz; have hsz1 := Nat.eq_of_beq_eq_true hsz.1; have hsz2 := Nat.eq_of_beq_eq_true hsz.2; subst hsz1; cases h; refine ⟨_, hrow, fun H'' hat fr w vs s hr => ?_⟩; obtain ⟨i, rfl⟩ := Int.eq_ofNat_of_zero_le hi0; obtain ⟨j, rfl⟩ := Int.eq_ofNat_of_zero_le hj0; simp only [Int.toNat_natCast] at ha hb hat; simp only [renL, ren] at hr; cases hr with | cons h1 hr =>
    cases hr with | cons h2 hr =>
    cases hr with | cons h3 hr =>
    cases hr with | cons h4 hr =>
    cases hr; cases h1; cases h2; cases h4; cases h3 with | os _ _ _ _ cap hrr hcap hmax hroom =>
    simp only [renB] at hat; have e1 : zap ρ ((elems.set (off + i) b).set (off + j) a) = ((zap ρ elems).set (off + i) (renL ρ b)).set (off + j) (renL ρ a) := by rw [zf4, zf4]
    rw [e1] at hat; have hei' : ei = S.ei := Option.some.inj (hei.symm.trans S.hei); obtain ⟨w', h1, h2, h3⟩ := zow (P := P) (hL _ _ hei) (by rw [hei']; exact S.hagg) s (n := n) (by omega) (by omega) hat (by rw [za4, ha]; rfl) (by rw [za4, hb]; rfl) hsz2 cap; have : typeHandle P e' = .pointer (some ⟨g', e', none⟩) := by rw [typeHandle, S.hg]
    rw [this] at h1; refine ⟨.tuple #[], w', _, H'', ?_, ⟨rfl, rfl⟩, h2, ?_, h3⟩
    ·rw [zhz S.x9]
     show ((Extern.ReflectliteSwapper.swap false #[.int .i64 i, .int .i64 j, .slice (some ⟨ρ r, off * sz, none⟩) n cap, .pointer (some ⟨g', e', none⟩)]).run P w).andThen _ = _
     rw [h1]; rfl
    ·simp only [ren, renL]; exact Rep.tup_of .nil
   ·cases h
  ·cases h
 ·cases h
abbrev zeb := (Nat → Bool) → FuncId → List A → Tre Blk → Nat → Option (Fin × Tre Blk × Nat)
def retC (c : zeb) : zgg := fun lo f a H n => match c lo f a H n with
 | some (.ret v, H1, n1) => some (v, H1, n1)
 | _ => none
def OutF (ρ : Nat → Nat) (n : Nat) (lo : Nat → Bool) (fz : Nat → Prop) (H' : Heap) (x : Fin) (H1 : Tre Blk) (n1 : Nat) : Fin → Heap → Prop := fun y H1' => match x with
 | .ret v => ∃ r, y = .ret r ∧ Out ρ n lo fz H' v H1 n1 r H1'
 | .pan u => y = .pan u ∧ ∃ ρ1, Good ρ1 n1 lo fz H1 H1' ∧ Ltr ρ n fz H' ρ1 n1 H1'
def zcK (P : Program) (call : zeb) : Prop :=
 ∀ lo f args H n x H1 n1, call lo f args H n = some (x, H1, n1) → ∀ ρ fz H', zao n args = true → Good ρ n lo fz H H' → TrF P f (renL ρ args) H' (OutF ρ n lo fz H' x H1 n1)
theorem zp0 {P : Program} {call : zeb} (h : zcK P call) : zgG P (retC call) := by
 intro lo f args H n v H1 n1 hc ρ fz H' hs hg; unfold retC at hc; split at hc
 ·rename_i hc'
  cases hc; exact TrF.toTr (h _ _ _ _ _ _ _ _ hc' ρ fz H' hs hg)
 ·cases hc
def zo0 : zgg := fun _ _ _ _ _ => none
theorem zlU {P : Program} : zgG P zo0 := fun _ _ _ _ _ _ _ _ h => by cases h
def zpH (P : Program) (E : Exts) (M : zc7) (L : Lay) (call : zeb) (lo : Nat → Bool) (T : Tre A) (H : Tre Blk) (n : Nat) : Op → Option (Fin × Tre Blk × Nat)
 | .panic x => match evC T x with
  | some (.iface t v) => match datA v with
   | some u => some (.pan (.iface t u), H, n)
   | none => none
  | _ => none
 | .call { callee := .value c, args := ⟨args⟩, argTypes := _ } => match evC T c with
  | some (.fn f first cap) => match evsC T args with
   | some xs => match E f (first ++ xs ++ cap) with
    | some v => match scope n v with
     | true => some (.ret v, H, n)
     | false => none
    | none => match M f (first ++ xs ++ cap) H with
     | some e => match zb8 lo H n e with
      | some (v, H1, n1) => some (.ret v, H1, n1)
      | none => none
     | none => call lo f (first ++ xs ++ cap) H n
   | none => none
  | _ => none
 | op => match evOp P E L zo0 lo T H n op with
  | some (v, H1, n1) => some (.ret v, H1, n1)
  | none => none
def zeQ (P : Program) (E : Exts) (M : zc7) (N : Nat) (L : Lay) (call : zeb) (lo : Nat → Bool) (ops : List Oper) : List Oper → Tre A → Tre Blk → Nat → Res
 | [], T, H, n => some (.normal, T, H, n)
 | o :: rest, T, H, n => match zae ⟨N, [], []⟩ o.dst with
  | true => match zls ops T o with
   | some true => match zpH P E M L call lo T H n o.op with
    | some (.ret v, H1, n1) => zeQ P E M N L call lo ops rest (putC o.dst v T) H1 n1
    | some (.pan u, H1, n1) => some (.panic [{ v := u, recovered := false }], T, H1, n1)
    | none => none
   | some false => zeQ P E M N L call lo ops rest (putC o.dst (.tup []) T) H n
   | none => none
  | false => none
def zdd (late : Oper → Bool) (T : Tre A) (n0 : Nat) : List Oper → List Nat
 | [] => []
 | o :: rest => match o.op with
  | .call { callee := .builtin .append, args := ⟨x :: _⟩, argTypes := _ } => match evC T x with
   | some (.os r _ _ _) => match Nat.blt r n0 && !memN r (zdd late T n0 rest) with
    | true => r :: zdd late T n0 rest
    | false => zdd late T n0 rest
   | _ => zdd late T n0 rest
  | .store _ x _ => match late o, evC T x with
   | false, some (.ptr r _ _ _) => match Nat.blt r n0 && !memN r (zdd late T n0 rest) with
    | true => r :: zdd late T n0 rest
    | false => zdd late T n0 rest
   | _, _ => zdd late T n0 rest
  | _ => zdd late T n0 rest
def zqy (b : List Nat) (hv : Oper → Bool) : List Oper → Nat → Nat → List Nat × List Nat
 | [], _, _ => ([], [])
 | o :: rest, i, mask => match hv o || !Nat.beq ((b.getD i 0) &&& mask) 0 with
  | true => match zqy b hv rest (i + 1) (mask ||| 2 ^ i) with
   | (l, m) => (l, i :: m)
  | false => match zqy b hv rest (i + 1) mask with
   | (l, m) => (i :: l, m)
def znw (ops : List Oper) (hv : Oper → Bool) : List (Nat × Oper) := match zqy (anc ops) hv ops 0 0 with
 | (l, m) => ordL ops (l ++ m)
def zfw (P : Program) (E : Exts) (M : zc7) (N : Nat) (L : Lay) (call : zeb) (lo : Nat → Bool) (ops : List Oper) (ap : Bool) (hv : Oper → Bool) (xl : List Nat) (cons : Nat → Bool) (base : Option (Tre Blk)) (T : Tre A) (H : Tre Blk) (n : Nat) : Res :=
 match chk2 (zkg (xl ++ zdH ap (anc ops) ops 0 false 0 0)) (zpW (match ap with | true => ziT (anc ops) ops 0 false 0 | false => [])) hv ops (znw ops hv) with
 | true => match base with
  | some H0 => match ziw P E N L (retC call) lo (zkg (xl ++ zdH ap (anc ops) ops 0 false 0 0)) (zpW (match ap with | true => ziT (anc ops) ops 0 false 0 | false => [])) hv ops cons H0 n ((znw ops hv).map (·.2)) true T H n with
   | some (e, T1, H1, n1, _, _) => some (e, T1, H1, n1)
   | none => none
  | none => none
 | false => none
def zgf (T : Tre A) : List Oper → List Nat
 | [] => []
 | o :: rest => match o.op with
  | .load _ x => match evC T x with
   | some (.ptr r _ _ _) => r :: zgf T rest
   | _ => zgf T rest
  | .lookup _ x _ _ => match evC T x with
   | some (.map r) => r :: zgf T rest
   | _ => zgf T rest
  | _ => zgf T rest
def zpl (b : List Nat) (hv : Oper → Bool) (i : Nat) : List Oper → Nat → Bool
 | [], _ => true
 | o :: rest, j => match !hv o || !Nat.beq ((b.getD j 0) &&& (2 ^ i)) 0 with
  | true => zpl b hv i rest (j + 1)
  | false => false
def ziX (b : List Nat) (hv : Oper → Bool) (ops : List Oper) : List Oper → Nat → List Nat
 | [], _ => []
 | o :: rest, i => match Nat.beq (clsH hv o) 1 && zpl b hv i ops 0 with
  | true => addK o (ziX b hv ops rest (i + 1))
  | false => ziX b hv ops rest (i + 1)
def zoK (H : Tre Blk) (n : Nat) (keep : List Nat) (i : Nat) : Bool := match Nat.blt i n, memN i keep, H.get i with
 | true, false, some _ => true
 | _, _, _ => false
theorem zoi {H : Tre Blk} {n : Nat} {keep : List Nat} (i : Nat) (h : zoK H n keep i = true) : i < n ∧ (H.get i).isSome = true := by
 unfold zoK at h; split at h
 ·rename_i b h1 h2 h3; exact ⟨by simpa [Nat.blt_eq] using h1, by rw [h3]; rfl⟩
 ·cases h
def zpd : List Oper → List Oper
 | [] => []
 | o :: rest => match rest.any zbz with
  | true => o :: zpd rest
  | false => match zbz o with
   | true => [o]
   | false => []
def zjx : List Oper → List Oper
 | [] => []
 | o :: rest => match zbz o with
  | true => []
  | false => o :: zjx rest
def zhs : List Oper → Option Nat → Option Nat
 | [], k => k
 | o :: rest, k => match zbz o with
  | true => zhs rest (keyOf o)
  | false => zhs rest k
def zra (k : Option Nat) (o : Oper) : Bool := match zbz o, keyOf o, k with
 | true, some d, some d' => Nat.beq d d'
 | _, _, _ => false
def zfT (P : Program) (E : Exts) (M : zc7) (N : Nat) (L : Lay) (call : zeb) (lo : Nat → Bool) (hv : Oper → Bool) (ops pre : List Oper) (xl : List Nat) (T : Tre A) (H : Tre Blk) (n : Nat) : Res :=
 match zeQ P E M N L call lo ops pre T H n with
 | some (_, T1, _, _) => zfw P E M N L call lo ops false hv xl (zoK H n (zgf T1 (ops.filter fun o => match keyOf o with | some d => !memN d xl | none => true))) (some (H.filt fun i => !(lo i && zoK H n (zgf T1 (ops.filter fun o => match keyOf o with | some d => !memN d xl | none => true)) i))) T H n
 | none => none
def zi3 (P : Program) (E : Exts) (M : zc7) (N : Nat) (L : Lay) (call : zeb) (lo : Nat → Bool) (ops : List Oper) (T : Tre A) (H : Tre Blk) (n : Nat) : Res :=
 match zfw P E M N L call lo ops false (fun _ => false) [] (fun _ => false) (some H) T H n with
 | some r => some r
 | none => match ops.any zbz with
  | false => match zeQ P E M N L call lo ops ops T H n with
   | some (_, T1, _, _) => zfw P E M N L call lo ops true (fun _ => false) [] (fun i => memN i (zdd (zkg (zdH true (anc ops) ops 0 false 0 0)) T1 n ops)) (zmx lo n (zdd (zkg (zdH true (anc ops) ops 0 false 0 0)) T1 n ops) H) T H n
   | none => none
  | true => match zfT P E M N L call lo zbz ops (zjx ops) [] T H n with
   | some r => some r
   | none => match zfT P E M N L call lo (zra (zhs ops none)) ops (zjx ops) (ziX (anc ops) (zra (zhs ops none)) ops ops 0) T H n with
    | some r => some r
    | none => zfT P E M N L call lo zbz ops (zpd ops) [] T H n
def zaC (P : Program) (E : Exts) (M : zc7) (N : Nat) (L : Lay) (call : zeb) (lo : Nat → Bool) (fuel : Nat) : Code → Tre A → Tre Blk → Nat → Res
 | .skip, T, H, n => some (.normal, T, H, n)
 | .label _, T, H, n => some (.normal, T, H, n)
 | .exit id, T, H, n => some (.exit id, T, H, n)
 | .ret, T, H, n => some (.ret, T, H, n)
 | .seq a b, T, H, n => match zaC P E M N L call lo fuel a T H n with
  | some (.normal, T1, H1, n1) => zaC P E M N L call lo fuel b T1 H1 n1
  | r => r
 | .cond c a b, T, H, n => match evC T c with
  | some (.bool true) => zaC P E M N L call lo fuel a T H n
  | some (.bool false) => zaC P E M N L call lo fuel b T H n
  | _ => none
 | .block id c, T, H, n => match zaC P E M N L call lo fuel c T H n with
  | some (.exit id', T1, H1, n1) => match Nat.beq id' id with
   | true => some (.normal, T1, H1, n1)
   | false => some (.exit id', T1, H1, n1)
  | r => r
 | .loop c, T, H, n => ziK (zaC P E M N L call lo fuel c) fuel T H n
 | .region _ ops false, T, H, n => zeQ P E M N L call lo ops.toList ops.toList T H n
 | .region _ ops true, T, H, n => zi3 P E M N L call lo ops.toList T H n
 | _, _, _, _ => none
section
variable {P : Program} {E : Exts} {M : zc7} {N : NN} {L : Lay} {call : zeb} {ρ : Nat → Nat} {n : Nat} {lo : Nat → Bool} {fz : Nat → Prop} {T : Tre A} {H : Tre Blk} {T' : Env} {H' : Heap}
theorem AOp.panicIface {N : NN} {T : Env} {H : Heap} {ops rest : List Oper} {dst : Option Nat} {x : Operand} {t : TypeId} {v : A} {u : Value} {ty : TypeId} {pos : String} {after : Array Edge} {guard : Option (Nat × Bool)} {Q : Exit → Env → Heap → Prop}
  (hx : ev T x = some (.iface t v)) (hu : datA v = some u) (k : Q (.panic [{ v := .iface t u, recovered := false }]) T H) :
  AOp P N ops ⟨dst, .panic x, ty, pos, after, guard⟩ rest Q T H := by
 refine ⟨fun fr w a s st => ?_⟩; have hr := zad st hx; have he := zg6 (a := .iface t v) (u := .iface t u) (by simp only [datA, hu]) hr; unfold Oper.wp execOp; simp only [he, Sem.run_bind, zdn, Result.andThen_halt, Oper.upon_panic]; exact ⟨T, H, k, s, st, Ext.refl H w⟩
theorem zj5 (hL : zag P L) (hE : zc2 P E) (hM : zcu P M) (hc : zcK P call) (c : Cfg ρ n lo fz T H T' H') {o : Oper} (hd : zae N o.dst = true) {x : Fin} {H1 : Tre Blk} {n1 : Nat} (h : zpH P E M L call lo T H n o.op = some (x, H1, n1))
  {ops rest : List Oper} {Q : Exit → Env → Heap → Prop} (k : ∀ v r H1', x = .ret v → Out ρ n lo fz H' v H1 n1 r H1' → AOps P N ops rest Q (put o.dst r T') H1')
  (kp : ∀ u ρ1 H1', x = .pan u → Good ρ1 n1 lo fz H1 H1' → Ltr ρ n fz H' ρ1 n1 H1' → Q (.panic [{ v := u, recovered := false }]) T' H1') : AOp P N ops o rest Q T' H' := by
 obtain ⟨dst, op, ty, pos, after, guard⟩ := o; simp only at h hd k; unfold zpH at h; split at h
 ·split at h
  ·rename_i hx
   have hx := c.r.ev hx; simp only [ren] at hx; split at h
   ·rename_i u hu
    cases h; exact AOp.panicIface hx (zfu ρ _ _ hu) (kp _ ρ H' rfl c.g (Ltr.refl ..))
   ·cases h
  ·cases h
 ·split at h
  ·rename_i hf
   have hf' := c.r.ev hf; have sf := c.s.ev hf; simp only [ren] at hf'; simp only [scope, Bool.and_eq_true] at sf; split at h
   ·rename_i ha
    have ha' := c.r.evs ha; have sa := c.s.evs ha; split at h
    ·rename_i v' hv
     split at h
     ·rename_i hs
      cases h; refine AOp.callExt hf' ha' (fun w o vs hr => hE _ _ _ hv ρ w o vs ?_) hd (k _ _ _ rfl ⟨ρ, rfl, hs, c.g, Ltr.refl ..⟩); rw [zaZ, zaZ]; exact hr
     ·cases h
    ·split at h
     ·rename_i e hme
      split at h
      ·rename_i v1 H2 n2 hap
       cases h; exact zf5 (EffM.ok (N := N) hf' ha' (by simp only [zaZ]) hd (hM _ _ _ _ hme ρ n lo fz H' c.g)) c.g hap fun r H1' hr => k _ r H1' rfl hr
      ·cases h
     ·have ht := hc _ _ _ _ _ _ _ _ h ρ fz H' (zbx (zbx sf.1 sa) sf.2) c.g
      simp only [zaZ] at ht; refine AOp.callF (F := []) hf' ha' hd (by simp) ht (fun r H1' hr => ?_) (fun u H1' hr => ?_)
      ·rw [List.append_nil]
       cases x with
       | ret v =>
        obtain ⟨r', e, ho⟩ := hr; cases e; exact k v r H1' rfl ho
       | pan u => exact absurd hr.1 (by simp)
      ·rw [List.append_nil]
       cases x with
       | ret v =>
        obtain ⟨r', e, ho⟩ := hr; cases e
       | pan u' =>
        obtain ⟨e, ρ1, hg, hl⟩ := hr; cases e; exact kp _ ρ1 H1' rfl hg hl
   ·cases h
  ·cases h
 ·split at h
  ·rename_i ho
   cases h; exact ziW hL hE zlU c (o := ⟨dst, op, ty, pos, after, guard⟩) hd ho fun r H1' hr => k _ r H1' rfl hr
  ·cases h
theorem zgj (hL : zag P L) (hE : zc2 P E) (hM : zcu P M) (hc : zcK P call) {ops : List Oper} {Q : Exit → Env → Heap → Prop} {e : Exit} {T1 : Tre A} {H1 : Tre Blk} {n1 : Nat} : ∀ (rest : List Oper) {ρ : Nat → Nat} {n : Nat} {T : Tre A} {H : Tre Blk} {T' : Env} {H' : Heap},
  Cfg ρ n lo fz T H T' H' → zeQ P E M N.n L call lo ops rest T H n = some (e, T1, H1, n1) →
  (∀ ρ1 T1' H1', Cfg ρ1 n1 lo fz T1 H1 T1' H1' → Ltr ρ n fz H' ρ1 n1 H1' → Q e T1' H1') → AOps P N ops rest Q T' H'
 | [], ρ, n, T, H, T', H', c, h, k => by
  simp only [zeQ] at h; cases h; exact AOps.nil (k _ _ _ c (Ltr.refl ..))
 | o :: rest, ρ, n, T, H, T', H', c, h, k => by
  simp only [zeQ] at h; split at h
  ·rename_i hd
   have hd : zae N o.dst = true := hd; split at h
   ·rename_i hw
    have key : AOp P N ops o rest Q T' H' := by
     split at h
     ·rename_i v H2 n2 ho
      refine zj5 hL hE hM hc c hd ho (fun v' r H1' hv hr => ?_) (fun u ρ1 H1' hu _ _ => by cases hu)
      cases hv; obtain ⟨ρ1, c1, l1⟩ := c.next hr o.dst; exact zgj hL hE hM hc rest c1 h fun ρ2 T2' H2' c2 l2 => k _ _ _ c2 (l1.trans l2)
     ·rename_i u H2 n2 ho
      cases h; refine zj5 hL hE hM hc c hd ho (fun v' r H1' hv hr => by cases hv) (fun u ρ1 H1' hu hg hl => ?_)
      cases hu; exact k ρ1 T' H1' ⟨c.r.later c.s hl.agree, c.s.mono hl.le, hg⟩ hl
     ·cases h
    unfold zls at hw; split at hw
    ·rename_i hg; exact AOps.plain hg key
    ·rename_i j b hg
     split at hw
     ·cases hw
     ·rename_i d hdj
      split at hw
      ·rename_i b' hb
       have hb := c.r d _ hb; simp only [ren] at hb; have hbb : b' = b := by simpa using hw
       subst hbb; exact AOps.wanted hg hdj hb hd key
      ·cases hw
      ·cases hw
   ·rename_i hw
    have c1 : Cfg ρ n lo fz (putC o.dst (.tup []) T) H (put o.dst (.tup []) T') H' := ⟨by have := c.r.put o.dst (.tup []); simpa only [ren, renL] using this, c.s.put o.dst (by rfl), c.g⟩
    have key := zgj hL hE hM hc (Q := Q) rest c1 h k; unfold zls at hw; split at hw
    ·cases hw
    ·rename_i j b hg
     split at hw
     ·cases hw
     ·rename_i d hdj
      split at hw
      ·rename_i b' hb
       have hb := c.r d _ hb; simp only [ren] at hb; have hbb : (b' == b) = false := by simpa using hw
       exact AOps.unwanted hg hdj hb (by cases b <;> cases b' <;> simp_all) hd key
      ·rename_i l hb
       have hb := c.r d _ hb; simp only [ren] at hb; exact AOps.unwantedU hg hdj hb hd key
      ·cases hw
   ·cases h
  ·cases h
theorem zmC {ops : List Oper} {hv : Oper → Bool} : ∀ p ∈ znw ops hv, ops[p.1]? = some p.2 := by
 intro p hp; unfold znw at hp; split at hp; exact zn1 hp
theorem zeE {id : Nat} (hL : zag P L) (hm : P.follows .mixedOrders = true) (hE : zc2 P E) (hM : zcu P M) (hc : zcK P call) {ops : List Oper} {ap : Bool} {hv : Oper → Bool} {xl : List Nat} {cons : Nat → Bool} {base : Option (Tre Blk)} {Q : Exit → Env → Heap → Prop} {e : Exit} {T1 : Tre A} {H1 : Tre Blk} {n1 : Nat}
  (c : Cfg ρ n lo fz T H T' H') (hbase : ∀ H0, base = some H0 → ∃ B G, Good ρ n lo fz H0 B ∧ H'.Perm (G ++ B) ∧ ∀ i, lo i = true → cons i = true → i < n ∧ ρ i ∉ keys B) (h : zfw P E M N.n L call lo ops ap hv xl cons base T H n = some (e, T1, H1, n1)) (k : ∀ ρ1 T1' H1', Cfg ρ1 n1 lo fz T1 H1 T1' H1' → Ltr ρ n fz H' ρ1 n1 H1' → Q e T1' H1') : AWp P N (.region id ops.toArray true) Q T' H' := by
 unfold zfw at h
 generalize (zpW (match ap with | true => ziT (anc ops) ops 0 false 0 | false => [])) = uni at h
 split at h
 ·rename_i hk
  split at h
  ·rename_i x0 H0
   split at h
   ·rename_i V W ho
    cases h; obtain ⟨B, G, g0, hG, hcons⟩ := hbase H0 rfl; exact AWp.draw2 (id := id) hL hm zmC hk (zh3 hL hE (zp0 hc) g0 hcons _ c (fun _ _ => rfl) (Nat.le_refl _) (fun _ => ⟨⟨G, hG⟩, fun i h0 h1 => absurd h0 (by omega)⟩) ho k
     (fun d => match get V d with | some x => ren ρ x | none => default) (fun d => match getW W d with | some (m, b) => (m.on, renB ρ b) | none => (fun _ => .nilp, .map [])) (fun d x hx => by simp only [hx]) (fun d m b hx => by simp only [hx]))
   ·cases h
  ·cases h
 ·cases h
theorem zkU {id : Nat} (hL : zag P L) (hm : P.follows .mixedOrders = true) (hE : zc2 P E) (hM : zcu P M) (hc : zcK P call) {ops : List Oper} {Q : Exit → Env → Heap → Prop} {e : Exit} {T1 : Tre A} {H1 : Tre Blk} {n1 : Nat}
  (c : Cfg ρ n lo fz T H T' H') (h : zi3 P E M N.n L call lo ops T H n = some (e, T1, H1, n1)) (k : ∀ ρ1 T1' H1', Cfg ρ1 n1 lo fz T1 H1 T1' H1' → Ltr ρ n fz H' ρ1 n1 H1' → Q e T1' H1') : AWp P N (.region id ops.toArray true) Q T' H' := by
 unfold zi3 at h; split at h
 ·rename_i hp
  cases h; exact zeE hL hm hE hM hc c (fun H0 hb => by cases hb; exact ⟨H', [], c.g, List.Perm.refl _, fun i _ hi => by cases hi⟩) hp k
 ·split at h
  ·split at h
   ·exact zeE hL hm hE hM hc c (fun H0 hb => by
     obtain ⟨B, G, h1, h2, h3⟩ := zjL c.g hb; exact ⟨B, G, h1, h2, fun i _ hi => h3 i (zj3 hi)⟩) h k
   ·cases h
  ·have hh : ∀ hv pre xl, zfT P E M N.n L call lo hv ops pre xl T H n = some (e, T1, H1, n1) → AWp P N (.region id ops.toArray true) Q T' H' := by
    intro hv pre xl h; unfold zfT at h; split at h
    ·exact zeE hL hm hE hM hc c (fun H0 hb => by cases hb; exact zmm c.g _ zoi) h k
    ·cases h
   split at h
   ·rename_i hp
    cases h; exact hh _ _ _ hp
   ·split at h
    ·rename_i hp
     cases h; exact hh _ _ _ hp
    ·exact hh _ _ _ h
variable {fuel : Nat}
theorem zaN (hL : zag P L) (hm : P.follows .mixedOrders = true) (hE : zc2 P E) (hM : zcu P M) (hc : zcK P call) : ∀ (c : Code) {Q : Exit → Env → Heap → Prop} {ρ : Nat → Nat} {n : Nat} {T : Tre A} {H : Tre Blk} {T' : Env} {H' : Heap} {e : Exit} {T1 : Tre A} {H1 : Tre Blk} {n1 : Nat},
  Cfg ρ n lo fz T H T' H' → zaC P E M N.n L call lo fuel c T H n = some (e, T1, H1, n1) →
  (∀ ρ1 T1' H1', Cfg ρ1 n1 lo fz T1 H1 T1' H1' → Ltr ρ n fz H' ρ1 n1 H1' → Q e T1' H1') → AWp P N c Q T' H'
 | .skip, Q, ρ, n, T, H, T', H', e, T1, H1, n1, c, h, k => by
  simp only [zaC] at h; cases h; exact AWp.skip (k _ _ _ c (Ltr.refl ..))
 | .label l, Q, ρ, n, T, H, T', H', e, T1, H1, n1, c, h, k => by
  simp only [zaC] at h; cases h; exact AWp.label (k _ _ _ c (Ltr.refl ..))
 | .exit id, Q, ρ, n, T, H, T', H', e, T1, H1, n1, c, h, k => by
  simp only [zaC] at h; cases h; exact AWp.exit (k _ _ _ c (Ltr.refl ..))
 | .ret, Q, ρ, n, T, H, T', H', e, T1, H1, n1, c, h, k => by
  simp only [zaC] at h; cases h; exact AWp.ret (k _ _ _ c (Ltr.refl ..))
 | .seq a b, Q, ρ, n, T, H, T', H', e, T1, H1, n1, c, h, k => by
  simp only [zaC] at h; refine AWp.seq ?_; split at h
  ·rename_i T2 H2 n2 ha
   refine zaN hL hm hE hM hc a c ha fun ρ1 T1' H1' c1 l1 => zar ?_; exact zaN hL hm hE hM hc b c1 h fun ρ2 T2' H2' c2 l2 => k _ _ _ c2 (l1.trans l2)
  ·rename_i hne
   refine zaN hL hm hE hM hc a c h fun ρ1 T1' H1' c1 l1 => ?_; have hq := k ρ1 T1' H1' c1 l1; cases e with
   | normal => exact absurd h (hne T1 H1 n1)
   | _ => exact hq
 | .cond x a b, Q, ρ, n, T, H, T', H', e, T1, H1, n1, c, h, k => by
  simp only [zaC] at h; split at h
  ·rename_i hx
   have hx := c.r.ev hx; simp only [ren] at hx; exact AWp.condT hx (zaN hL hm hE hM hc a c h k)
  ·rename_i hx
   have hx := c.r.ev hx; simp only [ren] at hx; exact AWp.condF hx (zaN hL hm hE hM hc b c h k)
  ·cases h
 | .block id a, Q, ρ, n, T, H, T', H', e, T1, H1, n1, c, h, k => by
  simp only [zaC] at h; refine AWp.block ?_; split at h
  ·rename_i id' T2 H2 n2 ha
   refine zaN hL hm hE hM hc a c ha fun ρ1 T1' H1' c1 l1 => ?_; split at h
   ·rename_i hb
    cases h; exact zj1 hb (k _ _ _ c1 l1)
   ·rename_i hb
    cases h; exact zj2 hb (k _ _ _ c1 l1)
  ·rename_i hne
   refine zaN hL hm hE hM hc a c h fun ρ1 T1' H1' c1 l1 => ?_; have hq := k ρ1 T1' H1' c1 l1; cases e with
   | exit id' => exact absurd h (hne id' T1 H1 n1)
   | _ => exact hq
 | .loop a, Q, ρ, n, T, H, T', H', e, T1, H1, n1, c, h, k => by
  simp only [zaC] at h; exact AIn.toRound (ziC (fun c h k => zaN hL hm hE hM hc a c h k) fuel c h k)
 | .region id ops false, Q, ρ, n, T, H, T', H', e, T1, H1, n1, c, h, k => by
  simp only [zaC] at h; have := AWp.region (id := id) (zgj hL hE hM hc ops.toList c h k); simpa using this
 | .region id ops true, Q, ρ, n, T, H, T', H', e, T1, H1, n1, c, h, k => by
  simp only [zaC] at h; have := zkU (id := id) hL hm hE hM hc c h k; simpa using this
 | .rangeFunc .., Q, ρ, n, T, H, T', H', e, T1, H1, n1, c, h, k => by simp [zaC] at h
 | .scope .., Q, ρ, n, T, H, T', H', e, T1, H1, n1, c, h, k => by simp [zaC] at h
 | .goto .., Q, ρ, n, T, H, T', H', e, T1, H1, n1, c, h, k => by simp [zaC] at h
 | .refuse .., Q, ρ, n, T, H, T', H', e, T1, H1, n1, c, h, k => by simp [zaC] at h
end
section
variable {P : Program} {N : NN} {T : Env} {H : Heap}
structure StD (n : Nat) (w : World) (o : Nat → Prop) (T : Env) (D : Option (FuncId × List A)) (a : Act) : Prop where
 size : a.tmps.size = n
 at_ : ∀ t x, get T t = some x → ∃ v, a.tmps[t]? = some v ∧ Rep w o x v
 none : D = none → a.defers = []
 some : ∀ f as, D = some (f, as) → ∃ cap args : Array Value, a.defers = [{ target := .fn (.func f) cap, args := args }] ∧ RepL w o as (args.toList ++ cap.toList)
structure DWp (P : Program) (n : Nat) (c : Code) (Q : Option (FuncId × List A) → Exit → Env → Heap → Prop) (T : Env) (H : Heap) : Prop where
 out : ∀ (fr : Nat → Prop) (w : World) (a : Act), Sim fr H w → St ⟨n, [], []⟩ w (own fr H) T a → c.wp P (fun e a' w' => ∃ D T' H', Q D e T' H' ∧ Sim fr H' w' ∧ StD n w' (own fr H') T' D a' ∧ Ext H w H' w') a w
variable {n : Nat} {Q : Option (FuncId × List A) → Exit → Env → Heap → Prop}
theorem St.toD {w : World} {o : Nat → Prop} {a : Act} (h : St ⟨n, [], []⟩ w o T a) : StD n w o T .none a := ⟨h.size, h.at_, fun _ => h.defers, fun f as e => by cases e⟩
theorem DWp.plain {c : Code} (h : AWp P ⟨n, [], []⟩ c (fun e T H => Q .none e T H) T H) : DWp P n c Q T H :=
 ⟨fun fr w a s st => wp_mono (h.out fr w a s st) fun e a' w' ⟨T', H', q, s', st', x'⟩ => ⟨.none, T', H', q, s', st'.toD, x'⟩⟩
def seqD (P : Program) (n : Nat) (y : Code) (Q : Option (FuncId × List A) → Exit → Env → Heap → Prop) : Exit → Env → Heap → Prop
 | .normal, T, H => DWp P n y Q T H
 | e, T, H => Q .none e T H
theorem DWp.seq {x y : Code} (h : AWp P ⟨n, [], []⟩ x (seqD P n y Q) T H) : DWp P n (.seq x y) Q T H := by
 refine ⟨fun fr w a s st => wp_seq (wp_mono (h.out fr w a s st) ?_)⟩; rintro e a' w' ⟨T', H', q, s', st', x'⟩; cases e with
 | normal =>
  refine wp_mono (q.out fr w' a' s' st') ?_; rintro e a2 w2 ⟨D, T2, H2, q2, s2, st2, x2⟩; exact ⟨D, T2, H2, q2, s2, st2, x'.trans x2⟩
 | _ => exact ⟨.none, T', H', q, s', st'.toD, x'⟩
theorem DWp.defer {y : Code} {id t f : Nat} {caps : List Operand} {ats : Array TypeId} {ty ty' : TypeId} {pos pos' : String} {after after' : Array Edge} {cs : List A} (hc : evs T caps = some cs) (hd : Nat.blt t n = true)
  (k : ∀ d, AWp P ⟨n, [d], []⟩ y (fun e T H => Q (some (f, cs)) e T H) ((t, .fn f [] cs) :: T) H) :
  DWp P n (.seq (.region id #[{ dst := some t, op := .makeFunc (.func f) #[] caps.toArray, type := ty, pos := pos, after := after, guard := .none }, { dst := .none, op := .defer { callee := .value (.tmp t), args := #[], argTypes := ats }, type := ty', pos := pos', after := after', guard := .none }] false) y) Q T H := by
 refine ⟨fun fr w a s st => wp_seq ?_⟩; refine wp_region_lit (l := [_, _]) ?_; have hr := zcS st hc; have hlt : t < a.tmps.size := by rw [st.size]; simpa [Nat.blt_eq] using hd
 have hfv : Rep w (own fr H) (.fn f [] cs) (.func (.func f) #[] (caps.map a.eval).toArray) := Rep.fn_of (us := []) .nil hr; unfold wpList; rw [if_pos (by simp [Region.wanted])]
 left
 unfold Oper.wp execOp; simp only [Instr.makeFunc, Sem.run_bind, Sem.run_pure, Result.andThen_ok, Oper.upon_value, List.map_toArray, List.map_nil]; unfold wpList; rw [if_pos (by simp [Region.wanted])]
 left
 have hev : (a.put (some t) (.func (.func f) #[] (caps.map a.eval).toArray)).eval (.tmp t) = .func (.func f) #[] (caps.map a.eval).toArray := by
  simp [Act.put, Act.eval, Array.getD, hlt]
 unfold Oper.wp execOp; simp only [resolve, hev, Deferred.ofValue, Sem.run_bind, Sem.run_pure, Result.andThen_ok, Oper.upon_defer]; unfold wpList
 generalize hd1 : ({ target := .fn (.func f) (caps.map a.eval).toArray, args := #[] ++ #[] } : Deferred) = d
 have hd2 : ({ target := .fn (.func f) (caps.map a.eval).toArray, args := #[] ++ Array.map (a.put (some t) (.func (.func f) #[] (caps.map a.eval).toArray)).eval #[] } : Deferred) = d := by rw [← hd1]; simp
 rw [hd2]; have hst1 := st.put (d := some t) (x := .fn f [] cs) (by simpa [zae] using hd) hfv; have hst : St ⟨n, [d], []⟩ w (own fr H) ((t, .fn f [] cs) :: T) (({ (a.put (some t) (.func (.func f) #[] (caps.map a.eval).toArray)) with defers := d :: (a.put (some t) (.func (.func f) #[] (caps.map a.eval).toArray)).defers } : Act).put .none undef) := by
  refine ⟨?_, ?_, GOk.nil, ?_⟩
  ·simpa [Act.put] using hst1.size
  ·have := hst1.defers
   simp only [Act.put] at this ⊢; rw [this]
  ·intro u x hx
   obtain ⟨v, h1, h2⟩ := hst1.at_ u x hx; exact ⟨v, by simpa [Act.put] using h1, h2⟩
 refine wp_mono ((k d).out fr w _ s hst) ?_; rintro e a' w' ⟨T', H', q, s', st', x'⟩; refine ⟨_, T', H', q, s', ⟨st'.size, st'.at_, (fun e => by cases e), fun f2 as e => ?_⟩, x'⟩
 cases e; refine ⟨_, _, by rw [st'.defers, ← hd1], ?_⟩
 have := hr.mono x'.stays; simpa using this
structure TrD (P : Program) (f : FuncId) (args : List A) (H : Heap) (u : FrameMode) (R : FrameMode → Heap → Prop) : Prop where
 can : zcT P f
 run : ∀ (fr : Nat → Prop) (w : World) (vs : List Value), Sim fr H w → RepL w (own fr H) args vs →
  CallsD P f vs.toArray u w fun e u' w' => ∃ v H', e = .returned v ∧ R u' H' ∧ Sim fr H' w' ∧ Ext H w H' w'
def zrt (P : Program) (fn : Func) (n : Nat) (R : Fin → Heap → Prop) : Option (FuncId × List A) → Exit → Env → Heap → Prop
 | .none, e, T, H => zrh P fn ⟨n, [], []⟩ R e T H
 | some (f, as), .ret, T, H | some (f, as), .normal, T, H => ∃ R', TrD P f as H .returning R' ∧ ∀ u' H', R' u' H' → settle u' = .returning ∧ ∃ r, zac P fn ⟨n, [], []⟩ T H' r ∧ R (.ret r) H'
 | some (f, as), .panic ch, T, H => ∃ R', TrD P f as H (.panicking ch) R' ∧ ∀ u' H', R' u' H' → settle u' = .returning ∧ ∃ r, zac P fn ⟨n, [], []⟩ T H' r ∧ R (.ret r) H'
 | some _, _, _, _ => False
theorem TrF.of_bodyD {f : FuncId} {fn : Func} {c : Code} {args : List A} {R : Fin → Heap → Prop} (hf : P.funcs[f]? = some fn) (hb : fn.body = some c) (hn : (fn.name == "runtime.NumGoroutine") = false)
  (hN : args.length + (fn.ntmps - args.length) = n) (h : DWp P n c (zrt P fn n R) (zbW 0 args) H) : TrF P f args H R := by
 refine ⟨⟨fn, hf, by simp [hb], hn⟩, fun fr w vs s as => ?_⟩
 refine calls_of_wp_defers hf hb (wp_mono (h.out fr w _ s (zja hN as)) ?_)
 rintro e a w' ⟨D, T', H', q, s', st', x'⟩; have hdef : ∀ {u : FrameMode} {R' : FrameMode → Heap → Prop} {g : FuncId} {as : List A}, u ≠ .run → D = some (g, as) → TrD P g as H' u R' → (∀ u' H'', R' u' H'' → settle u' = .returning ∧ ∃ r, zac P fn ⟨n, [], []⟩ T' H'' r ∧ R (.ret r) H'') →
   Leaves P fn a.tmps (fun e w' => ∃ x H', R x H' ∧ zq8 w' (own fr H') x e ∧ Sim fr H' w' ∧ Ext H w H' w') a.defers u w' := by
  intro u R' g as hu hD ht hR; obtain ⟨cap, dargs, hde, hrep⟩ := st'.some g as hD; rw [hde]; refine leaves_cons (f := g) (args := dargs ++ cap) hu ?_ ?_
  ·simp only [invoke, zch ht.can]
  ·have := ht.run fr w' _ s' hrep
   have e2 : (dargs.toList ++ cap.toList).toArray = dargs ++ cap := by simp
   rw [e2] at this; refine this.mono ?_; rintro e u' w'' ⟨v, H'', rfl, hR', s'', x''⟩; obtain ⟨hs, r, hr, hRr⟩ := hR u' H'' hR'
   show Leaves P fn a.tmps _ [] (settle u') w''
   rw [hs]; have hst : St ⟨n, [], []⟩ w'' (own fr H'') T' { a with defers := [] } := ⟨st'.size, rfl, GOk.nil, fun t x hx => let ⟨v, h1, h2⟩ := st'.at_ t x hx; ⟨v, h1, h2.mono x''.stays⟩⟩
   obtain ⟨v2, h1, h2⟩ := hr fr w'' _ s'' hst; exact ⟨v2, h1, .ret r, H'', hRr, ⟨v2, rfl, h2⟩, s'', x'.trans x''⟩
 have hstn : D = .none → St ⟨n, [], []⟩ w' (own fr H') T' a := fun hD => ⟨st'.size, st'.none hD, GOk.nil, st'.at_⟩; cases D with
 | none =>
  have st'' := hstn rfl; cases e with
  | normal =>
   obtain ⟨r, hr, hR⟩ := q; obtain ⟨v, h1, h2⟩ := hr fr w' a s' st''
   show Leaves P fn a.tmps _ a.defers .returning w'
   rw [st''.defers]; exact ⟨v, h1, .ret r, H', hR, ⟨v, rfl, h2⟩, s', x'⟩
  | ret =>
   obtain ⟨r, hr, hR⟩ := q; obtain ⟨v, h1, h2⟩ := hr fr w' a s' st''
   show Leaves P fn a.tmps _ a.defers .returning w'
   rw [st''.defers]; exact ⟨v, h1, .ret r, H', hR, ⟨v, rfl, h2⟩, s', x'⟩
  | panic ch =>
   obtain ⟨u, rfl, hR⟩ := q
   show Leaves P fn a.tmps _ a.defers _ w'
   rw [st''.defers]; exact ⟨.pan u, H', hR, rfl, s', x'⟩
  | _ => exact q.elim
 | some p =>
  obtain ⟨g, as⟩ := p; cases e with
  | normal => obtain ⟨R', h1, h2⟩ := q; exact hdef (by simp) rfl h1 h2
  | ret => obtain ⟨R', h1, h2⟩ := q; exact hdef (by simp) rfl h1 h2
  | panic ch => obtain ⟨R', h1, h2⟩ := q; exact hdef (by simp) rfl h1 h2
  | _ => exact q.elim
end
def recU : FrameMode → Option (Value × FrameMode)
 | .panicking ({ v, recovered := false, goexit := false } :: older) => some (v, .panicking ({ v, recovered := true } :: older))
 | _ => none
theorem zlm {c : Frame} {cs : List Frame} {u : FrameMode} (h : c.mode = u) : recoverD (c :: cs) = (recU u).map fun p => (p.1, { c with mode := p.2 } :: cs) := by
 subst h; unfold recoverD recU; simp only; split
 ·rename_i he; rw [he]; rfl
 ·rename_i hne
  split
  ·rename_i he; exact absurd he (hne _ _)
  ·rfl
def zhc (id t t' : Nat) (ty ty' : TypeId) (pos pos' : String) (after after' : Array Edge) (ats : Array TypeId) (rest : Code) : Code :=
 .seq (.region id #[{ dst := some t, op := .call { callee := .builtin .recover, args := #[], argTypes := ats }, type := ty, pos := pos, after := after, guard := none }, { dst := some t', op := .assign (.tmp t), type := ty', pos := pos', after := after', guard := none }] false) rest
def zq7 (P : Program) (fn : Func) (n : Nat) (u' : FrameMode) (R : FrameMode → Heap → Prop) : Exit → Env → Heap → Prop
 | .ret, T, H | .normal, T, H => (∃ r, zac P fn ⟨n, [], []⟩ T H r) ∧ R u' H
 | _, _, _ => False
theorem TrD.of_recover {P : Program} {n f : Nat} {fn : Func} {args : List A} {H : Heap} {u u' : FrameMode} {R : FrameMode → Heap → Prop} {id t t' : Nat} {ty ty' : TypeId} {pos pos' : String} {after after' : Array Edge} {ats : Array TypeId} {rest : Code} {x : A}
  (hf : P.funcs[f]? = some fn) (hb : fn.body = some (zhc id t t' ty ty' pos pos' after after' ats rest)) (hn : (fn.name == "runtime.NumGoroutine") = false) (hN : args.length + (fn.ntmps - args.length) = n)
  (ht : Nat.blt t n = true) (ht' : Nat.blt t' n = true)
  (hx : (∃ v, recU u = some (v, u') ∧ ∀ w o, Rep w o x v) ∨ (recU u = none ∧ u' = u ∧ x = .nili))
  (h : AWp P ⟨n, [], []⟩ rest (zq7 P fn n u' R) ((t', x) :: (t, x) :: zbW 0 args) H) : TrD P f args H u R := by
 refine ⟨⟨fn, hf, by simp [hb], hn⟩, fun fr w vs s as => callsD_of_wpS hf hb fun c₀ cs hm => ?_⟩
 have st0 := zja (fn := fn) hN as
 generalize ha : ({ tmps := vs.toArray ++ Array.replicate (fn.ntmps - vs.toArray.size) undef, defers := [] } : Act) = a at st0 ⊢
 unfold zhc; refine wpS_seq (wpS_region ?_)
 obtain ⟨v, cs', hrec, hrv, hcs'⟩ : ∃ v cs', (match recoverD (c₀ :: cs) with | some (v, cs') => (v, cs') | none => (.nilIface, c₀ :: cs)) = (v, cs') ∧ (∀ w o, Rep w o x v) ∧ cs' = { c₀ with mode := u' } :: cs := by
  rw [zlm hm]; rcases hx with ⟨v, h1, h2⟩ | ⟨h1, h2, h3⟩
  ·rw [h1]; exact ⟨v, _, rfl, h2, rfl⟩
  ·subst h2; subst h3
   rw [h1]; refine ⟨.nilIface, _, rfl, fun w o => .nili, ?_⟩; subst hm; rfl
 have hsz : (#[{ dst := some t, op := .call { callee := .builtin .recover, args := #[], argTypes := ats }, type := ty, pos := pos, after := after, guard := none }, { dst := some t', op := .assign (.tmp t), type := ty', pos := pos', after := after', guard := none }] : Array Oper).size = 2 := rfl; rw [hsz, show List.range 2 = [0, 1] from rfl]
 have st1 := st0.put (d := some t) (x := x) (by simpa [zae] using ht) (hrv w (own fr H)); have hev : (a.put (some t) v).eval (.tmp t) = v := by
  have hlt : t < a.tmps.size := by rw [st0.size]; simpa [Nat.blt_eq] using ht
  simp [Act.put, Act.eval, Array.getD, hlt]
 have st2 := st1.put (d := some t') (x := x) (by simpa [zae] using ht') (hrv w (own fr H)); have key : ∀ cs2, cs2 = cs' → wpOpsS P #[{ dst := some t, op := .call { callee := .builtin .recover, args := #[], argTypes := ats }, type := ty, pos := pos, after := after, guard := none }, { dst := some t', op := .assign (.tmp t), type := ty', pos := pos', after := after', guard := none }] (Exit.thenS (rest.wpS P (bodyPostS P fn c₀ cs fun e u' w' => ∃ v H', e = .returned v ∧ R u' H' ∧ Sim fr H' w' ∧ Ext H w H' w')) (bodyPostS P fn c₀ cs fun e u' w' => ∃ v H', e = .returned v ∧ R u' H' ∧ Sim fr H' w' ∧ Ext H w H' w')) [1] (a.put (some t) v) cs2 w := by
  rintro cs2 rfl; unfold wpOpsS; simp only [List.getElem?_toArray, List.getElem?_cons_succ, List.getElem?_cons_zero]; rw [if_pos (by simp [Region.wanted])]; simp only [execOp, hev, Sem.run_pure, Oper.upon_value]; unfold wpOpsS
  show rest.wpS P _ _ cs2 w
  refine wpS_of_wp (wp_mono (h.out fr w _ s st2) ?_)
  rintro e a' w' ⟨T', H', q, s', st', x'⟩; cases e with
  | normal =>
   obtain ⟨⟨r, hr⟩, hR⟩ := q; obtain ⟨v2, h1, h2⟩ := hr fr w' a' s' st'; exact ⟨st'.defers, u', hcs', v2, h1, v2, H', rfl, hR, s', x'⟩
  | ret =>
   obtain ⟨⟨r, hr⟩, hR⟩ := q; obtain ⟨v2, h1, h2⟩ := hr fr w' a' s' st'; exact ⟨st'.defers, u', hcs', v2, h1, v2, H', rfl, hR, s', x'⟩
  | _ => exact q.elim
 unfold wpOpsS; simp only [List.getElem?_toArray, List.getElem?_cons_zero]; rw [if_pos (by simp [Region.wanted])]; simp only [execOp, resolve, invoke, builtin, Sem.run_bind, Sem.run_pure, Result.andThen_ok]; split
 ·rename_i v' cs2 hrd
  rw [hrd] at hrec; simp only [Prod.mk.injEq] at hrec; obtain ⟨rfl, rfl⟩ := hrec; exact key _ rfl
 ·rename_i hrd
  rw [hrd] at hrec; simp only [Prod.mk.injEq] at hrec; obtain ⟨rfl, rfl⟩ := hrec; exact key _ rfl
def zfU : Value → Option A
 | .iface t (.agg cs) => match ofVals cs.toList with
  | some l => some (.iface t (.agg l))
  | none => none
 | .iface t v => match zcE v with
  | some x => some (.iface t x)
  | none => none
 | _ => none
where ofVals : List Value → Option (List A)
 | [] => some []
 | v :: l => match zcE v, ofVals l with
  | some x, some xs => some (x :: xs)
  | _, _ => none
theorem zgH {w : World} {o : Nat → Prop} : ∀ {l : List Value} {xs : List A}, zfU.ofVals l = some xs → RepL w o xs l
 | [], xs, h => by simp only [zfU.ofVals] at h; cases h; exact .nil
 | v :: l, xs, h => by
  simp only [zfU.ofVals] at h; split at h
  ·rename_i x ys h1 h2
   cases h; exact .cons (zdT h1) (zgH h2)
  ·cases h
theorem ze2 {ρ : Nat → Nat} : ∀ {l : List Value} {xs : List A}, zfU.ofVals l = some xs → zao 0 xs = true
 | [], xs, h => by simp only [zfU.ofVals] at h; cases h; rfl
 | v :: l, xs, h => by
  simp only [zfU.ofVals] at h; split at h
  ·rename_i x ys h1 h2
   cases h; simp only [zao, zb2 h1, ze2 (ρ := ρ) h2, Bool.and_self]
  ·cases h
theorem zl1 {w : World} {o : Nat → Prop} {v : Value} {x : A} (h : zfU v = some x) : Rep w o x v := by
 unfold zfU at h; split at h
 ·rename_i t cs
  split at h
  ·rename_i l hl
   cases h; have := Rep.agg_of (zgH (w := w) (o := o) hl); exact .iface _ _ _ this
  ·cases h
 ·split at h
  ·rename_i x hx
   cases h; exact .iface _ _ _ (zdT hx)
  ·cases h
 ·cases h
theorem zi8 {v : Value} {x : A} (h : zfU v = some x) : scope 0 x = true := by
 unfold zfU at h; split at h
 ·split at h
  ·rename_i l hl
   cases h; simp only [scope]; exact ze2 (ρ := id) hl
  ·cases h
 ·split at h
  ·rename_i x hx
   cases h; simp only [scope]; exact zb2 hx
  ·cases h
 ·cases h
def zm8 : Code → Option (Nat × FuncId × List Operand)
 | .region _ ops false => match ops.toList with
  | [⟨some t, .makeFunc (.func f) ⟨[]⟩ ⟨caps⟩, _, _, _, none⟩, ⟨none, .defer { callee := .value (.tmp t'), args := ⟨[]⟩, argTypes := _ }, _, _, _, none⟩] => match Nat.beq t t' with
   | true => some (t, f, caps)
   | false => none
  | _ => none
 | _ => none
def recX : Code → Option (Nat × Nat × Code)
 | .seq (.region _ ops false) rest => match ops.toList with
  | [⟨some t, .call { callee := .builtin .recover, args := ⟨[]⟩, argTypes := _ }, _, _, _, none⟩, ⟨some t', .assign (.tmp t2), _, _, _, none⟩] => match Nat.beq t t2 with
   | true => some (t, t', rest)
   | false => none
  | _ => none
 | _ => none
def evD (P : Program) (E : Exts) (M : zc7) (N : Nat) (L : Lay) (call : zeb) (lo : Nat → Bool) (fuel : Nat) : Code → Tre A → Tre Blk → Nat → Option (Option (FuncId × List A) × Exit × Tre A × Tre Blk × Nat)
 | .seq x y, T, H, n => match zm8 x with
  | some (t, f, caps) => match evsC T caps, Nat.blt t N with
   | some cs, true => match zaC P E M N L call lo fuel y (putC (some t) (.fn f [] cs) T) H n with
    | some (e, T1, H1, n1) => some (some (f, cs), e, T1, H1, n1)
    | none => none
   | _, _ => none
  | none => match zaC P E M N L call lo fuel x T H n with
   | some (.normal, T1, H1, n1) => evD P E M N L call lo fuel y T1 H1 n1
   | some (e, T1, H1, n1) => some (none, e, T1, H1, n1)
   | none => none
 | c, T, H, n => match zaC P E M N L call lo fuel c T H n with
  | some (e, T1, H1, n1) => some (none, e, T1, H1, n1)
  | none => none
def zjm : Exit → Option FrameMode
 | .ret | .normal => some .returning
 | .panic ch => some (.panicking ch)
 | _ => none
def zrc : FrameMode → Bool
 | .returning => true
 | _ => false
def recA (u : FrameMode) : Option (A × FrameMode) := match recU u with
 | some (v, u') => match zfU v with
  | some x => some (x, u')
  | none => none
 | none => some (.nili, u)
def zqe (P : Program) (E : Exts) (M : zc7) (L : Lay) (call : zeb) (lo : Nat → Bool) (fuel : Nat) (f : FuncId) (args : List A) (u : FrameMode) (H : Tre Blk) (n : Nat) : Option (FrameMode × Tre Blk × Nat) := match P.funcs[f]? with
 | some fn => match fn.body with
  | some c => match fn.name == "runtime.NumGoroutine", recX c, recA u with
   | false, some (t, t', rest), some (x, u') => match Nat.blt t (args.length + (fn.ntmps - args.length)), Nat.blt t' (args.length + (fn.ntmps - args.length)) with
    | true, true => match zaC P E M (args.length + (fn.ntmps - args.length)) L call lo fuel rest (putC (some t') x (putC (some t) x (zeA 0 args))) H n with
     | some (e, T1, H1, n1) => match zjm e with
      | some .returning => match resC L T1 H1 fn.results.toList with
       | some _ => some (u', H1, n1)
       | none => none
      | _ => none
     | none => none
    | _, _ => none
   | _, _, _ => none
  | none => none
 | none => none
def zq4 : Exit → Option Value
 | .panic [{ v := u, recovered := false, goexit := false }] => some u
 | _ => none
def zhI (P : Program) (E : Exts) (M : zc7) (L : Lay) (fuel : Nat) : Nat → zeb
 | 0, _, _, _, _, _ => none
 | k + 1, lo, f, args, H, n => match P.funcs[f]? with
  | some fn => match fn.body with
   | some c => match fn.name == "runtime.NumGoroutine" with
    | false => match evD P E M (args.length + (fn.ntmps - args.length)) L (zhI P E M L fuel k) lo fuel c (zeA 0 args) H n with
     | some (none, e, T1, H1, n1) => match zjm e with
      | some .returning => match resC L T1 H1 fn.results.toList with
       | some v => match scope n1 v with
        | true => some (.ret v, H1, n1)
        | false => none
       | none => none
      | _ => match zq4 e with
       | some u => some (.pan u, H1, n1)
       | none => none
     | some (some (g, as), e, T1, H1, n1) => match zjm e with
      | some u => match zqe P E M L (zhI P E M L fuel k) lo fuel g as u H1 n1 with
       | some (u', H2, n2) => match zrc (settle u') with
        | true => match resC L T1 H2 fn.results.toList with
         | some v => match scope n2 v with
          | true => some (.ret v, H2, n2)
          | false => none
         | none => none
        | false => none
       | none => none
      | none => none
     | none => none
    | true => none
   | none => none
  | none => none
section
variable {P : Program} {E : Exts} {M : zc7} {L : Lay} {call : zeb} {lo : Nat → Bool} {fuel : Nat} {fz : Nat → Prop}
theorem zlO {x : Code} {t f : Nat} {caps : List Operand} (h : zm8 x = some (t, f, caps)) : ∃ (id : Nat) (ty ty' : TypeId) (pos pos' : String) (after after' : Array Edge) (ats : Array TypeId),
  x = .region id #[{ dst := some t, op := .makeFunc (.func f) #[] caps.toArray, type := ty, pos := pos, after := after, guard := none }, { dst := none, op := .defer { callee := .value (.tmp t), args := #[], argTypes := ats }, type := ty', pos := pos', after := after', guard := none }] false := by
 unfold zm8 at h; split at h
 ·rename_i id ops
  split at h
  ·rename_i t1 f1 caps1 ty pos after t2 ats ty' pos' after' hl
   split at h
   ·rename_i he
    have he := Nat.eq_of_beq_eq_true he; subst he; cases h; refine ⟨id, ty, ty', pos, pos', after, after', ats, ?_⟩; congr 1; exact Array.toList_inj.1 (by rw [hl])
   ·cases h
  ·cases h
 ·cases h
theorem zqr {c : Code} {t t' : Nat} {rest : Code} (h : recX c = some (t, t', rest)) : ∃ (id : Nat) (ty ty' : TypeId) (pos pos' : String) (after after' : Array Edge) (ats : Array TypeId), c = zhc id t t' ty ty' pos pos' after after' ats rest := by
 unfold recX at h; split at h
 ·rename_i id ops rest1
  split at h
  ·rename_i t1 ats ty pos after t2 t3 ty' pos' after' hl
   split at h
   ·rename_i he
    have he := Nat.eq_of_beq_eq_true he; subst he; cases h; refine ⟨id, ty, ty', pos, pos', after, after', ats, ?_⟩; unfold zhc; congr 2; exact Array.toList_inj.1 (by rw [hl])
   ·cases h
  ·cases h
 ·cases h
theorem zhH {e : Exit} (h : zjm e = some .returning) : e = .ret ∨ e = .normal := by
 cases e <;> simp [zjm] at h <;> simp
theorem zjq {e : Exit} {u : FrameMode} (h : zjm e = some u) : ((e = .ret ∨ e = .normal) ∧ u = .returning) ∨ ∃ ch, e = .panic ch ∧ u = .panicking ch := by
 cases e <;> simp [zjm] at h <;> subst h <;> simp
theorem zpg {n0 : Nat} (hL : zag P L) (hm : P.follows .mixedOrders = true) (hE : zc2 P E) (hM : zcu P M) (hc : zcK P call) : ∀ (c : Code) {Q : Option (FuncId × List A) → Exit → Env → Heap → Prop} {ρ : Nat → Nat} {n : Nat} {T : Tre A} {H : Tre Blk} {T' : Env} {H' : Heap} {D : Option (FuncId × List A)} {e : Exit} {T1 : Tre A} {H1 : Tre Blk} {n1 : Nat},
  Cfg ρ n lo fz T H T' H' → evD P E M n0 L call lo fuel c T H n = some (D, e, T1, H1, n1) →
  (∀ ρ1 T1' H1', Cfg ρ1 n1 lo fz T1 H1 T1' H1' → Ltr ρ n fz H' ρ1 n1 H1' → (∀ f as, D = some (f, as) → zao n1 as = true) → Q (D.map fun p => (p.1, renL ρ1 p.2)) e T1' H1') → DWp P n0 c Q T' H' := by
 have plain : ∀ (c : Code) {Q : Option (FuncId × List A) → Exit → Env → Heap → Prop} {ρ : Nat → Nat} {n : Nat} {T : Tre A} {H : Tre Blk} {T' : Env} {H' : Heap} {D : Option (FuncId × List A)} {e : Exit} {T1 : Tre A} {H1 : Tre Blk} {n1 : Nat},
   Cfg ρ n lo fz T H T' H' → (match zaC P E M n0 L call lo fuel c T H n with | some (e, T1, H1, n1) => some (none, e, T1, H1, n1) | none => none) = some (D, e, T1, H1, n1) →
   (∀ ρ1 T1' H1', Cfg ρ1 n1 lo fz T1 H1 T1' H1' → Ltr ρ n fz H' ρ1 n1 H1' → (∀ f as, D = some (f, as) → zao n1 as = true) → Q (D.map fun p => (p.1, renL ρ1 p.2)) e T1' H1') → DWp P n0 c Q T' H' := by
  intro c Q ρ n T H T' H' D e T1 H1 n1 cf h k; split at h
  ·rename_i hcode
   cases h; exact DWp.plain (zaN (N := ⟨n0, [], []⟩) hL hm hE hM hc c cf hcode fun ρ1 T1' H1' c1 l1 => k ρ1 T1' H1' c1 l1 (fun f as e => by cases e))
  ·cases h
 intro c
 induction c with
 | seq x y _ ihy =>
  intro Q ρ n T H T' H' D e T1 H1 n1 cf h k; simp only [evD] at h; split at h
  ·rename_i t f caps hd
   obtain ⟨id, ty, ty', pos, pos', after, after', ats, rfl⟩ := zlO hd; split at h
   ·rename_i cs hcs hlt
    split at h
    ·rename_i hcode
     cases h; have hev := cf.r.evs hcs; have hsc := cf.s.evs hcs; have c1 : Cfg ρ n lo fz (putC (some t) (.fn f [] cs) T) H ((t, .fn f [] (renL ρ cs)) :: T') H' := by
      refine ⟨?_, cf.s.put _ (by simp only [scope, zao, hsc, Bool.and_self]), cf.g⟩; have := cf.r.put (some t) (.fn f [] cs); simpa only [ren, renL, put] using this
     refine DWp.defer hev hlt fun d => zaN (N := ⟨n0, [d], []⟩) hL hm hE hM hc y c1 hcode fun ρ1 T1' H1' c2 l2 => ?_; have := k ρ1 T1' H1' c2 l2 (fun f2 as e => by cases e; exact (by
      have := hsc; exact zba l2.le _ this))
     simp only [Option.map_some] at this; rw [zbh l2.agree cs hsc] at this; exact this
    ·cases h
   ·cases h
  ·rename_i hnd
   split at h
   ·rename_i hx
    refine DWp.seq (zaN (N := ⟨n0, [], []⟩) hL hm hE hM hc x cf hx fun ρ1 T1' H1' c1 l1 => ?_)
    exact ihy c1 h fun ρ2 T2' H2' c2 l2 hs => k ρ2 T2' H2' c2 (l1.trans l2) hs
   ·rename_i e2 _ _ _ hne hx
    cases h; refine DWp.seq (zaN (N := ⟨n0, [], []⟩) hL hm hE hM hc x cf hx fun ρ1 T1' H1' c1 l1 => ?_)
    have := k ρ1 T1' H1' c1 l1 (fun f as e => by cases e)
    cases e with
    | normal => exact absurd hx (by intro hx'; exact (hne rfl))
    | _ => exact this
   ·cases h
 | _ => intro Q ρ n T H T' H' D e T1 H1 n1 cf h k; exact plain _ cf h k
theorem zpt {u u' : FrameMode} {x : A} (h : recA u = some (x, u')) : ((∃ v, recU u = some (v, u') ∧ ∀ w o, Rep w o x v) ∨ (recU u = none ∧ u' = u ∧ x = .nili)) ∧ scope 0 x = true := by
 unfold recA at h; split at h
 ·rename_i v u1 hu
  split at h
  ·rename_i y hy
   cases h; exact ⟨.inl ⟨v, hu, fun w o => zl1 hy⟩, zi8 hy⟩
  ·cases h
 ·rename_i hu
  cases h; exact ⟨.inr ⟨hu, rfl, rfl⟩, rfl⟩
theorem zos (hL : zag P L) (hm : P.follows .mixedOrders = true) (hE : zc2 P E) (hM : zcu P M) (hc : zcK P call) {f : FuncId} {args : List A} {u u' : FrameMode} {H : Tre Blk} {n : Nat} {H1 : Tre Blk} {n1 : Nat} {ρ : Nat → Nat} {H' : Heap}
  (h : zqe P E M L call lo fuel f args u H n = some (u', H1, n1)) (hs : zao n args = true) (g : Good ρ n lo fz H H') : TrD P f (renL ρ args) H' u fun u2 H1' => u2 = u' ∧ ∃ ρ1, Good ρ1 n1 lo fz H1 H1' ∧ Ltr ρ n fz H' ρ1 n1 H1' := by
 unfold zqe at h; split at h
 ·rename_i fn hf
  split at h
  ·rename_i c hb
   split at h
   ·rename_i t t' rest x u1 hn hrx hra
    obtain ⟨id, ty, ty', pos, pos', after, after', ats, rfl⟩ := zqr hrx; obtain ⟨hx, hxs⟩ := zpt hra; split at h
    ·rename_i ht ht'
     split at h
     ·rename_i e T1 H2 n2 hcode
      split at h
      ·rename_i ho
       split at h
       ·rename_i v hv
        cases h; refine TrD.of_recover (n := args.length + (fn.ntmps - args.length)) hf hb hn (by rw [zaL]) ht ht' hx ?_; have c0 : Cfg ρ n lo fz (putC (some t') x (putC (some t) x (zeA 0 args))) H ((t', x) :: (t, x) :: zbW 0 (renL ρ args)) H' := by
         have r0 : EnvR ρ (zeA 0 args) (zbW 0 (renL ρ args)) := fun t x hx => zha hx; have s0 : EnvS n (zeA 0 args) := fun t x hx => zdR hs hx; have hx' := zbg (Nat.zero_le n) x hxs; refine ⟨?_, (s0.put _ hx').put _ hx', g⟩; have := (r0.put (some t) x).put (some t') x; rw [zcv ρ hxs] at this; exact this
        refine zaN (N := ⟨args.length + (fn.ntmps - args.length), [], []⟩) hL hm hE hM hc rest c0 hcode fun ρ1 T1' H1' c1 l1 => ?_; have hr := zhq (N := ⟨args.length + (fn.ntmps - args.length), [], []⟩) hL c1 hv; rcases zhH ho with rfl | rfl
        ·exact ⟨⟨_, hr⟩, rfl, ρ1, c1.g, l1⟩
        ·exact ⟨⟨_, hr⟩, rfl, ρ1, c1.g, l1⟩
       ·cases h
      ·cases h
     ·cases h
    ·cases h
   ·cases h
  ·cases h
 ·cases h
theorem zff (hL : zag P L) (hm : P.follows .mixedOrders = true) (hE : zc2 P E) (hM : zcu P M) : ∀ k, zcK P (zhI P E M L fuel k)
 | 0 => fun lo f args H n x H1 n1 h => by simp [zhI] at h
 | k + 1 => fun lo f args H n x H1 n1 h ρ fz H' sa g => by
  have hcall := zff hL hm hE hM k; simp only [zhI] at h; split at h
  ·rename_i fn hf
   split at h
   ·rename_i c hb
    split at h
    ·rename_i hn
     have c0 : Cfg ρ n lo fz (zeA 0 args) H (zbW 0 (renL ρ args)) H' := ⟨fun t x hx => zha hx, fun t x hx => zdR sa hx, g⟩; refine TrF.of_bodyD (n := args.length + (fn.ntmps - args.length)) hf hb hn (by rw [zaL]) ?_; split at h
     ·rename_i e T2 H2 n2 hcode
      refine zpg hL hm hE hM hcall c c0 hcode fun ρ1 T1' H1' c1 l1 _ => ?_; simp only [Option.map_none]; split at h
      ·rename_i ho
       split at h
       ·rename_i v' hv
        split at h
        ·rename_i hs
         cases h; rcases zhH ho with rfl | rfl
         ·exact ⟨_, zhq hL c1 hv, _, rfl, ρ1, rfl, hs, c1.g, l1⟩
         ·exact ⟨_, zhq hL c1 hv, _, rfl, ρ1, rfl, hs, c1.g, l1⟩
        ·cases h
       ·cases h
      ·split at h
       ·rename_i u hu
        cases h; unfold zq4 at hu; split at hu
        ·cases hu
         exact ⟨_, rfl, rfl, ρ1, c1.g, l1⟩
        ·cases hu
       ·cases h
     ·rename_i g1 as e T2 H2 n2 hcode
      refine zpg hL hm hE hM hcall c c0 hcode fun ρ1 T1' H1' c1 l1 hsc => ?_; simp only [Option.map_some]; have hsc := hsc _ _ rfl; split at h
      ·rename_i u hu
       split at h
       ·rename_i u' H3 n3 hrec
        split at h
        ·rename_i hret
         have hset : settle u' = .returning := by
          cases hq : settle u' <;> simp [hq, zrc] at hret ⊢
         split at h
         ·rename_i v hv
          split at h
          ·rename_i hs
           cases h; have htd := zos (fz := fz) hL hm hE hM hcall hrec hsc c1.g; have fin : ∀ u2 H3', (u2 = u' ∧ ∃ ρ2, Good ρ2 n1 lo fz H1 H3' ∧ Ltr ρ1 n2 fz H1' ρ2 n1 H3') → settle u2 = .returning ∧ ∃ r, zac P fn ⟨args.length + (fn.ntmps - args.length), [], []⟩ T1' H3' r ∧ OutF ρ n lo fz H' (.ret v) H1 n1 (.ret r) H3' := by
            rintro u2 H3' ⟨rfl, ρ2, hg, hl⟩; refine ⟨hset, ren ρ2 v, zhq hL ⟨c1.r.later c1.s hl.agree, c1.s.mono hl.le, hg⟩ hv, _, rfl, ρ2, rfl, hs, hg, l1.trans hl⟩
           rcases zjq hu with ⟨rfl | rfl, rfl⟩ | ⟨ch, rfl, rfl⟩
           ·exact ⟨_, htd, fin⟩
           ·exact ⟨_, htd, fin⟩
           ·exact ⟨_, htd, fin⟩
          ·cases h
         ·cases h
        ·cases h
       ·cases h
      ·cases h
     ·cases h
    ·cases h
   ·cases h
  ·cases h
end
theorem PTr.runA {P : Program} {E : Exts} {M : zc7} {L : Lay} {fuel : Nat} (hL : zag P L) (hm : P.follows .mixedOrders = true) (hE : zc2 P E) (hM : zcu P M) (k : Nat) {f : FuncId} {args : List A} {v : A} (ha : zao 0 args = true) (hv : scope 0 v = true)
  (h : (match zhI P E M L fuel k (fun _ => true) f args .leaf 0 with | some (.ret v, _, _) => some v | _ => none) = some v) : PTr P f args v := by
 split at h
 ·rename_i v' H1 n1 he
  cases h; have g : Good id 0 (fun _ => true) (fun _ => False) .leaf [] := ⟨fun i b h => by simp [Tre.get] at h, fun i j b c h => by simp [Tre.get] at h, List.nodup_nil, fun i h => absurd h (Nat.not_lt_zero i), fun _ _ => rfl, fun k h => h.elim⟩
  have ht := zff hL hm hE hM k (fun _ => true) f args .leaf 0 _ H1 n1 he id (fun _ => False) [] ha g; rw [za1 id ha] at ht; refine (TrF.toTr (R := Out id 0 (fun _ => true) (fun _ => False) [] v H1 n1) ht).mono ?_; rintro r H' ⟨ρ1, rfl, _, _, _⟩; exact zcv ρ1 hv
 ·cases h
theorem Ext.fresh (H : Heap) (w : World) (o : Obj) : Ext H w H (w.alloc o) where
 os := rfl
 tape := rfl
 output := rfl
 size := by simp
 same k hk _ := zaS w o k hk
 keys k hk := .inl hk
 shape k hk c T f h := by rw [zaS w o k hk] at h; exact ⟨c, f, h, rfl⟩
theorem Sim.fresh {fr : Nat → Prop} {H : Heap} {w : World} (s : Sim fr H w) (o : Obj) : Sim fr H (w.alloc o) where
 nodup := s.nodup
 apart := s.apart
 old k h := by have := s.old k h; simp; omega
 ok p hp := by
  have h := s.ok p hp; exact h.mono (Ext.fresh H w o).stays (zaS w o _ h.lt)
section
variable {P : Program} {N : NN} {Q : Exit → Env → Heap → Prop} {T : Env} {H : Heap} {ops rest : List Oper} {L : Lay} {ty : TypeId} {pos : String} {after : Array Edge} {guard : Option (Nat × Bool)}
theorem AOp.boxD (d : Nat) {t : TypeId} {x : Operand} {v : A} {cells : List A} (hx : ev T x = some v) (hc : v.cells = cells) (hv : v.leaf = true ∨ ∃ l, v = .agg l) (hd : zae N (some d) = true)
  (k : AOps P N ops rest Q (put (some d) (.dp cells) T) H) :
  AOp P N ops ⟨some d, .box t x, ty, pos, after, guard⟩ rest Q T H := by
 subst hc; refine AOp.sem (R := fun v' H' => v' = .dp v.cells ∧ H' = H) (fun fr w act s st => ?_) hd ?_
 ·have hr := (zad st hx).cells hv
  have x' := Ext.fresh H w (.cells (act.eval x).cells t); refine ⟨w.alloc (.cells (act.eval x).cells t), _, .pointer (some ⟨w.heap.size, 0, none⟩), _, .inl ?_, ⟨rfl, rfl⟩, s.fresh _, ?_, x'⟩
  ·simp only [execOp, Instr.box, newVar, newRow, Sem.run_bind, run_newObj, Result.andThen_ok, Sem.run_pure]; rfl
  ·refine Rep.dp_of (hr.mono x'.stays) (fun j u hu => ?_) (fun h => ?_)
   ·rw [add_plain]
    simp only [World.cell?, heap_alloc_new]; simpa using hu
   ·rcases h with h | h
    ·exact (zaQ s).2 h
    ·exact (zaQ s).1 h
 ·rintro v' H' ⟨rfl, rfl⟩
  exact k
def Fz (r sz : Nat) (cells : List A) (x x' : A) : Prop := ∀ (fr : Nat → Prop) (Te : Nat) (Hr : Heap) (w : World) (v : Value), Sim fr ((r, .row Te sz [cells]) :: Hr) w → Rep w (own fr ((r, .row Te sz [cells]) :: Hr)) x v → Rep w (own fr Hr) x' v
theorem Fz.same (r sz : Nat) (cells : List A) (x : A) : Fz r sz cells x x := fun fr Te Hr w v s h => h.mono (Stays.less fun _ h => h.imp id (List.mem_cons_of_mem _))
theorem Fz.ptr (r sz : Nat) (cells : List A) : Fz r sz cells (.ptr r sz 0 0) (.dp cells) := fun fr Te Hr w v s h => by
 have hst : Stays w (own fr ((r, .row Te sz [cells]) :: Hr)) w (own fr Hr) := Stays.less fun _ h => h.imp id (List.mem_cons_of_mem _); cases h; obtain ⟨vs, h1, h2, _, _⟩ := s.elem (i := 0) (e := cells) List.mem_cons_self rfl; refine Rep.dp_of (h1.mono hst) ?_ fun h => ?_
 ·simpa using h2
 ·rcases h with h | h
  ·exact s.apart r List.mem_cons_self h
  ·exact (List.nodup_cons.1 (show (r :: keys Hr).Nodup from s.nodup)).1 h
inductive FzL (r sz : Nat) (cells : List A) : List A → List A → Prop
 | nil : FzL r sz cells [] []
 | cons {x y : A} {l m : List A} (h : Fz r sz cells x y) (t : FzL r sz cells l m) : FzL r sz cells (x :: l) (y :: m)
theorem FzL.rep {r sz : Nat} {cells : List A} {fr : Nat → Prop} {Te : Nat} {Hr : Heap} {w : World} (s : Sim fr ((r, .row Te sz [cells]) :: Hr) w) : ∀ {l m : List A} {vs : List Value}, FzL r sz cells l m → RepL w (own fr ((r, .row Te sz [cells]) :: Hr)) l vs → RepL w (own fr Hr) m vs
 | _, _, _, .nil, h => by cases h; exact .nil
 | _, _, _, .cons h t, k => by cases k with | cons k1 k2 => exact .cons (h _ _ _ _ _ s k1) (FzL.rep s t k2)
theorem Fz.fn {r sz : Nat} {cells : List A} {f : FuncId} {l m : List A} (h : FzL r sz cells l m) : Fz r sz cells (.fn f [] l) (.fn f [] m) := fun fr Te Hr w v s k => by
 obtain ⟨fs, cs, rfl, h1, h2⟩ := k.fn_inv; have := Rep.fn_of (f := f) (h1.mono (Stays.less fun _ h => h.imp id (List.mem_cons_of_mem _)) : RepL w (own fr Hr) [] fs.toList) (h.rep s h2); simpa using this
theorem AWp.freezeF {c : Code} (t : Nat) {r Te sz : Nat} {cells : List A} {Hr : Heap} {x x' : A} (hx : get T t = some x) (hp : H.Perm ((r, .row Te sz [cells]) :: Hr)) (hz : Fz r sz cells x x') (k : AWp P N c Q ((t, x') :: T) Hr) : AWp P N c Q T H := by
 refine AWp.perm hp ⟨fun fr w a s st => ?_⟩; have hst : Stays w (own fr ((r, .row Te sz [cells]) :: Hr)) w (own fr Hr) := Stays.less fun _ h => h.imp id (List.mem_cons_of_mem _); have st' : St N w (own fr Hr) ((t, x') :: T) a := ⟨st.size, st.defers, st.glob.mono hst, fun u y hy => by
  rw [zau] at hy; by_cases htu : t = u
  ·subst htu
   rw [if_pos rfl] at hy; cases hy; obtain ⟨v, h1, h2⟩ := st.at_ t x hx; exact ⟨v, h1, hz _ _ _ _ _ s h2⟩
  ·rw [if_neg htu] at hy
   obtain ⟨v, h1, h2⟩ := st.at_ u y hy; exact ⟨v, h1, h2.mono hst⟩⟩
 refine wp_mono (k.out fr w a s.drop st') ?_; rintro e a' w' ⟨T', H'', q, s', st', x'⟩; exact ⟨T', H'', q, s', st', x'.drop⟩
theorem AOps.freezeF (t : Nat) {r Te sz : Nat} {cells : List A} {Hr : Heap} {x x' : A} (hx : get T t = some x) (hp : H.Perm ((r, .row Te sz [cells]) :: Hr)) (hz : Fz r sz cells x x') (k : AOps P N ops rest Q ((t, x') :: T) Hr) : AOps P N ops rest Q T H := by
 refine AOps.perm hp ⟨fun fr w a s st => ?_⟩; have hst : Stays w (own fr ((r, .row Te sz [cells]) :: Hr)) w (own fr Hr) := Stays.less fun _ h => h.imp id (List.mem_cons_of_mem _); have st' : St N w (own fr Hr) ((t, x') :: T) a := ⟨st.size, st.defers, st.glob.mono hst, fun u y hy => by
  rw [zau] at hy; by_cases htu : t = u
  ·subst htu
   rw [if_pos rfl] at hy; cases hy; obtain ⟨v, h1, h2⟩ := st.at_ t x hx; exact ⟨v, h1, hz _ _ _ _ _ s h2⟩
  ·rw [if_neg htu] at hy
   obtain ⟨v, h1, h2⟩ := st.at_ u y hy; exact ⟨v, h1, h2.mono hst⟩⟩
 refine zaH ?_ _ _ _ (k.out fr w a s.drop st'); rintro e a' w' ⟨T', H'', q, s', st', x'⟩; exact ⟨T', H'', q, s', st', x'.drop⟩
inductive Del : Heap → Nat → Blk → Heap → Prop
 | here {r : Nat} {b : Blk} {H : Heap} : Del ((r, b) :: H) r b H
 | there {r : Nat} {b : Blk} {p : Nat × Blk} {H H' : Heap} (h : Del H r b H') : Del (p :: H) r b (p :: H')
def zkH (G : List (Nat × List A)) (P : Program) (v : A) (args : List A) (H : Heap) (R : A → Heap → Prop) : Prop := ∃ f first cap, v = .fn f first cap ∧ TrG G P f (first ++ args ++ cap) H R
theorem AOp.callH {dst : Option Nat} {callee : Operand} {l : List Operand} {ats : Array TypeId} {f : FuncId} {first cap as : List A} {R : A → Heap → Prop} (hf : ev T callee = some (.fn f first cap)) (ha : evs T l = some as) (hd : zae N dst = true)
  (ht : TrG N.g P f (first ++ as ++ cap) H R) (k : ∀ r H', R r H' → AOps P N ops rest Q (put dst r T) H') :
  AOp P N ops ⟨dst, .call { callee := .value callee, args := l.toArray, argTypes := ats }, ty, pos, after, guard⟩ rest Q T H :=
 AOp.callG (F := []) hf ha hd (by rw [List.append_nil]) ht fun r H' h => by rw [List.append_nil]; exact k r H' h
theorem AOp.callB {dst : Option Nat} {callee : Operand} {l : List Operand} {ats : Array TypeId} {f : FuncId} {first cap as : List A} {Hx Hc : Heap} {R : A → Heap → Prop} (hf : ev T callee = some (.fn f first cap)) (ha : evs T l = some as) (hd : zae N dst = true)
  (hH : H = Hx ++ Hc) (ht : TrG N.g P f (first ++ as ++ cap) Hc R) (k : ∀ r H', R r H' → AOps P N ops rest Q (put dst r T) (H' ++ Hx)) :
  AOp P N ops ⟨dst, .call { callee := .value callee, args := l.toArray, argTypes := ats }, ty, pos, after, guard⟩ rest Q T H :=
 AOp.callG (F := Hx) hf ha hd (by rw [hH]; exact List.perm_append_comm) ht k
theorem AOp.callK (Hx : Heap) {dst : Option Nat} {callee : Operand} {l : List Operand} {ats : Array TypeId} {f : FuncId} {first cap as : List A} {Hc : Heap} {R : A → Heap → Prop} (hf : ev T callee = some (.fn f first cap)) (ha : evs T l = some as) (hd : zae N dst = true)
  (hH : H = Hx ++ Hc) (ht : TrG N.g P f (first ++ as ++ cap) Hc R) (k : ∀ r H', R r H' → AOps P N ops rest Q (put dst r T) (Hx ++ H')) :
  AOp P N ops ⟨dst, .call { callee := .value callee, args := l.toArray, argTypes := ats }, ty, pos, after, guard⟩ rest Q T H :=
 AOp.callB hf ha hd hH ht fun r H' h => AOps.perm List.perm_append_comm (k r H' h)
end
end Go.Abs
namespace Go.Abs.Flex
open Go Go.Abs
def zbe (K : Oper → Nat) (x y : Oper) : Bool := match K x, K y with
 | 3, _ | _, 3 => true
 | 2, 0 | 0, 2 | 0, 0 | 0, 1 | 1, 0 | 1, 1 => true
 | _, _ => false
def chk (K : Oper → Nat) (ops : List Oper) : Bool :=
 let b := anc ops
 Region.noSelect ops.toArray &&
 ops.zipIdx.all fun (o, i) =>
  (o.after.toList.all fun e => match Region.binds .any e with | true => Nat.blt e.on i | false => true) &&
  (ops.take i).zipIdx.all fun (x, j) => (b.getD i 0).testBit j || (x.apart ops.toArray o && zbe K x o)
def Plan (P : Program) (N : NN) (L : Lay) (K : Oper → Nat) (bv : Nat → A) (ops : Array Oper) (Q : Env → Heap → Prop) : List Oper → Env → Heap → Prop
 | [], T, H => ∃ T0, (∀ t x, get T0 t = some x → get T t = some x) ∧ Q T0 H
 | o :: rest, T, H => zae N o.dst = true ∧
   ((zas ops (restr T (o.looksAt ops)) o = some true ∧ ∃ v, sOpX P L (restr T (o.looksAt ops)) o.op = some v ∧ Plan P N L K bv ops Q rest (put o.dst v T) H) ∨
    (zas ops (restr T (o.looksAt ops)) o = some false ∧ Plan P N L K bv ops Q rest (put o.dst (.tup []) T) H) ∨
    ((K o = 1 ∨ K o = 2) ∧ zas ops (restr T (o.looksAt ops)) o = some true ∧ ∃ v, AOp P N [] o [] (Qn o (restr T (o.looksAt ops)) fun r H' => r = v ∧ H' = H) (restr T (o.looksAt ops)) H ∧ Plan P N L K bv ops Q rest (put o.dst v T) H) ∨
    (K o = 2 ∧ zas ops (restr T (o.looksAt ops)) o = some true ∧ ∃ R, ((∃ v H', R v H') ∧ AOp P N [] o [] (Qn o (restr T (o.looksAt ops)) R) (restr T (o.looksAt ops)) H) ∧ ∀ v H', R v H' → Plan P N L K bv ops Q rest (put o.dst v T) H') ∨
    ((K o = 3 ∧ sOpX P L (restr T (o.looksAt ops)) o.op = none) ∧ zas ops (restr T (o.looksAt ops)) o = some true ∧ ∃ v, o.dst.map bv = some v ∧ (∀ H, AOp P N [] o [] (Qn o (restr T (o.looksAt ops)) fun r H' => r = v ∧ H' = H) (restr T (o.looksAt ops)) H) ∧ Plan P N L K bv ops Q rest (put o.dst v T) H))
section
variable {P : Program} {N : NN} {L : Lay} {K : Oper → Nat} {bv : Nat → A} {ops : Array Oper} {Q : Env → Heap → Prop}
theorem Plan.cong : ∀ {l : List Oper} {T T' : Env} {H : Heap}, (∀ t, get T t = get T' t) → Plan P N L K bv ops Q l T H → Plan P N L K bv ops Q l T' H
 | [], T, T', H, he, ⟨T0, h1, h2⟩ => ⟨T0, fun t x h => by rw [← he]; exact h1 t x h, h2⟩
 | o :: rest, T, T', H, he, ⟨hd, h⟩ => by
  have hr : restr T (o.looksAt ops) = restr T' (o.looksAt ops) := zbD _ fun t _ => he t; have hp : ∀ v t, get (put o.dst v T) t = get (put o.dst v T') t := by
   intro v t; cases o.dst with
   | none => exact he t
   | some d => simp only [put, zau, he t]
  refine ⟨hd, ?_⟩; rw [hr] at h; rcases h with ⟨h1, v, h2, h3⟩ | ⟨h1, h3⟩ | ⟨h0, h1, v, h2, h3⟩ | ⟨h0, h1, R, h2, h3⟩ | ⟨h0, h1, v, hb, h2, h3⟩
  ·exact .inl ⟨h1, v, h2, h3.cong (hp v)⟩
  ·exact .inr (.inl ⟨h1, h3.cong (hp _)⟩)
  ·exact .inr (.inr (.inl ⟨h0, h1, v, h2, h3.cong (hp v)⟩))
  ·exact .inr (.inr (.inr (.inl ⟨h0, h1, R, h2, fun v H' hR => (h3 v H' hR).cong (hp v)⟩)))
  ·exact .inr (.inr (.inr (.inr ⟨h0, h1, v, hb, h2, h3.cong (hp v)⟩)))
theorem zla {x o : Oper} (hc : zbe K x o = true) : (K x = 2 → K o = 0 ∨ K o = 3) ∧ (K o = 2 → K x = 0 ∨ K x = 3) := by
 unfold zbe at hc; refine ⟨fun h => ?_, fun h => ?_⟩
 ·rw [h] at hc
  match ho : K o with
  | 0 => exact .inl rfl
  | 1 => rw [ho] at hc; cases hc
  | 2 => rw [ho] at hc; cases hc
  | 3 => exact .inr rfl
  | n + 4 => rw [ho] at hc; cases hc
 ·rw [h] at hc
  match ho : K x with
  | 0 => exact .inl rfl
  | 1 => rw [ho] at hc; cases hc
  | 2 => rw [ho] at hc; cases hc
  | 3 => exact .inr rfl
  | n + 4 => rw [ho] at hc; cases hc
theorem Plan.swap {x o : Oper} {r : List Oper} {T : Env} {H : Heap} (ha : x.apart ops o = true) (hc : zbe K x o = true) (h : Plan P N L K bv ops Q (x :: o :: r) T H) : Plan P N L K bv ops Q (o :: x :: r) T H := by
 obtain ⟨h1, h2, h3⟩ := Oper.apart_spec ha; have r1 : ∀ v, restr (put x.dst v T) (o.looksAt ops) = restr T (o.looksAt ops) := fun v => zbK h1; have r2 : ∀ v, restr (put o.dst v T) (x.looksAt ops) = restr T (x.looksAt ops) := fun v => zbK h3; have sw : ∀ u v t, get (put o.dst v (put x.dst u T)) t = get (put x.dst u (put o.dst v T)) t := fun u v t => zfk h2 t; obtain ⟨hd, h⟩ := h; obtain ⟨hcx, hco⟩ := zla hc; rcases h with ⟨w1, u, e1, hd2, h⟩ | ⟨w1, hd2, h⟩ | ⟨c1, w1, u, e1, hd2, h⟩ | ⟨c1, w1, R, e1, h⟩ | ⟨c1, w1, u, hbu, e1, hd2, h⟩
 ·rw [r1 u] at h
  have q : ∀ {v : A} {H' : Heap}, Plan P N L K bv ops Q r (put o.dst v (put x.dst u T)) H' → Plan P N L K bv ops Q (x :: r) (put o.dst v T) H' := fun k => ⟨hd, .inl ⟨by rw [r2]; exact w1, u, by rw [r2]; exact e1, k.cong (sw u _)⟩⟩
  rcases h with ⟨w2, v, e2, k⟩ | ⟨w2, k⟩ | ⟨c2, w2, v, e2, k⟩ | ⟨c2, w2, R, e2, k⟩ | ⟨c2, w2, v, hbv, e2, k⟩
  ·exact ⟨hd2, .inl ⟨w2, v, e2, q k⟩⟩
  ·exact ⟨hd2, .inr (.inl ⟨w2, q k⟩)⟩
  ·exact ⟨hd2, .inr (.inr (.inl ⟨c2, w2, v, e2, q k⟩))⟩
  ·exact ⟨hd2, .inr (.inr (.inr (.inl ⟨c2, w2, R, e2, fun v H' hR => q (k v H' hR)⟩)))⟩
  ·exact ⟨hd2, .inr (.inr (.inr (.inr ⟨c2, w2, v, hbv, e2, q k⟩)))⟩
 ·rw [r1] at h
  have q : ∀ {v : A} {H' : Heap}, Plan P N L K bv ops Q r (put o.dst v (put x.dst (.tup []) T)) H' → Plan P N L K bv ops Q (x :: r) (put o.dst v T) H' := fun k => ⟨hd, .inr (.inl ⟨by rw [r2]; exact w1, k.cong (sw _ _)⟩)⟩
  rcases h with ⟨w2, v, e2, k⟩ | ⟨w2, k⟩ | ⟨c2, w2, v, e2, k⟩ | ⟨c2, w2, R, e2, k⟩ | ⟨c2, w2, v, hbv, e2, k⟩
  ·exact ⟨hd2, .inl ⟨w2, v, e2, q k⟩⟩
  ·exact ⟨hd2, .inr (.inl ⟨w2, q k⟩)⟩
  ·exact ⟨hd2, .inr (.inr (.inl ⟨c2, w2, v, e2, q k⟩))⟩
  ·exact ⟨hd2, .inr (.inr (.inr (.inl ⟨c2, w2, R, e2, fun v H' hR => q (k v H' hR)⟩)))⟩
  ·exact ⟨hd2, .inr (.inr (.inr (.inr ⟨c2, w2, v, hbv, e2, q k⟩)))⟩
 ·rw [r1 u] at h
  have q : ∀ {v : A}, Plan P N L K bv ops Q r (put o.dst v (put x.dst u T)) H → Plan P N L K bv ops Q (x :: r) (put o.dst v T) H := fun k => ⟨hd, .inr (.inr (.inl ⟨c1, by rw [r2]; exact w1, u, by rw [r2]; exact e1, k.cong (sw u _)⟩))⟩
  rcases h with ⟨w2, v, e2, k⟩ | ⟨w2, k⟩ | ⟨c2, w2, v, e2, k⟩ | ⟨c2, w2, R, e2, k⟩ | ⟨c2, w2, v, hbv, e2, k⟩
  ·exact ⟨hd2, .inl ⟨w2, v, e2, q k⟩⟩
  ·exact ⟨hd2, .inr (.inl ⟨w2, q k⟩)⟩
  ·exact ⟨hd2, .inr (.inr (.inl ⟨c2, w2, v, e2, q k⟩))⟩
  ·have := hco c2; omega
  ·exact ⟨hd2, .inr (.inr (.inr (.inr ⟨c2, w2, v, hbv, e2, q k⟩)))⟩
 ·have ho := hcx c1
  have putx : ∀ {v : A}, (∀ v1 H1, R v1 H1 → Plan P N L K bv ops Q r (put o.dst v (put x.dst v1 T)) H1) → Plan P N L K bv ops Q (x :: r) (put o.dst v T) H := fun k =>
   ⟨hd, .inr (.inr (.inr (.inl ⟨c1, by rw [r2]; exact w1, R, ⟨e1.1, by rw [r2]; exact e1.2⟩, fun v H' hR => (k v H' hR).cong (sw v _)⟩)))⟩
  obtain ⟨v0, H0, hR0⟩ := e1.1; have hdo := (h v0 H0 hR0).1; have key : ∀ v H', R v H' → (zas ops (restr T (o.looksAt ops)) o = some true ∧ ∃ u, sOpX P L (restr T (o.looksAt ops)) o.op = some u ∧ Plan P N L K bv ops Q r (put o.dst u (put x.dst v T)) H') ∨
    (zas ops (restr T (o.looksAt ops)) o = some false ∧ Plan P N L K bv ops Q r (put o.dst (.tup []) (put x.dst v T)) H') ∨
    ((K o = 3 ∧ sOpX P L (restr T (o.looksAt ops)) o.op = none) ∧ zas ops (restr T (o.looksAt ops)) o = some true ∧ ∃ u, o.dst.map bv = some u ∧ (∀ H, AOp P N [] o [] (Qn o (restr T (o.looksAt ops)) fun r H' => r = u ∧ H' = H) (restr T (o.looksAt ops)) H) ∧ Plan P N L K bv ops Q r (put o.dst u (put x.dst v T)) H') := by
   intro v H' hR; obtain ⟨_, k⟩ := h v H' hR; rw [r1 v] at k; rcases k with k | k | ⟨c2, _⟩ | ⟨c2, _⟩ | k
   ·exact .inl k
   ·exact .inr (.inl k)
   ·omega
   ·omega
   ·exact .inr (.inr k)
  by_cases hw : zas ops (restr T (o.looksAt ops)) o = some false
  ·refine ⟨hdo, .inr (.inl ⟨hw, putx fun v H' hR => ?_⟩)⟩
   rcases key v H' hR with ⟨w2, _⟩ | ⟨_, k⟩ | ⟨_, w2, _⟩
   ·rw [hw] at w2; cases w2
   ·exact k
   ·rw [hw] at w2; cases w2
  by_cases hs : ∃ u, sOpX P L (restr T (o.looksAt ops)) o.op = some u
  ·obtain ⟨u, hu⟩ := hs
   refine ⟨hdo, .inl ⟨?_, u, hu, putx fun v H' hR => ?_⟩⟩
   ·rcases key v0 H0 hR0 with ⟨w2, _⟩ | ⟨w2, _⟩ | ⟨_, w2, _⟩
    ·exact w2
    ·exact absurd w2 hw
    ·exact w2
   ·rcases key v H' hR with ⟨w2, u', e2', k⟩ | ⟨w2, _⟩ | ⟨⟨_, c3⟩, _⟩
    ·rw [hu] at e2'; cases e2'; exact k
    ·exact absurd w2 hw
    ·rw [hu] at c3; cases c3
  ·refine ⟨hdo, .inr (.inr (.inr (.inr ?_)))⟩
   rcases key v0 H0 hR0 with ⟨w2, u, e2, _⟩ | ⟨w2, _⟩ | ⟨c3, w2, u, hb, e3, _⟩
   ·exact absurd ⟨u, e2⟩ hs
   ·exact absurd w2 hw
   ·refine ⟨c3, w2, u, hb, e3, putx fun v H' hR => ?_⟩
    rcases key v H' hR with ⟨_, u', e2', _⟩ | ⟨w2', _⟩ | ⟨_, _, u', hb', _, k⟩
    ·exact absurd ⟨u', e2'⟩ hs
    ·exact absurd w2' hw
    ·rw [hb] at hb'; cases hb'; exact k
 ·rw [r1 u] at h
  have q : ∀ {v : A} {H' : Heap}, Plan P N L K bv ops Q r (put o.dst v (put x.dst u T)) H' → Plan P N L K bv ops Q (x :: r) (put o.dst v T) H' := fun k => ⟨hd, .inr (.inr (.inr (.inr ⟨⟨c1.1, by rw [r2]; exact c1.2⟩, by rw [r2]; exact w1, u, hbu, by rw [r2]; exact e1, k.cong (sw u _)⟩)))⟩
  rcases h with ⟨w2, v, e2, k⟩ | ⟨w2, k⟩ | ⟨c2, w2, v, e2, k⟩ | ⟨c2, w2, R, e2, k⟩ | ⟨c2, w2, v, hbv, e2, k⟩
  ·exact ⟨hd2, .inl ⟨w2, v, e2, q k⟩⟩
  ·exact ⟨hd2, .inr (.inl ⟨w2, q k⟩)⟩
  ·exact ⟨hd2, .inr (.inr (.inl ⟨c2, w2, v, e2, q k⟩))⟩
  ·exact ⟨hd2, .inr (.inr (.inr (.inl ⟨c2, w2, R, e2, fun v H' hR => q (k v H' hR)⟩)))⟩
  ·exact ⟨hd2, .inr (.inr (.inr (.inr ⟨c2, w2, v, hbv, e2, q k⟩)))⟩
theorem Plan.first {o : Oper} : ∀ {l1 l2 : List Oper} {T : Env} {H : Heap}, (∀ x ∈ l1, x.apart ops o = true ∧ zbe K x o = true) → Plan P N L K bv ops Q (l1 ++ o :: l2) T H → Plan P N L K bv ops Q (o :: (l1 ++ l2)) T H
 | [], l2, T, H, _, h => h
 | x :: l1, l2, T, H, hc, h => by
  refine Plan.swap (hc x List.mem_cons_self).1 (hc x List.mem_cons_self).2 ?_; have hc' : ∀ y ∈ l1, y.apart ops o = true ∧ zbe K y o = true := fun y hy => hc y (List.mem_cons_of_mem _ hy); obtain ⟨hd, h⟩ := h; refine ⟨hd, ?_⟩; rcases h with ⟨h1, v, h2, h3⟩ | ⟨h1, h3⟩ | ⟨h0, h1, v, h2, h3⟩ | ⟨h0, h1, R, h2, h3⟩ | ⟨h0, h1, v, hb, h2, h3⟩
  ·exact .inl ⟨h1, v, h2, Plan.first hc' h3⟩
  ·exact .inr (.inl ⟨h1, Plan.first hc' h3⟩)
  ·exact .inr (.inr (.inl ⟨h0, h1, v, h2, Plan.first hc' h3⟩))
  ·exact .inr (.inr (.inr (.inl ⟨h0, h1, R, h2, fun v H' hR => Plan.first hc' (h3 v H' hR)⟩)))
  ·exact .inr (.inr (.inr (.inr ⟨h0, h1, v, hb, h2, Plan.first hc' h3⟩)))
end
theorem zcf {K : Oper → Nat} {ops : List Oper} (h : chk K ops = true) : ∀ (i : Nat) (o : Oper), ops[i]? = some o → (∀ e ∈ o.after.toList, Region.binds .any e = true → e.on < i) ∧
  ∀ (j : Nat) (x : Oper), j < i → ops[j]? = some x → ((anc ops).getD i 0).testBit j = true ∨ (x.apart ops.toArray o = true ∧ zbe K x o = true) := by
 simp only [chk, Bool.and_eq_true, List.all_eq_true] at h; intro i o ho; have h1 := h.2 (o, i) (List.mem_zipIdx_iff_getElem?.2 ho); refine ⟨fun e he hb => ?_, fun j x hj hx => ?_⟩
 ·have := h1.1 e he
  rw [hb] at this; simpa [Nat.blt_eq] using this
 ·have h2 := h1.2 (x, j) (List.mem_zipIdx_iff_getElem?.2 (by simp only; rw [List.getElem?_take, if_pos hj]; exact hx))
  rw [Bool.or_eq_true, Bool.and_eq_true] at h2; exact h2
theorem Plan.any {P : Program} {N : NN} {L : Lay} {K : Oper → Nat} {bv : Nat → A} {ops : List Oper} {Q0 : Exit → Env → Heap → Prop} (hL : zag P L) (hc : chk K ops = true) : ∀ (fuel : Nat) (listed : Array Bool) (T : Env) (H : Heap), listed.size = ops.length →
  (∀ k o, ops[k]? = some o → listed.getD k false = true → ∀ e ∈ o.after.toList, Region.binds .any e = true → listed.getD e.on false = true) → (unl listed 0 ops).length ≤ fuel → Plan P N L K bv ops.toArray (Q0 .normal) (unl listed 0 ops) T H →
  ∀ (fr : Nat → Prop) (w : World) (a : Act), Sim fr H w → St N w (own fr H) T a → wpAny P .any ops.toArray (Post N fr H w Q0) fuel listed a w := by
 intro fuel
 -- nothing is ready only if all is listed
 have done : ∀ (listed : Array Bool) (T : Env) (H : Heap), listed.size = ops.length → Region.ready .any ops.toArray listed = [] → Plan P N L K bv ops.toArray (Q0 .normal) (unl listed 0 ops) T H →
   ∀ (fr : Nat → Prop) (w : World) (a : Act), Sim fr H w → St N w (own fr H) T a → Post N fr H w Q0 .normal a w := by
  intro listed T H hs hr hp fr w a s st; have hnil : unl listed 0 ops = [] := by
   apply Classical.byContradiction
   intro hne; obtain ⟨i, o, h1, h2, h3⟩ := zd3 hne; rw [Nat.zero_add] at h2; have : i ∈ Region.ready .any ops.toArray listed := mem_ready.2 ⟨h2, o, by simpa using h1, fun e he hb => by
    have hlt := (zcf hc i o h1).1 e (by simpa using he) hb; have := h3 e.on hlt; rw [Nat.zero_add] at this; have hi := (List.getElem?_eq_some_iff.1 h1).1; rw [← zbL (by omega)]; exact this⟩
   rw [hr] at this; cases this
  rw [hnil] at hp; obtain ⟨T0, h1, h2⟩ := hp; exact ⟨T0, H, h2, s, st.sub h1, Ext.refl H w⟩
 induction fuel with
 | zero =>
  intro listed T H hs hcl hf hp fr w a s st; have hnil : unl listed 0 ops = [] := List.eq_nil_of_length_eq_zero (by omega); have hr : Region.ready .any ops.toArray listed = [] := by
   apply Classical.byContradiction
   intro hne; obtain ⟨i, hi⟩ := List.exists_mem_of_ne_nil _ hne; obtain ⟨h0, o, ho, _⟩ := mem_ready.1 hi; have ho' : ops[i]? = some o := by simpa using ho
   have hlt := (List.getElem?_eq_some_iff.1 ho').1; obtain ⟨l1, l2, h1, _⟩ := zb5 (k := 0) ho' (by rw [Nat.zero_add]; exact h0) (by omega); rw [hnil] at h1; simp at h1
  exact ⟨hr, done listed T H hs hr hp fr w a s st⟩
 | succ fuel ih =>
  intro listed T H hs hcl hf hp fr w a s st; refine ⟨fun hr => done listed T H hs hr hp fr w a s st, fun i hi => ?_⟩; obtain ⟨h0, o, ho, hedge⟩ := mem_ready.1 hi; have ho' : ops[i]? = some o := by simpa using ho
  have hlt := (List.getElem?_eq_some_iff.1 ho').1; obtain ⟨l1, l2, h1, h2, h3⟩ := zb5 (k := 0) ho' (by rw [Nat.zero_add]; exact h0) (by omega); rw [Nat.zero_add] at h2; rw [h1] at hp hf; have hp := Plan.first (fun x hx => by
   obtain ⟨j, hj, hxj, hjl⟩ := h3 x hx; rw [Nat.zero_add] at hjl; rcases (zcf hc i o ho').2 j x hj hxj with hb | hb
   ·have := (zfh ops).2 i j hb listed hcl (fun o2 ho2 e he hb => by
     rw [ho'] at ho2; cases ho2; exact hedge e (by simpa using he) hb)
    rw [← zbL (by omega), hjl] at this; cases this
   ·exact hb) hp
  rw [← h2] at hp; have hs' : (listed.setIfInBounds i true).size = ops.length := by simpa using hs
  have hcl' : ∀ k o, ops[k]? = some o → (listed.setIfInBounds i true).getD k false = true → ∀ e ∈ o.after.toList, Region.binds .any e = true → (listed.setIfInBounds i true).getD e.on false = true := by
   intro k o2 ho2 hk e he hb; refine getD_set_true ?_; by_cases hki : k = i
   ·subst hki
    rw [ho'] at ho2; cases ho2; exact hedge e (by simpa using he) hb
   ·rw [getD_set_ne false (Ne.symm hki)] at hk
    exact hcl k o2 ho2 hk e he hb
  have hf' : (unl (listed.setIfInBounds i true) 0 ops).length ≤ fuel := by
   rw [h2]; simp only [List.length_append, List.length_cons] at hf ⊢; omega
  have hlook : ∀ c, zas ops.toArray (restr T (o.looksAt ops.toArray)) o = some c → Region.wanted o (yielded ops.toArray a.tmps) = c := fun c h => zfl (st.sub (zbT T _)) h; obtain ⟨hd, hp⟩ := hp; unfold wpOp; rw [ho]; simp only; have next : ∀ v H' w' v', Sim fr H' w' → St N w' (own fr H') (put o.dst v T) (a.put o.dst v') → Ext H w H' w' → Plan P N L K bv ops.toArray (Q0 .normal) (unl (listed.setIfInBounds i true) 0 ops) (put o.dst v T) H' →
    wpAny P .any ops.toArray (Post N fr H w Q0) fuel (listed.setIfInBounds i true) (a.put o.dst v') w' := fun v H' w' v' s' st' x hp' =>
   za0 (fun _ _ _ => Post.of_ext x) _ _ _ _ (ih _ _ _ hs' hcl' hf' hp' fr w' _ s' st')
  rcases hp with ⟨w1, v, e1, hp⟩ | ⟨w1, hp⟩ | ⟨_, w1, v, e1, hp⟩ | ⟨_, w1, R, ⟨_, e1⟩, hp⟩ | ⟨_, w1, v, _, e1, hp⟩
  ·rw [hlook _ w1, if_pos rfl]
   refine .inl (AOp.node (R := fun r H' => r = v ∧ H' = H) (AOp.simpleX hL e1 hd (AOps.nil ⟨v, ⟨rfl, rfl⟩, rfl⟩)) hd s st ?_)
   rintro u H' w' v' ⟨rfl, rfl⟩ s' st' x; exact next _ _ w' v' s' st' x hp
  ·rw [hlook _ w1, if_neg (by simp)]
   exact next _ _ w undef s (st.put hd (Rep.tup_of .nil)) (Ext.refl H w) hp
  ·rw [hlook _ w1, if_pos rfl]
   refine .inl (AOp.node e1 hd s st ?_)
   rintro u H' w' v' ⟨rfl, rfl⟩ s' st' x; exact next _ _ w' v' s' st' x hp
  ·rw [hlook _ w1, if_pos rfl]
   refine .inl (AOp.node e1 hd s st ?_)
   intro u H' w' v' hR s' st' x; exact next _ _ w' v' s' st' x (hp u H' hR)
  ·rw [hlook _ w1, if_pos rfl]
   refine .inl (AOp.node (e1 H) hd s st ?_)
   rintro u H' w' v' ⟨rfl, rfl⟩ s' st' x; exact next _ _ w' v' s' st' x hp
theorem AWp.draw (K : Oper → Nat) (bv : Nat → A) {P : Program} {N : NN} {L : Lay} {ops : List Oper} {Q : Exit → Env → Heap → Prop} {T : Env} {H : Heap} {id : Nat} (hL : zag P L) (hm : P.follows .mixedOrders = true) (hc : chk K ops = true) (h : Plan P N L K bv ops.toArray (Q .normal) ops T H) :
  AWp P N (.region id ops.toArray true) Q T H := by
 refine ⟨fun fr w a s st => wp_region_any hm ?_⟩; have hun : ∀ (l : List Oper) (k n : Nat), k + l.length ≤ n → unl (Array.replicate n false) k l = l := by
  intro l
  induction l with
  | nil => intros; rfl
  | cons o l ih =>
   intro k n hk; simp only [List.length_cons] at hk; simp only [unl]; rw [if_neg (by simp [Array.getD, show k < n by omega]), ih (k + 1) n (by omega)]
 have h0 := Plan.any (Q0 := Q) hL hc ops.toArray.size (Array.replicate ops.toArray.size false) T H (by simp) (fun k o _ hk => by simp [Array.getD] at hk) (by rw [hun _ _ _ (by simp)]; simp) (by rw [hun _ _ _ (by simp)]; exact h)
  fr w.drew a s.drew (st.mono (Ext.drew H w).stays)
 exact za0 (fun _ _ _ => Post.of_ext (Ext.drew H w)) _ _ _ _ h0
section
variable {P : Program} {N : NN} {L : Lay} {K : Oper → Nat} {bv : Nat → A} {ops : Array Oper} {Q : Env → Heap → Prop} {o : Oper} {rest : List Oper} {T : Env} {H : Heap}
theorem Plan.nil (h : Q T H) : Plan P N L K bv ops Q [] T H := ⟨T, fun _ _ h => h, h⟩
theorem Plan.pure {v : A} (hd : zae N o.dst = true) (hw : zas ops (restr T (o.looksAt ops)) o = some true) (hv : sOp L (restr T (o.looksAt ops)) o.op = some v) (k : Plan P N L K bv ops Q rest (put o.dst v T) H) : Plan P N L K bv ops Q (o :: rest) T H := ⟨hd, .inl ⟨hw, v, zgV hv, k⟩⟩
theorem Plan.quiet {v : A} (hd : zae N o.dst = true) (hw : zas ops (restr T (o.looksAt ops)) o = some true) (hcl : K o = 1 ∨ K o = 2) (h : AOp P N [] o [] (Qn o (restr T (o.looksAt ops)) fun r H' => r = v ∧ H' = H) (restr T (o.looksAt ops)) H)
  (k : Plan P N L K bv ops Q rest (put o.dst v T) H) : Plan P N L K bv ops Q (o :: rest) T H := ⟨hd, .inr (.inr (.inl ⟨hcl, hw, v, h, k⟩))⟩
theorem Plan.eff {R : A → Heap → Prop} (hd : zae N o.dst = true) (hw : zas ops (restr T (o.looksAt ops)) o = some true) (hcl : K o = 2) (hne : ∃ v H', R v H') (h : AOp P N [] o [] (Qn o (restr T (o.looksAt ops)) R) (restr T (o.looksAt ops)) H)
  (k : ∀ v H', R v H' → Plan P N L K bv ops Q rest (put o.dst v T) H') : Plan P N L K bv ops Q (o :: rest) T H := ⟨hd, .inr (.inr (.inr (.inl ⟨hcl, hw, R, ⟨hne, h⟩, k⟩)))⟩
theorem Plan.eff1 {v : A} {H1 : Heap} (hd : zae N o.dst = true) (hw : zas ops (restr T (o.looksAt ops)) o = some true) (hcl : K o = 2) (h : AOp P N [] o [] (Qn o (restr T (o.looksAt ops)) fun r H' => r = v ∧ H' = H1) (restr T (o.looksAt ops)) H)
  (k : Plan P N L K bv ops Q rest (put o.dst v T) H1) : Plan P N L K bv ops Q (o :: rest) T H := Plan.eff hd hw hcl ⟨v, H1, rfl, rfl⟩ h fun _ _ ⟨h1, h2⟩ => by subst h1 h2; exact k
theorem Plan.made {v : A} (hd : zae N o.dst = true) (hw : zas ops (restr T (o.looksAt ops)) o = some true) (hcl : K o = 3) (hn : sOpX P L (restr T (o.looksAt ops)) o.op = none) (hb : o.dst.map bv = some v) (h : ∀ H, AOp P N [] o [] (Qn o (restr T (o.looksAt ops)) fun r H' => r = v ∧ H' = H) (restr T (o.looksAt ops)) H)
  (k : Plan P N L K bv ops Q rest (put o.dst v T) H) : Plan P N L K bv ops Q (o :: rest) T H := ⟨hd, .inr (.inr (.inr (.inr ⟨⟨hcl, hn⟩, hw, v, hb, h, k⟩)))⟩
theorem Qn_n {R : A → Heap → Prop} {v : A} (h : R v H) : Qn o T R .normal (put o.dst v T) H := ⟨v, h, rfl⟩
end
end Go.Abs.Flex
namespace Go.Abs
open Go
section
variable {P : Program} {N : NN} {T : Env} {H : Heap} {L : Lay} {ty : TypeId} {pos : String} {after : Array Edge} {guard : Option (Nat × Bool)}
theorem zel (d : Nat) (x y : A) (T : Env) : ∀ t z, get (put (some d) x T) t = some z → get ((d, x) :: put (some d) y T) t = some z := by
 intro t z h; simp only [put, zau] at h ⊢; by_cases e : d = t
 ·rw [if_pos e] at h ⊢; exact h
 ·rw [if_neg e] at h ⊢; rw [if_neg e]; exact h
theorem AOp.buildD (d : Nat) {t : TypeId} {n e : Nat} {parts : List (Nat × Operand)} {ps : List (Nat × A)} {ti ei : TI} {out : List A} {elems : List (List A)} (hL : zag P L) (hp : evParts T parts = some ps) (ht : lay L t = some ti) (he : ti.td = .slice e)
  (hei : lay L e = some ei) (ho : zdK ei.size (rep n ei.zero) ps = some out) (hel : zcl ei.size n out = elems) (hsm : Nat.ble (n * ei.size) 16777216 = true) (hpos : Nat.ble 1 ei.size = true) (hz : Nat.beq ei.zero.length ei.size = true) (hl : zah out = true) (hd : zae N (some d) = true) (hn : elems.length = n) :
  AOp P N [] ⟨some d, .buildSlice t n parts.toArray, ty, pos, after, guard⟩ [] (Qn ⟨some d, .buildSlice t n parts.toArray, ty, pos, after, guard⟩ T fun r H' => r = .ds elems ∧ H' = H) T H := by
 refine AOp.buildSlice hL hp ht he hei ho hel hsm hpos hz hl hd fun r hr => ?_; refine AOps.perm (H' := H ++ [(r, .row e ei.size elems)]) (List.perm_append_comm (l₁ := [_])) ?_; refine AOps.freezeG (t := d) (g := some r) (elems := elems) (pre := H) (sz := ei.size) (e := e) (by rw [hn]; simp only [put, zau, outV, if_true]) (fun h => by cases h) rfl ?_
 exact AOps.sub (zel d _ _ T) (AOps.nil ⟨_, ⟨rfl, rfl⟩, rfl⟩)
theorem AOp.appendD (d : Nat) {H0 : Heap} {t e : TypeId} {x y : Operand} {g : Option Nat} {elems news : List (List A)} {yv : A} {ti ei : TI} (hL : zag P L) (hx : ev T x = some (outV ei.size g elems.length)) (hg : g = none → elems = []) (hH : H.Perm (H0 ++ outH e ei.size g elems)) (hy : ev T y = some yv) (hy' : RowOf (H0 ++ outH e ei.size g elems) yv news)
  (ht : lay L t = some ti) (he : ti.td = .slice e) (hei : lay L e = some ei) (hpos : Nat.ble 1 ei.size = true) (hnl : ∀ c ∈ news, c.length = ei.size) (hnf : ∀ c ∈ news, zah c = true)
  (hb1 : elems.length + news.length ≤ maxLen) (hb2 : (elems.length + news.length) * ei.bytes ≤ 140737488355328) (hd : zae N (some d) = true) :
  AOp P N [] ⟨some d, .call { callee := .builtin .append, args := [x, y].toArray, argTypes := [t, t].toArray }, ty, pos, after, guard⟩ []
   (Qn ⟨some d, .call { callee := .builtin .append, args := [x, y].toArray, argTypes := [t, t].toArray }, ty, pos, after, guard⟩ T fun r H' => r = .ds (elems ++ news) ∧ H' = H0) T H := by
 refine AOp.perm hH ?_; refine AOp.appendG (pre := H0) hL hx hg rfl hy hy' ht he hei hpos hnl hnf hb1 hb2 hd fun g' hg' => ?_; refine AOps.freezeG (t := d) (g := g') (elems := elems ++ news) (pre := H0) (sz := ei.size) (e := e) (by simp only [put, zau, if_true]) hg' rfl ?_; exact AOps.sub (zel d _ _ T) (AOps.nil ⟨_, ⟨rfl, rfl⟩, rfl⟩)
variable {Q : Exit → Env → Heap → Prop} {ops rest : List Oper}
theorem AOp.callMid (Hx Hy : Heap) {dst : Option Nat} {callee : Operand} {l : List Operand} {ats : Array TypeId} {f : FuncId} {first cap as : List A} {Hc : Heap} {R : A → Heap → Prop} (hf : ev T callee = some (.fn f first cap)) (ha : evs T l = some as) (hd : zae N dst = true)
  (hH : H = Hx ++ (Hc ++ Hy)) (ht : TrG N.g P f (first ++ as ++ cap) Hc R) (k : ∀ r H', R r H' → AOps P N ops rest Q (put dst r T) (Hx ++ (H' ++ Hy))) :
  AOp P N ops ⟨dst, .call { callee := .value callee, args := l.toArray, argTypes := ats }, ty, pos, after, guard⟩ rest Q T H :=
 AOp.callG (F := Hy ++ Hx) hf ha hd (by rw [hH, ← List.append_assoc (as := Hc)]; exact List.perm_append_comm) ht fun r H' h => AOps.perm (by rw [← List.append_assoc (as := H')]; exact List.perm_append_comm) (k r H' h)
end
theorem Tr.runS {P : Program} {E : Exts} {M : zc7} {L : Lay} {fuel : Nat} (hL : zag P L) (hm : P.follows .mixedOrders = true) (hE : zc2 P E) (hM : zcu P M) (k : Nat) {f : FuncId} {args : List A} {e sz len : Nat} {elems : List (List A)} (ha : zao 0 args = true) (hv : zcG 0 elems = true)
  (h : (match zhI P E M L fuel k (fun _ => true) f args .leaf 0 with | some (.ret (.os b s o l), H1, _) => (H1.get b).map fun blk => (s, o, l, blk) | _ => none) = some (sz, 0, len, .row e sz elems)) : Tr P f args [] fun r H' => ∃ g G, r = .os g sz 0 len ∧ H'.Perm ((g, .row e sz elems) :: G) := by
 split at h
 ·rename_i b s o l H1 n1 he
  cases hb : H1.get b with
  | none => rw [hb] at h; cases h
  | some blk =>
  rw [hb] at h; cases h; have g : Good id 0 (fun _ => true) (fun _ => False) .leaf [] := ⟨fun i b h => by simp [Tre.get] at h, fun i j b c h => by simp [Tre.get] at h, List.nodup_nil, fun i h => absurd h (Nat.not_lt_zero i), fun _ _ => rfl, fun k h => h.elim⟩
  have ht := zff hL hm hE hM k (fun _ => true) f args .leaf 0 _ H1 n1 he id (fun _ => False) [] ha g; rw [za1 id ha] at ht; refine (TrF.toTr (R := Out id 0 (fun _ => true) (fun _ => False) [] (.os b sz 0 len) H1 n1) ht).mono ?_; rintro r H' ⟨ρ1, rfl, _, g1, _⟩; have hm := (g1.mem b _ hb).2.2; obtain ⟨G, hG⟩ := zbZ hm; refine ⟨ρ1 b, G, rfl, ?_⟩; have : renB ρ1 (.row e sz elems) = .row e sz elems := by
   show Blk.row e sz (zap ρ1 elems) = _
   rw [zcN (ρ' := id) (fun i hi => absurd hi (Nat.not_lt_zero i)) elems hv, zhj]
  rw [this] at hG; exact hG
 ·cases h
section
variable {P : Program} {N : NN} {Q : Exit → Env → Heap → Prop} {T : Env} {H : Heap} {ops rest : List Oper} {L : Lay} {dst : Option Nat} {ty : TypeId} {pos : String} {after : Array Edge} {guard : Option (Nat × Bool)}
theorem AOp.unsafeStrF {x y : Operand} {pt it e r : Nat} {s : List UInt8} {Hr : Heap} {ei : TI} (b : Blk) (hb : b = .row e 1 (s.map zaW) ∨ b = .froz e s) (hL : zag P L) (hp : P.underlying pt = some (.pointer e)) (hei : lay L e = some ei) (he1 : Nat.beq ei.size 1 = true)
  (hx : ev T x = some (.ptr r 1 0 0)) (hy : ev T y = some (.int .i64 s.length)) (hH : H.Perm ((r, b) :: Hr)) (hn0 : s ≠ []) (hmax : s.length ≤ maxLen) (hd : zae N dst = true)
  (kk : AOps P N ops rest Q (put dst (.str s) T) ((r, .froz e s) :: Hr)) :
  AOp P N ops ⟨dst, .call { callee := .builtin .unsafeString, args := [x, y].toArray, argTypes := [pt, it].toArray }, ty, pos, after, guard⟩ rest Q T H := by
 refine AOp.sem (R := fun v' H' => v' = .str s ∧ H' = (r, .froz e s) :: Hr) (fun fr w act sm st => ?_) hd (fun v H' h => by obtain ⟨rfl, rfl⟩ := h; exact kk)
 have hu := zad st hx
 generalize h1 : act.eval x = v at hu
 cases hu; have hv := zad st hy
 generalize h2 : act.eval y = v2 at hv
 cases hv; have sm := sm.perm hH; have hl0 : s.length ≠ 0 := fun h => hn0 (List.length_eq_zero_iff.1 h); have key : ∃ (c : Array Value) (f : Nat × Nat), w.heap[r]? = some (.cells c e f) ∧ (f = (0, 0) ∨ f = (0, s.length)) ∧ s.length ≤ c.size ∧ ∀ (j : Nat) (x : UInt8), s[j]? = some x → c[j]? = some (.int .u8 x.toNat) := by
  have hk := sm.ok _ List.mem_cons_self; rcases hb with rfl | rfl
  ·obtain ⟨c, g1, g2, g3, g4⟩ := hk
   refine ⟨c, (0, 0), g1, .inl rfl, by simpa using g2, fun j x hj => ?_⟩
   obtain ⟨hi, he⟩ := List.getElem?_eq_some_iff.1 hj; obtain ⟨v, k1, k2, _⟩ := g4 j (by simpa using hi) 0 (by simp [zaW]); simp only [List.getElem_map, he, zaW, List.getElem_cons_zero] at k2; cases k2; simpa using k1
  ·obtain ⟨c, f, g1, gf, g2, g3⟩ := hk
   exact ⟨c, f, g1, gf, g2, g3⟩
 obtain ⟨c, f, g1, gf, g2, g4⟩ := key; have hnd := List.nodup_cons.1 (show (r :: keys Hr).Nodup from sm.nodup)
 have hcell : ∀ j x, s[j]? = some x → w.cell? ((⟨r, 0, none⟩ : Addr).add j) = some (.int .u8 x.toNat) := fun j x hj => by
  rw [add_plain]; simp only [World.cell?, g1]; simpa using g4 j x hj
 have hrun := Lib.run_unsafeString_row (P := P) w pt it ty e hp (by rw [zaG (hL _ _ hei)]; exact Nat.eq_of_beq_eq_true he1) r c.size (by simp only [World.shape?, g1]) s hn0 g2
  (by unfold maxLen at hmax; omega) hcell
 have hfz : (w.freeze ⟨r, 0, none⟩ s.length).heap[r]? = some (.cells c e (0, s.length)) ∧ (∀ k, k ≠ r → (w.freeze ⟨r, 0, none⟩ s.length).heap[k]? = w.heap[k]?) ∧ (w.freeze ⟨r, 0, none⟩ s.length).heap.size = w.heap.size := by
  refine ⟨?_, fun k hk => by simp [World.freeze, hl0, Array.getElem?_modify, Ne.symm hk], by simp [World.freeze, hl0]⟩
  rcases gf with rfl | rfl
  ·simp [World.freeze, hl0, Array.getElem?_modify, g1]
  ·simp [World.freeze, hl0, Array.getElem?_modify, g1, Ne.symm hl0]
 obtain ⟨f1, f2, f3⟩ := hfz
 generalize hw : w.freeze ⟨r, 0, none⟩ s.length = w' at *
 have hE : Ext H w ((r, .froz e s) :: Hr) w' := ⟨by rw [← hw]; simp [World.freeze, hl0], by rw [← hw]; simp [World.freeze, hl0], by rw [← hw]; simp [World.freeze, hl0], by omega, fun k _ hk => f2 k (fun h => hk (by subst h; exact (hH.map _).mem_iff.2 (List.mem_cons_self ..))), fun k hk => .inl ((hH.map (·.1)).mem_iff.2 (by simpa [keys] using hk)), fun k hk c' T' f' h => by
  by_cases hkr : k = r
  ·subst hkr; rw [f1] at h; cases h; exact ⟨c, _, g1, rfl⟩
  ·rw [f2 k hkr] at h; exact ⟨c', f', h, rfl⟩⟩
 have hst := hE.stays (fr := fr); have hown : own fr ((r, b) :: Hr) = own fr ((r, .froz e s) :: Hr) := by funext k; simp [own, keys]
 refine ⟨w', _, .string ⟨s.toArray⟩, _, .inl ?_, ⟨rfl, rfl⟩, ⟨sm.nodup, sm.apart, fun k hk => by have := sm.old k hk; omega, fun p hp => ?_⟩, .str s hmax, hE⟩
 ·simp only [execOp, resolve, invoke, builtin, Sem.run_bind, Sem.run_pure, Result.andThen_ok, List.map_toArray, List.map_cons, List.map_nil, h1, h2]
  have h00 : (0 * 1 + 0 : Nat) = 0 := rfl; rw [h00]; simp only [hrun, Result.andThen_ok]
 ·rcases List.mem_cons.1 hp with rfl | hp
  ·exact ⟨c, _, f1, .inr rfl, g2, g4⟩
  ·exact (sm.ok p (List.mem_cons_of_mem _ hp)).mono (by rw [← zaz hH]; exact hst) (f2 _ fun h => hnd.1 (List.mem_map.2 ⟨p, hp, h⟩))
theorem zlb {H H2 H' : Heap} {w w' : World} (e : Ext H2 w H' w') (h : keys H2 = keys H) : Ext H w H' w' :=
 ⟨e.os, e.tape, e.output, e.size, fun k hk hn => e.same k hk (h ▸ hn), fun k hk => h ▸ e.keys k hk, e.shape⟩
theorem Sim.froz {fr : Nat → Prop} {r e : Nat} {s : List UInt8} {Hr : Heap} {w : World} (sm : Sim fr ((r, .row e 1 (s.map zaW)) :: Hr) w) : Sim fr ((r, .froz e s) :: Hr) w := by
 refine ⟨sm.nodup, sm.apart, sm.old, fun p hp => ?_⟩; rcases List.mem_cons.1 hp with rfl | hp
 ·obtain ⟨c, g1, g2, g3, g4⟩ := sm.ok _ List.mem_cons_self
  refine ⟨c, (0, 0), g1, .inl rfl, by simpa using g2, fun j x hj => ?_⟩
  obtain ⟨hi, he⟩ := List.getElem?_eq_some_iff.1 hj; obtain ⟨v, k1, k2, _⟩ := g4 j (by simpa using hi) 0 (by simp [zaW]); simp only [List.getElem_map, he, zaW, List.getElem_cons_zero] at k2; cases k2; simpa using k1
 ·exact sm.ok p (List.mem_cons_of_mem _ hp)
theorem AWp.toFroz {c : Code} {r e : Nat} {s : List UInt8} {Hr : Heap} (hp : H.Perm ((r, .row e 1 (s.map zaW)) :: Hr)) (k : AWp P N c Q T ((r, .froz e s) :: Hr)) : AWp P N c Q T H := by
 refine AWp.perm hp ⟨fun fr w a sm st => ?_⟩; refine wp_mono (k.out fr w a (Sim.froz sm) st) ?_; rintro e a' w' ⟨T', H'', q, s', st', x'⟩; exact ⟨T', H'', q, s', st', zlb x' rfl⟩
end
section
variable {P : Program} {N : NN} {Q : Exit → Env → Heap → Prop} {T : Env} {H : Heap} {ops rest : List Oper} {L : Lay} {dst : Option Nat} {ty : TypeId} {pos : String} {after : Array Edge} {guard : Option (Nat × Bool)}
theorem zac.cellTmp2 {fn : Func} {t ty u q : Nat} {r Te sz i o : Nat} {elems : List (List A)} {e : List A} {ti : TI} {v y z : A} (hL : zag P L) (h : fn.results = #[.cell t ty, .tmp u, .tmp q]) (hx : get T t = some (.ptr r sz i o)) (hm : (r, Blk.row Te sz elems) ∈ H)
  (he : elems[i]? = some e) (ht : lay L ty = some ti) (hv : zbo ti e o = some v) (hy : get T u = some y) (hz : get T q = some z) : zac P fn N T H (.tup [v, y, z]) := fun fr w a s st => by
 have hu := zaO st hx
 generalize h1 : a.tmps.getD t undef = q at hu
 cases hu; obtain ⟨vs, h2, h3, _, _⟩ := s.elem hm he; obtain ⟨zv, hzv, hr⟩ := zbp (hL _ _ ht) h2 (h3.drop o) hv; rw [add_plain] at hzv; refine ⟨.tuple #[zv, a.tmps.getD u undef, a.tmps.getD q undef], ?_, Rep.tup_of (.cons hr (.cons (zaO st hy) (.cons (zaO st hz) .nil)))⟩; have h1' : a.tmps[t]?.getD undef = .pointer (some { block := r, off := i * sz + o }) := by rw [← h1]; simp
 simp [results, h, asAddr, h1', hzv]
end
section
variable {P : Program} {N : NN} {Q : Exit → Env → Heap → Prop} {T : Env} {H : Heap} {ops rest : List Oper} {L : Lay} {dst : Option Nat} {ty : TypeId} {pos : String} {after : Array Edge} {guard : Option (Nat × Bool)}
theorem zpe : ∀ (s : List UInt8) (c : UInt8), -1 ≤ Lib.indexByte s c ∧ Lib.indexByte s c < s.length ∨ Lib.indexByte s c = -1
 | [], c => .inr rfl
 | b :: l, c => by
  have ih := zpe l c; unfold Lib.indexByte; split
  ·exact .inl ⟨by omega, by simp only [List.length_cons]; omega⟩
  ·split
   ·exact .inr rfl
   ·rename_i h
    have h : Lib.indexByte l c ≠ -1 := by simpa using h
    simp only [List.length_cons]; omega
theorem AOp.callIxb {callee y z : Operand} {ats : Array TypeId} {f : FuncId} {fn : Func} {s : List UInt8} {c : Int} (hf : ev T callee = some (.fn f [] [])) (hy : ev T y = some (.str s)) (hz : ev T z = some (.int .u8 c)) (hfn : P.funcs[f]? = some fn) (hname : (fn.name == "runtime.NumGoroutine") = false)
  (hb : fn.body.isNone = true) (hn : Extern.findNext fn = none) (he : Extern.find fn = some Extern.BytealgIndexByte.indexByte) (hd : zae N dst = true) (kk : AOps P N ops rest Q (put dst (.int .i64 (Lib.indexByte s c.toNat.toUInt8)) T) H) :
  AOp P N ops ⟨dst, .call { callee := .value callee, args := [y, z].toArray, argTypes := ats }, ty, pos, after, guard⟩ rest Q T H :=
 AOp.pure (fun fr w act sm st => by
  obtain ⟨fs, cs, e1, e2, e3⟩ := (zad st hf).fn_inv; have e2' : fs = #[] := by have := e2.length; simpa using this
  have e3' : cs = #[] := by have := e3.length; simpa using this
  subst e2' e3'; have hu := zad st hy
  generalize h1 : act.eval y = u at hu
  cases hu with
  | str _ hm =>
  have hv := zad st hz
  generalize h2 : act.eval z = v at hv
  cases hv; have hin : inR .i64 (Lib.indexByte s c.toNat.toUInt8) := by
   have := zpe s c.toNat.toUInt8; unfold maxLen at hm; rw [zdM]; omega
  have := run_callFunc_extern hfn hname hb hn he #[.string ⟨s.toArray⟩, .int .u8 c] w; exact ⟨.int .i64 (Lib.indexByte s c.toNat.toUInt8), by
   simp only [execOp, resolve, Deferred.ofValue, invoke, Sem.run_bind, Sem.run_pure, Result.andThen_ok, List.map_toArray, List.map_cons, List.map_nil, e1, h1, h2]; simpa [Lib.run_indexByteString] using this, .int _ _ hin⟩) hd kk
theorem TrG.weak {G : List (Nat × List A)} {f : FuncId} {args : List A} {R : A → Heap → Prop} (h : TrG [] P f args H R) : TrG G P f args H R :=
 ⟨h.can, fun fr w vs s _ a => h.run fr w vs s (fun _ hp => nomatch hp) a⟩
end
section
variable {P : Program} {N : NN} {T : Env} {H : Heap} {L : Lay} {ty : TypeId} {pos : String} {after : Array Edge} {guard : Option (Nat × Bool)} {Q : Exit → Env → Heap → Prop} {ops rest : List Oper}
theorem AOp.buildF (d : Nat) {t : TypeId} {n e : Nat} {parts : List (Nat × Operand)} {ps : List (Nat × A)} {ti ei : TI} {out : List A} {elems : List (List A)} (hL : zag P L) (hp : evParts T parts = some ps) (ht : lay L t = some ti) (he : ti.td = .slice e)
  (hei : lay L e = some ei) (ho : zdK ei.size (rep n ei.zero) ps = some out) (hel : zcl ei.size n out = elems) (hsm : Nat.ble (n * ei.size) 16777216 = true) (hpos : Nat.ble 1 ei.size = true) (hz : Nat.beq ei.zero.length ei.size = true) (hl : zah out = true) (hd : zae N (some d) = true) (hn : Nat.beq elems.length n = true)
  (k : AOps P N ops rest Q (put (some d) (.ds elems) T) H) :
  AOp P N ops ⟨some d, .buildSlice t n parts.toArray, ty, pos, after, guard⟩ rest Q T H := by
 have hn := Nat.eq_of_beq_eq_true hn; refine AOp.buildSlice hL hp ht he hei ho hel hsm hpos hz hl hd fun r hr => ?_; refine AOps.perm (H' := H ++ [(r, .row e ei.size elems)]) (List.perm_append_comm (l₁ := [_])) ?_; refine AOps.freezeG (t := d) (g := some r) (elems := elems) (pre := H) (sz := ei.size) (e := e) (by rw [hn]; simp only [put, zau, outV, if_true]) (fun h => by cases h) rfl ?_
 exact AOps.sub (zel d _ _ T) k
end
section
variable {P : Program} {N : NN} {Q : Exit → Env → Heap → Prop} {T : Env} {H : Heap} {ops rest : List Oper} {L : Lay} {dst : Option Nat} {ty : TypeId} {pos : String} {after : Array Edge} {guard : Option (Nat × Bool)}
theorem AOp.insert {t kt et : TypeId} {x ix y : Operand} {r : Nat} {es es' : List (A × A)} {key v : A} {ti ki : TI} {H' : Heap} (hL : zag P L) (hx : ev T x = some (.map r)) (hi : ev T ix = some key) (hy : ev T y = some v)
  (ht : lay L t = some ti) (htd : ti.td = .map kt et) (hki : lay L kt = some ki) (hkt : zdE ki.td key = true) (hf : putM es key v = some es') (hat : At H r (.map es) (.map es') H') (hd : zae N dst = true)
  (kk : AOps P N ops rest Q (put dst (.tup []) T) H') : AOp P N ops ⟨dst, .insert t x ix y, ty, pos, after, guard⟩ rest Q T H :=
 AOp.congrOp (o1 := ⟨dst, .mapUpdate t x ix y, ty, pos, after, guard⟩) rfl (fun ev => zfW ev ⟨dst, .insert t x ix y, ty, pos, after, guard⟩)
  (AOp.mapUpdate hL hx hi hy ht htd hki hkt hf hat hd kk)
end
theorem Sub.ds1 {c c' : List A} (h : SubL c c') (hl : c.length = c'.length) : Sub (.ds [c]) (.ds [c']) := fun w o v hr => by
 rcases hr.ds_inv with ⟨e, rfl⟩ | ⟨a, cap, sz, rfl, k1, k2, k3⟩
 ·cases e
 ·refine Rep.ds_of (elems := [c']) (sz := sz) k1 k2 fun i e he => ?_
  cases i with
  | zero =>
   cases he; obtain ⟨h1, vs, h2, h3, h4⟩ := k3 0 c rfl; refine ⟨by rw [← hl]; exact h1, vs, h.rep h2, h3, fun hne => h4 fun e => hne ?_⟩
   rw [e] at hl; exact List.length_eq_zero_iff.1 hl.symm
  | succ i => cases he
theorem Sub.tup {xs ys : List A} (h : SubL xs ys) : Sub (.tup xs) (.tup ys) := fun w o v hr => by
 obtain ⟨cs, rfl, hl⟩ := hr.tup_inv; have := Rep.tup_of (h.rep hl); simpa using this
theorem PTrG.subR {G : List (Nat × List A)} {P : Program} {f : FuncId} {args : List A} {v v' : A} (h : PTrG G P f args v) (hs : Sub v v') : PTrG G P f args v' :=
 ⟨h.can, fun fr w vs s g a => (h.run fr w vs s g a).mono fun e w' ⟨r, H', u, he, hr, s', hu, x⟩ => ⟨v', H', u, he, rfl, s', by
  have hr : r = v := hr; subst hr; exact hs _ _ _ hu, x⟩⟩
theorem PTrG.subL {G : List (Nat × List A)} {P : Program} {f : FuncId} {args args' : List A} {v : A} (h : PTrG G P f args v) (hs : SubL args' args) : PTrG G P f args' v := h.sub fun w o vs a => hs.rep a
def mapO {α β : Type} (f : α → Option β) : List α → Option (List β)
 | [] => some []
 | x :: l => match f x with
  | some y => match mapO f l with
   | some m => some (y :: m)
   | none => none
  | none => none
theorem zg2 {α β : Type} {f : α → Option β} : ∀ {l : List α} {m : List β}, mapO f l = some m → m.length = l.length ∧ ∀ (i : Nat) (x : α), l[i]? = some x → ∃ y : β, m[i]? = some y ∧ f x = some y
 | [], m, h => by
  cases h; exact ⟨rfl, fun i x h => by simp at h⟩
 | x :: l, m, h => by
  simp only [mapO] at h; split at h
  ·rename_i y hy
   split at h
   ·rename_i k hk
    cases h; obtain ⟨h1, h2⟩ := zg2 hk; refine ⟨by simp [h1], fun i z hz => ?_⟩
    cases i with
    | zero => simp at hz; subst hz; exact ⟨y, rfl, hy⟩
    | succ i => simpa using h2 i z (by simpa using hz)
   ·cases h
  ·cases h
def zjp (H : Tre Blk) : Nat → A → Option A
 | 0, _ => none
 | n + 1, x => match x with
  | .os b sz off len => match H.get b with
   | some (.row _ sz' elems) => match Nat.beq sz' sz, Nat.beq off 0, Nat.beq len elems.length with
    | true, true, true => match mapO (fun c => mapO (zjp H n) c) elems with
     | some l => some (.ds l)
     | none => none
    | _, _, _ => none
   | _ => none
  | .agg l => match mapO (zjp H n) l with
   | some m => some (.agg m)
   | none => none
  | .tup l => match mapO (zjp H n) l with
   | some m => some (.tup m)
   | none => none
  | .nils => some (.ds [])
  | .int k m => some (.int k m)
  | .str s => some (.str s)
  | .bool b => some (.bool b)
  | _ => none
theorem zl3 (ρ : Nat → Nat) : ∀ l : List A, renL ρ l = l.map (ren ρ)
 | [] => by simp [renL]
 | x :: l => by simp [renL, zl3 ρ l]
theorem zkv (ρ : Nat → Nat) : ∀ l : List (List A), zap ρ l = l.map (renL ρ)
 | [] => by simp [zap]
 | x :: l => by simp [zap, zkv ρ l]
theorem zlF {fr : Nat → Prop} {H' : Heap} {w : World} {ρ : Nat → Nat} {Ht : Tre Blk} (s : Sim fr H' w) (hm : ∀ (b : Nat) (blk : Blk), Ht.get b = some blk → (ρ b, renB ρ blk) ∈ H') :
  ∀ (n : Nat) (x y : A) (v : Value), zjp Ht n x = some y → Rep w (own fr H') (ren ρ x) v → Rep w (own fr []) y v := by
 have hst : Stays w (own fr H') w (own fr []) := Stays.less fun _ h => h.imp id fun h => by cases h
 intro n
 induction n with
 | zero => intro x y v h; cases h
 | succ n ih =>
  have row : ∀ (l m : List A) (vs : List Value), mapO (zjp Ht n) l = some m → RepL w (own fr H') (renL ρ l) vs → RepL w (own fr []) m vs := by
   intro l m vs h hr; obtain ⟨h1, h2⟩ := zg2 h; rw [zl3] at hr; refine RepL.of_get _ _ (by rw [hr.length, List.length_map, h1]) fun i y hy => ?_; have hi : i < l.length := by rw [← h1]; exact (List.getElem?_eq_some_iff.1 hy).1
   obtain ⟨y', k1, k2⟩ := h2 i l[i] (List.getElem?_eq_getElem hi); rw [hy] at k1; cases k1; obtain ⟨v, k3, k4⟩ := hr.get i (ren ρ l[i]) (by simp [hi]); exact ⟨v, k3, ih _ _ _ k2 k4⟩
  intro x y v h hr; simp only [zjp] at h; split at h
  ·rename_i b sz off len
   split at h
   ·rename_i e sz' elems hb
    split at h
    ·rename_i q1 q2 q3
     have q1 := Nat.eq_of_beq_eq_true q1; have q2 := Nat.eq_of_beq_eq_true q2; have q3 := Nat.eq_of_beq_eq_true q3; subst q1 q2 q3; split at h
     ·rename_i m hmm
      cases h; obtain ⟨h1, h2⟩ := zg2 hmm; have hmem := hm b _ hb; simp only [renB, zkv] at hmem; simp only [ren] at hr; cases hr with
      | os _ _ _ _ cap hlt hcap hmax hroom =>
       rw [← h1]; refine Rep.ds_of (sz := sz') (by rw [h1]; exact hcap) hmax fun i c' hc' => ?_; have hi : i < elems.length := by rw [← h1]; exact (List.getElem?_eq_some_iff.1 hc').1
       obtain ⟨c2, k1, k2⟩ := h2 i elems[i] (List.getElem?_eq_getElem hi); rw [hc'] at k1; cases k1; obtain ⟨vs, j1, j2, j3, j4⟩ := s.elem hmem (i := i) (e := renL ρ elems[i]) (by simp [hi]); have r1 := row _ _ _ k2 j1; refine ⟨by rw [← r1.length, j1.length]; exact j4, vs, r1, ?_, fun _ h => ?_⟩
       ·rw [add_plain, Nat.zero_mul, Nat.zero_add]
        exact j2
       ·rcases h with h | h
        ·exact s.apart _ (List.mem_map.2 ⟨_, hmem, rfl⟩) h
        ·cases h
     ·cases h
    ·cases h
   ·cases h
  ·split at h
   ·rename_i l m hmm
    cases h; simp only [ren] at hr; obtain ⟨cs, rfl, hl⟩ := hr.agg_inv; have := Rep.agg_of (row _ _ _ hmm hl); simpa using this
   ·cases h
  ·split at h
   ·rename_i l m hmm
    cases h; simp only [ren] at hr; obtain ⟨cs, rfl, hl⟩ := hr.tup_inv; have := Rep.tup_of (row _ _ _ hmm hl); simpa using this
   ·cases h
  ·cases h
   simp only [ren] at hr; cases hr; exact .ds0
  ·cases h
   simp only [ren] at hr; exact hr.mono hst
  ·cases h
   simp only [ren] at hr; exact hr.mono hst
  ·cases h
   simp only [ren] at hr; exact hr.mono hst
  ·cases h
theorem PTr.runD {P : Program} {E : Exts} {M : zc7} {L : Lay} {fuel : Nat} (hL : zag P L) (hm : P.follows .mixedOrders = true) (hE : zc2 P E) (hM : zcu P M) (k k2 : Nat) {f : FuncId} {args : List A} {y : A} (ha : zao 0 args = true)
  (h : (match zhI P E M L fuel k (fun _ => true) f args .leaf 0 with | some (.ret v, H1, _) => zjp H1 k2 v | _ => none) = some y) : PTr P f args y := by
 split at h
 ·rename_i v' H1 n1 he
  have g : Good id 0 (fun _ => true) (fun _ => False) .leaf [] := ⟨fun i b h => by simp [Tre.get] at h, fun i j b c h => by simp [Tre.get] at h, List.nodup_nil, fun i h => absurd h (Nat.not_lt_zero i), fun _ _ => rfl, fun k h => h.elim⟩
  have ht := zff hL hm hE hM k (fun _ => true) f args .leaf 0 _ H1 n1 he id (fun _ => False) [] ha g; rw [za1 id ha] at ht; have ht := TrF.toTr (R := Out id 0 (fun _ => true) (fun _ => False) [] v' H1 n1) ht; refine ⟨ht.can, fun fr w vs s a => (ht.run fr w vs s a).mono ?_⟩; rintro e w' ⟨r, H', v, rfl, hR, s', hr, x⟩; obtain ⟨ρ1, rfl, _, g1, _⟩ := hR; exact ⟨y, [], v, rfl, rfl, ⟨List.nodup_nil, (fun r h => by cases h), s'.old, (fun p h => by cases h)⟩, zlF s' (fun b blk hb => (g1.mem b blk hb).2.2) k2 v' y v h hr, ⟨x.os, x.tape, x.output, x.size, x.same, (fun k h => by cases h), x.shape⟩⟩
 ·cases h
section
variable {P : Program} {N : NN} {T : Env} {H : Heap} {L : Lay}
theorem Pl.eqArray {ops : Array Oper} {rest : List Oper} {Q : Env → Heap → Prop} {dst : Option Nat} {bop : BinOp} {xt yt : TypeId} {x y : Operand} {ty : TypeId} {pos : String} {after : Array Edge} {guard : Option (Nat × Bool)} {xs ys : List A} {ti ei : TI} {n e : Nat} {b : Bool} {v : A} (hE : EqG P xt) (hd : zae N dst = true)
  (hw : zas ops (restr T ((⟨dst, .binOp bop xt x y yt, ty, pos, after, guard⟩ : Oper).looksAt ops)) ⟨dst, .binOp bop xt x y yt, ty, pos, after, guard⟩ = some true)
  (hn : sOp L (restr T ((⟨dst, .binOp bop xt x y yt, ty, pos, after, guard⟩ : Oper).looksAt ops)) (.binOp bop xt x y yt) = none)
  (hx : ev (restr T ((⟨dst, .binOp bop xt x y yt, ty, pos, after, guard⟩ : Oper).looksAt ops)) x = some (.agg xs)) (hy : ev (restr T ((⟨dst, .binOp bop xt x y yt, ty, pos, after, guard⟩ : Oper).looksAt ops)) y = some (.agg ys))
  (ht : lay L xt = some ti) (htd : ti.td = .array n e) (hei : lay L e = some ei) (hb : zax L (zmu n e ei.size) xs ys = some b) (h : (match (generalizing := false) bop with | .eql => some (A.bool b) | .neq => some (A.bool !b) | _ => none) = some v) (k : Pl P N L ops Q rest (put dst v T) H) : Pl P N L ops Q (⟨dst, .binOp bop xt x y yt, ty, pos, after, guard⟩ :: rest) T H := ⟨Plan.pureX hd hw (zg5 hE hn hx hy ht htd hei hb h) k.out⟩
end
end Go.Abs

