/- A part of the proof: a layer of abstract values over the kit's walks, an evaluator over it, and walks of functions. -/
import Derived.Lib.Bytealg
import Derived.Test.YtdeenhdmmeahgaaGreatDoorMuB
set_option linter.unusedVariables false
set_option linter.unusedSimpArgs false
namespace Go.Abs
open Go
set_option linter.unusedVariables false
set_option linter.unusedSimpArgs false
section
variable {P : Program} {E : Exts} {N : NN} {L : Lay} {call : CallC} {lo fuel : Nat} {fz : Nat → Prop}
theorem evLoop_ok {c : Code} {Q : Exit → Env → Heap → Prop} {e : Exit} {T1 : Tre A} {H1 : Tre Blk} {n1 : Nat} {step : Tre A → Tre Blk → Nat → Res}
    (hs : ∀ {Q : Exit → Env → Heap → Prop} {ρ : Nat → Nat} {n : Nat} {T : Tre A} {H : Tre Blk} {T' : Env} {H' : Heap} {e : Exit} {T1 : Tre A} {H1 : Tre Blk} {n1 : Nat}, Cfg ρ n lo fz T H T' H' → step T H n = some (e, T1, H1, n1) →
      (∀ ρ1 T1' H1', Cfg ρ1 n1 lo fz T1 H1 T1' H1' → Ltr ρ n fz H' ρ1 n1 H1' → Q e T1' H1') → AWp P N c Q T' H') :
    ∀ (f : Nat) {ρ : Nat → Nat} {n : Nat} {T : Tre A} {H : Tre Blk} {T' : Env} {H' : Heap}, Cfg ρ n lo fz T H T' H' → evLoop step f T H n = some (e, T1, H1, n1) →
    (∀ ρ1 T1' H1', Cfg ρ1 n1 lo fz T1 H1 T1' H1' → Ltr ρ n fz H' ρ1 n1 H1' → Q e T1' H1') → AWp P N c (seqQ (AIn P N c Q) Q) T' H'
  | 0, ρ, n, T, H, T', H', cf, h, k => by simp [evLoop] at h
  | f + 1, ρ, n, T, H, T', H', cf, h, k => by
    simp only [evLoop] at h
    split at h
    · rename_i T2 H2 n2 hst
      refine hs cf hst fun ρ1 T1' H1' c1 l1 => seqQ_n ?_
      exact AIn.round (evLoop_ok hs f c1 h fun ρ2 T2' H2' c2 l2 => k _ _ _ c2 (l1.trans l2))
    · rename_i hne
      refine hs cf h fun ρ1 T1' H1' c1 l1 => ?_
      have hq := k ρ1 T1' H1' c1 l1
      cases e with
      | normal => exact absurd h (hne T1 H1 n1)
      | _ => exact hq
theorem evCode_ok (hL : LayOk P L) (hm : P.follows .mixedOrders = true) (hE : ExtOk P E) (hc : CallOk P call) : ∀ (c : Code) {Q : Exit → Env → Heap → Prop} {ρ : Nat → Nat} {n : Nat} {T : Tre A} {H : Tre Blk} {T' : Env} {H' : Heap} {e : Exit} {T1 : Tre A} {H1 : Tre Blk} {n1 : Nat},
    Cfg ρ n lo fz T H T' H' → evCode P E N L call lo fuel c T H n = some (e, T1, H1, n1) →
    (∀ ρ1 T1' H1', Cfg ρ1 n1 lo fz T1 H1 T1' H1' → Ltr ρ n fz H' ρ1 n1 H1' → Q e T1' H1') → AWp P N c Q T' H'
  | .skip, Q, ρ, n, T, H, T', H', e, T1, H1, n1, c, h, k => by
    simp only [evCode] at h; cases h; exact AWp.skip (k _ _ _ c (Ltr.refl ..))
  | .label l, Q, ρ, n, T, H, T', H', e, T1, H1, n1, c, h, k => by
    simp only [evCode] at h; cases h; exact AWp.label (k _ _ _ c (Ltr.refl ..))
  | .exit id, Q, ρ, n, T, H, T', H', e, T1, H1, n1, c, h, k => by
    simp only [evCode] at h; cases h; exact AWp.exit (k _ _ _ c (Ltr.refl ..))
  | .ret, Q, ρ, n, T, H, T', H', e, T1, H1, n1, c, h, k => by
    simp only [evCode] at h; cases h; exact AWp.ret (k _ _ _ c (Ltr.refl ..))
  | .seq a b, Q, ρ, n, T, H, T', H', e, T1, H1, n1, c, h, k => by
    simp only [evCode] at h
    refine AWp.seq ?_
    split at h
    · rename_i T2 H2 n2 ha
      refine evCode_ok hL hm hE hc a c ha fun ρ1 T1' H1' c1 l1 => seqQ_n ?_
      exact evCode_ok hL hm hE hc b c1 h fun ρ2 T2' H2' c2 l2 => k _ _ _ c2 (l1.trans l2)
    · rename_i hne
      refine evCode_ok hL hm hE hc a c h fun ρ1 T1' H1' c1 l1 => ?_
      have hq := k ρ1 T1' H1' c1 l1
      cases e with
      | normal => exact absurd h (hne T1 H1 n1)
      | _ => exact hq
  | .cond x a b, Q, ρ, n, T, H, T', H', e, T1, H1, n1, c, h, k => by
    simp only [evCode] at h
    split at h
    · rename_i hx
      have hx := c.r.ev hx
      simp only [ren] at hx
      exact AWp.condT hx (evCode_ok hL hm hE hc a c h k)
    · rename_i hx
      have hx := c.r.ev hx
      simp only [ren] at hx
      exact AWp.condF hx (evCode_ok hL hm hE hc b c h k)
    · cases h
  | .block id a, Q, ρ, n, T, H, T', H', e, T1, H1, n1, c, h, k => by
    simp only [evCode] at h
    refine AWp.block ?_
    split at h
    · rename_i id' T2 H2 n2 ha
      refine evCode_ok hL hm hE hc a c ha fun ρ1 T1' H1' c1 l1 => ?_
      split at h
      · rename_i hb
        cases h
        exact blockQ_e hb (k _ _ _ c1 l1)
      · rename_i hb
        cases h
        exact blockQ_o hb (k _ _ _ c1 l1)
    · rename_i hne
      refine evCode_ok hL hm hE hc a c h fun ρ1 T1' H1' c1 l1 => ?_
      have hq := k ρ1 T1' H1' c1 l1
      cases e with
      | exit id' => exact absurd h (hne id' T1 H1 n1)
      | _ => exact hq
  | .loop a, Q, ρ, n, T, H, T', H', e, T1, H1, n1, c, h, k => by
    simp only [evCode] at h
    exact AIn.toRound (evLoop_ok (fun c h k => evCode_ok hL hm hE hc a c h k) fuel c h k)
  | .region id ops false, Q, ρ, n, T, H, T', H', e, T1, H1, n1, c, h, k => by
    simp only [evCode] at h
    split at h
    · rename_i T2 H2 n2 ho
      cases h
      have := AWp.region (id := id) (evOps_ok hL hE hc ops.toList c ho k)
      simpa using this
    · cases h
  | .region id ops true, Q, ρ, n, T, H, T', H', e, T1, H1, n1, c, h, k => by
    simp only [evCode] at h
    split at h
    · rename_i hk
      split at h
      · rename_i T2 H2 n2 V ho
        cases h
        have := AWp.draw2 (id := id) hL hm hk (evPlan_ok hL hE hc c.g ops.toList c (fun _ _ => rfl) (Nat.le_refl _) (fun _ => ⟨[], by simp⟩) ho k (fun d => match get V d with | some x => ren ρ x | none => default) fun d x hx => by simp only [hx])
        simpa using this
      · cases h
    · cases h
  | .rangeFunc .., Q, ρ, n, T, H, T', H', e, T1, H1, n1, c, h, k => by simp [evCode] at h
  | .scope .., Q, ρ, n, T, H, T', H', e, T1, H1, n1, c, h, k => by simp [evCode] at h
  | .goto .., Q, ρ, n, T, H, T', H', e, T1, H1, n1, c, h, k => by simp [evCode] at h
  | .refuse .., Q, ρ, n, T, H, T', H', e, T1, H1, n1, c, h, k => by simp [evCode] at h
theorem argsC_ok {ρ : Nat → Nat} : ∀ {l : List A} {i t : Nat} {x : A}, (argsC i l).get t = some x → get (argEnv i (renL ρ l)) t = some (ren ρ x)
  | [], i, t, x, h => by simp [argsC, Tre.get] at h
  | a :: l, i, t, x, h => by
    simp only [argsC] at h
    simp only [renL, argEnv, get_put]
    rcases Tre.get_set _ _ _ _ _ _ h with ⟨h1, h2⟩ | ⟨h1, h2⟩
    · cases h2; rw [if_pos h1.symm]
    · rw [if_neg (fun e => h1 e.symm)]; exact argsC_ok h2
theorem argsC_scope {n : Nat} : ∀ {l : List A} {i t : Nat} {x : A}, scopeL n l = true → (argsC i l).get t = some x → scope n x = true
  | [], i, t, x, _, h => by simp [argsC, Tre.get] at h
  | a :: l, i, t, x, s, h => by
    simp only [argsC] at h
    simp only [scopeL, Bool.and_eq_true] at s
    rcases Tre.get_set _ _ _ _ _ _ h with ⟨h1, h2⟩ | ⟨h1, h2⟩
    · cases h2; exact s.1
    · exact argsC_scope s.2 h2
def resOne (tmps : Array Value) : ResultVar → Sem Value
  | .tmp t => Pure.pure (tmps.getD t undef)
  | .cell a t => do loadVar t (← asAddr (tmps.getD a undef))
theorem resV_ok (hL : LayOk P L) {ρ : Nat → Nat} {n : Nat} {T : Tre A} {H : Tre Blk} {T' : Env} {H' : Heap} (c : Cfg ρ n lo fz T H T' H') {rv : ResultVar} {v : A} (h : resV L T H rv = some v) {fr : Nat → Prop} {w : World} {a : Act} (s : Sim fr H' w) (st : St N w (own fr H') T' a) :
    ∃ u, (resOne a.tmps rv).run P w = .ok u w ∧ Rep w (own fr H') (ren ρ v) u := by
  unfold resV at h
  split at h
  · rename_i t
    exact ⟨_, by simp only [resOne, Sem.run_pure], getD_of_get st (c.r _ _ h)⟩
  · rename_i t ty
    split at h
    · rename_i h1
      have h1 := c.r _ _ h1
      simp only [ren] at h1
      split at h
      · rename_i hrow
        have hm := (c.g.mem _ _ hrow).2.2
        simp only [renB] at hm
        split at h
        · rename_i hsz
          have hsz := Nat.eq_of_beq_eq_true hsz
          subst hsz
          split at h
          · rename_i he
            split at h
            · rename_i ti ht
              have hu := getD_of_get st h1
              generalize h1' : a.tmps.getD t undef = u at hu
              cases hu
              obtain ⟨vs, h2, h3, _, _⟩ := s.elem hm (by rw [renLL_get, he]; rfl)
              obtain ⟨z, hz, hr⟩ := loadVar_run (hL _ _ ht) h2 (h3.drop _) (by rw [ren_loadA, h]; rfl)
              rw [add_plain] at hz
              refine ⟨z, ?_, hr⟩
              simp only [resOne, h1', asAddr, Sem.run_bind, Sem.run_pure, Result.andThen_ok, hz]
            · cases h
          · cases h
        · cases h
      · cases h
    · cases h
theorem resC_ok (hL : LayOk P L) {fn : Func} {ρ : Nat → Nat} {n : Nat} {T : Tre A} {H : Tre Blk} {T' : Env} {H' : Heap} (c : Cfg ρ n lo fz T H T' H') {v : A} (h : resC L T H fn.results.toList = some v) : ResOk P fn N T' H' (ren ρ v) := by
  intro fr w a s st
  have hdef : results fn a.tmps = (do
    let vs ← fn.results.mapM (resOne a.tmps)
    Pure.pure (if h : vs.size = 1 then vs[0] else .tuple vs)) := by
    unfold results
    congr 2
  rw [hdef]
  unfold resC at h
  split at h
  · rename_i hr
    cases h
    have hr : fn.results = #[] := Array.toList_inj.1 (by simpa using hr)
    exact ⟨.tuple #[], by simp [hr], Rep.tup_of .nil⟩
  · rename_i x hr
    have hr : fn.results = #[x] := Array.toList_inj.1 (by simpa using hr)
    obtain ⟨u, h1, h2⟩ := resV_ok (N := N) hL c h s st
    exact ⟨u, by simp [hr, h1], h2⟩
  · rename_i x y hr
    have hr : fn.results = #[x, y] := Array.toList_inj.1 (by simpa using hr)
    split at h
    · rename_i hx hy
      cases h
      obtain ⟨u1, h1, r1⟩ := resV_ok (N := N) hL c hx s st
      obtain ⟨u2, h2, r2⟩ := resV_ok (N := N) hL c hy s st
      exact ⟨.tuple #[u1, u2], by simp [hr, h1, h2], by simp only [ren, renL]; exact Rep.tup_of (.cons r1 (.cons r2 .nil))⟩
    · cases h
  · rename_i x y z hr
    have hr : fn.results = #[x, y, z] := Array.toList_inj.1 (by simpa using hr)
    split at h
    · rename_i hx hy hz
      cases h
      obtain ⟨u1, h1, r1⟩ := resV_ok (N := N) hL c hx s st
      obtain ⟨u2, h2, r2⟩ := resV_ok (N := N) hL c hy s st
      obtain ⟨u3, h3, r3⟩ := resV_ok (N := N) hL c hz s st
      exact ⟨.tuple #[u1, u2, u3], by simp [hr, h1, h2, h3], by simp only [ren, renL]; exact Rep.tup_of (.cons r1 (.cons r2 (.cons r3 .nil)))⟩
    · cases h
  · rename_i x y z q hr
    have hr : fn.results = #[x, y, z, q] := Array.toList_inj.1 (by simpa using hr)
    split at h
    · rename_i hx hy hz hq
      cases h
      obtain ⟨u1, h1, r1⟩ := resV_ok (N := N) hL c hx s st
      obtain ⟨u2, h2, r2⟩ := resV_ok (N := N) hL c hy s st
      obtain ⟨u3, h3, r3⟩ := resV_ok (N := N) hL c hz s st
      obtain ⟨u4, h4, r4⟩ := resV_ok (N := N) hL c hq s st
      exact ⟨.tuple #[u1, u2, u3, u4], by simp [hr, h1, h2, h3, h4], by simp only [ren, renL]; exact Rep.tup_of (.cons r1 (.cons r2 (.cons r3 (.cons r4 .nil))))⟩
    · cases h
  · cases h
theorem evFn_ok (hL : LayOk P L) (hm : P.follows .mixedOrders = true) (hE : ExtOk P E) : ∀ k, CallOk P (evFn P E L fuel k)
  | 0 => fun lo f args H n v H1 n1 h => by simp [evFn] at h
  | k + 1 => fun lo f args H n v H1 n1 h ρ fz H' sa g => by
    simp only [evFn] at h
    split at h
    · rename_i fn hf
      split at h
      · rename_i c hb
        split at h
        · rename_i hn
          have c0 : Cfg ρ n lo fz (argsC 0 args) H (argEnv 0 (renL ρ args)) H' := ⟨fun t x hx => argsC_ok hx, fun t x hx => argsC_scope sa hx, g⟩
          refine Tr.of_body hf hb hn rfl ?_
          rw [renL_len]
          split at h
          · rename_i T2 H2 n2 hcode
            split at h
            · rename_i v' hv
              split at h
              · rename_i hs
                cases h
                refine evCode_ok hL hm hE (evFn_ok hL hm hE k) c c0 hcode fun ρ1 T1' H1' c1 l1 => ?_
                exact bodyQ_r (resC_ok hL c1 hv) ⟨ρ1, rfl, hs, c1.g, l1⟩
              · cases h
            · cases h
          · rename_i T2 H2 n2 hcode
            split at h
            · rename_i v' hv
              split at h
              · rename_i hs
                cases h
                refine evCode_ok hL hm hE (evFn_ok hL hm hE k) c c0 hcode fun ρ1 T1' H1' c1 l1 => ?_
                exact bodyQ_n (resC_ok hL c1 hv) ⟨ρ1, rfl, hs, c1.g, l1⟩
              · cases h
            · cases h
          · cases h
        · cases h
      · cases h
    · cases h
/-- A run with nothing unknown: what the evaluator says holds. -/
theorem PTr.run (hL : LayOk P L) (hm : P.follows .mixedOrders = true) (hE : ExtOk P E) (k : Nat) {f : FuncId} {v : A} (hv : scope 0 v = true) (h : (match evFn P E L fuel k 0 f [] .leaf 0 with | some (v, _, _) => some v | none => none) = some v) : PTr P f [] v := by
  split at h
  · rename_i v' H1 n1 he
    cases h
    have g : Good id 0 0 (fun _ => False) .leaf [] := ⟨fun i b h => by simp [Tre.get] at h, fun i j b c h => by simp [Tre.get] at h, List.nodup_nil, fun i b h => by simp [Tre.get] at h, fun k h => h.elim⟩
    refine (evFn_ok hL hm hE k 0 f [] .leaf 0 v H1 n1 he id (fun _ => False) [] rfl g).mono ?_
    rintro r H' ⟨ρ1, rfl, _, _, _⟩
    exact ren_closed ρ1 hv
  · cases h
end
end Go.Abs

namespace Go.Abs
open Go
set_option linter.unusedVariables false
set_option linter.unusedSimpArgs false
/-! Functions without a body. -/
def extC (same ixb : List Nat) : Exts := fun f xs => match memN f same, xs with
  | true, [v] => some v
  | _, _ => match memN f ixb, xs with
    | true, [.str s, .int .u8 c] => match decide (inR .i64 (Lib.indexByte s c.toNat.toUInt8)) with
      | true => some (.int .i64 (Lib.indexByte s c.toNat.toUInt8))
      | false => none
    | _, _ => none
def ExtFn (P : Program) (f : FuncId) (e : Array Value → Sem Value) : Prop := ∃ fn, P.funcs[f]? = some fn ∧ (fn.name == "runtime.NumGoroutine") = false ∧ fn.body.isNone = true ∧ Extern.findNext fn = none ∧ Extern.find fn = some e
theorem memN_iff {d : Nat} : ∀ {l : List Nat}, memN d l = true → d ∈ l
  | [], h => by cases h
  | x :: l, h => by
    simp only [memN] at h
    split at h
    · rename_i e; rw [Nat.eq_of_beq_eq_true e]; exact List.mem_cons_self ..
    · exact List.mem_cons_of_mem _ (memN_iff h)
theorem extC_ok {P : Program} {same ixb : List Nat} (h1 : ∀ f ∈ same, ExtFn P f Extern.AbiNoEscape.same) (h2 : ∀ f ∈ ixb, ExtFn P f Extern.BytealgIndexByte.indexByte) : ExtOk P (extC same ixb) := by
  intro f xs v h ρ w o vs hr
  unfold extC at h
  split at h
  · rename_i hm
    cases h
    obtain ⟨fn, k1, k2, k3, k4, k5⟩ := h1 f (memN_iff hm)
    simp only [renL] at hr
    cases hr with
    | cons ha ht =>
      cases ht
      refine ⟨_, ?_, ha⟩
      rw [run_callFunc_extern k1 k2 k3 k4 k5]
      simp [Lib.run_noEscape]
  · split at h
    · rename_i hm hne
      split at h
      · rename_i hin
        have hin := of_decide_eq_true hin
        cases h
        obtain ⟨fn, k1, k2, k3, k4, k5⟩ := h2 f (memN_iff hm)
        simp only [renL, ren] at hr
        cases hr with
        | cons ha ht =>
          cases ht with
          | cons hb ht =>
            cases ht
            cases ha
            cases hb
            refine ⟨_, ?_, .int _ _ hin⟩
            rw [run_callFunc_extern k1 k2 k3 k4 k5]
            simp [Lib.run_indexByteString]
      · cases h
    · cases h
end Go.Abs

