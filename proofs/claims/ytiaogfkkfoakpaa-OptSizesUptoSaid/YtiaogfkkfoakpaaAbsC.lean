/- The layer's rules for drawn regions, maps, strings. -/
import Derived.Orders
import GoSem.Instr.MapUpdate
import Derived.MapKept
import GoSem.Instr.Range
import GoSem.Instr.Next
import Derived.Lib.AppendZeros
import Derived.Test.YtiaogfkkfoakpaaAbsB
set_option linter.unusedVariables false
set_option linter.unusedSimpArgs false
namespace Go.Abs
open Go
set_option linter.unusedVariables false
set_option linter.unusedSimpArgs false

/-! Regions that draw their order. -/
def restr (T : Env) : List Nat → Env
  | [] => []
  | t :: ts => match get T t with
    | some v => (t, v) :: restr T ts
    | none => restr T ts
theorem restr_sub (T : Env) : ∀ (ts : List Nat) (t : Nat) (x : A), get (restr T ts) t = some x → get T t = some x
  | [], t, x, h => by simp [restr, get] at h
  | u :: ts, t, x, h => by
    simp only [restr] at h
    split at h
    · rename_i v hv
      rw [get_put] at h
      by_cases hut : u = t
      · subst hut; rw [if_pos rfl] at h; cases h; exact hv
      · rw [if_neg hut] at h; exact restr_sub T ts t x h
    · exact restr_sub T ts t x h
theorem restr_congr {T T' : Env} : ∀ (ts : List Nat), (∀ t ∈ ts, get T t = get T' t) → restr T ts = restr T' ts
  | [], _ => rfl
  | t :: ts, h => by
    simp only [restr]
    rw [h t List.mem_cons_self, restr_congr ts fun u hu => h u (List.mem_cons_of_mem _ hu)]
def wantA (ops : Array Oper) (T : Env) (o : Oper) : Option Bool :=
  match o.guard with
  | none => some true
  | some (j, b) => match (ops[j]?).bind (·.dst) with
    | none => none
    | some d => match get T d with
      | some (.bool b') => some (b' == b)
      | some (.tup _) => some false
      | _ => none
theorem wantA_ok {N : Nat} {w : World} {ow : Nat → Prop} {T : Env} {a : Act} {ops : Array Oper} {o : Oper} {c : Bool} (st : St N w ow T a) (h : wantA ops T o = some c) : Region.wanted o (yielded ops a.tmps) = c := by
  unfold wantA at h
  unfold Region.wanted
  split at h
  · rename_i hg; cases h; rw [hg]
  · rename_i j b hg
    rw [hg]
    split at h
    · cases h
    · rename_i d hd
      split at h
      · rename_i b' hb
        cases h
        obtain ⟨v, hv, hr⟩ := st.at_ d _ hb
        cases hr
        simp only [yielded, hd, Option.bind_some, hv]
        cases b <;> cases b' <;> rfl
      · rename_i l hb
        cases h
        obtain ⟨v, hv, hr⟩ := st.at_ d _ hb
        cases hr
        simp only [yielded, hd, Option.bind_some, hv]
        cases b <;> rfl
      · cases h
/-- 0: reckons alone; 1: reads memory; 2: writes or makes memory. -/
def cls (o : Oper) : Nat :=
  match o.op with
  | .load .. | .lookup .. | .call { callee := .value _, .. } | .call { callee := .invoke _ _, .. } => 1
  | .move _ | .assign _ | .pick .. | .build .. | .binOp .. | .unOp .. | .nilCheck _ | .makeFunc .. | .fieldAddr .. | .field .. | .indexAddr .. | .index .. | .extract .. | .slice .. | .makeInterface .. => 0
  | .convert .. => 0
  | .call { callee := .builtin b, .. } => match b with
    | .len | .min | .max | .cap | .unsafeSliceData => 0
    | _ => 2
  | _ => 2
def compat (x y : Oper) : Bool := match cls x, cls y with
  | 2, 0 | 0, 2 | 0, 0 | 0, 1 | 1, 0 | 1, 1 => true
  | _, _ => false
/-- Which operations stand before which. -/
def anc (ops : List Oper) : List Nat :=
  ops.foldl (fun acc o => acc ++ [o.after.toList.foldl (fun s e => match Region.binds .any e with | true => s ||| 2 ^ e.on ||| acc.getD e.on 0 | false => s) 0]) []
def chk (ops : List Oper) : Bool :=
  let b := anc ops
  Region.noSelect ops.toArray &&
  ops.zipIdx.all fun (o, i) =>
    (o.after.toList.all fun e => match Region.binds .any e with | true => Nat.blt e.on i | false => true) &&
    (ops.take i).zipIdx.all fun (x, j) => (b.getD i 0).testBit j || (x.apart ops.toArray o && compat x o)

def Qn (o : Oper) (T : Env) (R : A → Heap → Prop) : Exit → Env → Heap → Prop
  | .normal, T', H' => ∃ v, R v H' ∧ T' = put o.dst v T
  | _, _, _ => False
/-- The text's order, each step told. -/
def Plan (P : Program) (N : Nat) (L : Lay) (ops : Array Oper) (Q : Env → Heap → Prop) : List Oper → Env → Heap → Prop
  | [], T, H => ∃ T0, (∀ t x, get T0 t = some x → get T t = some x) ∧ Q T0 H
  | o :: rest, T, H => dstOk N o.dst = true ∧
      ((wantA ops (restr T (o.looksAt ops)) o = some true ∧ ∃ v, sOp L (restr T (o.looksAt ops)) o.op = some v ∧ Plan P N L ops Q rest (put o.dst v T) H) ∨
       (wantA ops (restr T (o.looksAt ops)) o = some false ∧ Plan P N L ops Q rest (put o.dst (.tup []) T) H) ∨
       (cls o ≠ 0 ∧ wantA ops (restr T (o.looksAt ops)) o = some true ∧ ∃ v, AOp P N [] o [] (Qn o (restr T (o.looksAt ops)) fun r H' => r = v ∧ H' = H) (restr T (o.looksAt ops)) H ∧ Plan P N L ops Q rest (put o.dst v T) H) ∨
       (cls o = 2 ∧ wantA ops (restr T (o.looksAt ops)) o = some true ∧ ∃ R, ((∃ v H', R v H') ∧ AOp P N [] o [] (Qn o (restr T (o.looksAt ops)) R) (restr T (o.looksAt ops)) H) ∧ ∀ v H', R v H' → Plan P N L ops Q rest (put o.dst v T) H'))
section
variable {P : Program} {N : Nat} {L : Lay} {ops : Array Oper} {Q : Env → Heap → Prop}
theorem get_putO {d : Option Nat} {v : A} {T : Env} {t : Nat} (h : d ≠ some t) : get (put d v T) t = get T t := by
  cases d with
  | none => rfl
  | some d => simp only [put, get_put]; rw [if_neg (fun e => h (by rw [e]))]
theorem get_putS {d : Nat} {v : A} {T : Env} : get (put (some d) v T) d = some v := by simp only [put, get_put, if_true]
theorem restr_put {d : Option Nat} {v : A} {T : Env} {ts : List Nat} (h : ∀ t, d = some t → t ∉ ts) : restr (put d v T) ts = restr T ts :=
  restr_congr ts fun t ht => get_putO fun e => h t e ht
theorem Plan.cong : ∀ {l : List Oper} {T T' : Env} {H : Heap}, (∀ t, get T t = get T' t) → Plan P N L ops Q l T H → Plan P N L ops Q l T' H
  | [], T, T', H, he, ⟨T0, h1, h2⟩ => ⟨T0, fun t x h => by rw [← he]; exact h1 t x h, h2⟩
  | o :: rest, T, T', H, he, ⟨hd, h⟩ => by
    have hr : restr T (o.looksAt ops) = restr T' (o.looksAt ops) := restr_congr _ fun t _ => he t
    have hp : ∀ v t, get (put o.dst v T) t = get (put o.dst v T') t := by
      intro v t
      cases o.dst with
      | none => exact he t
      | some d => simp only [put, get_put, he t]
    refine ⟨hd, ?_⟩
    rw [hr] at h
    rcases h with ⟨h1, v, h2, h3⟩ | ⟨h1, h3⟩ | ⟨h0, h1, v, h2, h3⟩ | ⟨h0, h1, R, h2, h3⟩
    · exact .inl ⟨h1, v, h2, h3.cong (hp v)⟩
    · exact .inr (.inl ⟨h1, h3.cong (hp _)⟩)
    · exact .inr (.inr (.inl ⟨h0, h1, v, h2, h3.cong (hp v)⟩))
    · exact .inr (.inr (.inr ⟨h0, h1, R, h2, fun v H' hR => (h3 v H' hR).cong (hp v)⟩))
theorem put_swap {x y : Option Nat} {u v : A} {T : Env} (h : ∀ d, x = some d → y ≠ some d) (t : Nat) : get (put y v (put x u T)) t = get (put x u (put y v T)) t := by
  cases x with
  | none => rfl
  | some d =>
    cases y with
    | none => rfl
    | some e =>
      have hne : d ≠ e := fun he => h d rfl (he ▸ rfl)
      simp only [put, get_put]
      by_cases h1 : e = t
      · subst h1; rw [if_pos rfl, if_neg hne, if_pos rfl]
      · rw [if_neg h1, if_neg h1]
theorem Plan.swap {x o : Oper} {r : List Oper} {T : Env} {H : Heap} (ha : x.apart ops o = true) (hc : compat x o = true) (h : Plan P N L ops Q (x :: o :: r) T H) : Plan P N L ops Q (o :: x :: r) T H := by
  obtain ⟨h1, h2, h3⟩ := Oper.apart_spec ha
  have r1 : ∀ v, restr (put x.dst v T) (o.looksAt ops) = restr T (o.looksAt ops) := fun v => restr_put h1
  have r2 : ∀ v, restr (put o.dst v T) (x.looksAt ops) = restr T (x.looksAt ops) := fun v => restr_put h3
  have sw : ∀ u v t, get (put o.dst v (put x.dst u T)) t = get (put x.dst u (put o.dst v T)) t := fun u v t => put_swap h2 t
  obtain ⟨hd, h⟩ := h
  have hcx : cls x = 2 → cls o = 0 := by
    intro h; unfold compat at hc; rw [h] at hc
    match ho : cls o with
    | 0 => rfl
    | 1 => rw [ho] at hc; cases hc
    | 2 => rw [ho] at hc; cases hc
    | n + 3 => rw [ho] at hc; cases hc
  have hco : cls o = 2 → cls x = 0 := by
    intro h; unfold compat at hc; rw [h] at hc
    match ho : cls x with
    | 0 => rfl
    | 1 => rw [ho] at hc; cases hc
    | 2 => rw [ho] at hc; cases hc
    | n + 3 => rw [ho] at hc; cases hc
  rcases h with ⟨w1, u, e1, hd2, h⟩ | ⟨w1, hd2, h⟩ | ⟨c1, w1, u, e1, hd2, h⟩ | ⟨c1, w1, R, e1, h⟩
  · rw [r1 u] at h
    rcases h with ⟨w2, v, e2, k⟩ | ⟨w2, k⟩ | ⟨c2, w2, v, e2, k⟩ | ⟨c2, w2, R, e2, k⟩
    · exact ⟨hd2, .inl ⟨w2, v, e2, hd, .inl ⟨by rw [r2]; exact w1, u, by rw [r2]; exact e1, k.cong (sw u v)⟩⟩⟩
    · exact ⟨hd2, .inr (.inl ⟨w2, hd, .inl ⟨by rw [r2]; exact w1, u, by rw [r2]; exact e1, k.cong (sw u _)⟩⟩)⟩
    · exact ⟨hd2, .inr (.inr (.inl ⟨c2, w2, v, e2, hd, .inl ⟨by rw [r2]; exact w1, u, by rw [r2]; exact e1, k.cong (sw u v)⟩⟩))⟩
    · exact ⟨hd2, .inr (.inr (.inr ⟨c2, w2, R, e2, fun v H' hR => ⟨hd, .inl ⟨by rw [r2]; exact w1, u, by rw [r2]; exact e1, (k v H' hR).cong (sw u v)⟩⟩⟩))⟩
  · rw [r1] at h
    rcases h with ⟨w2, v, e2, k⟩ | ⟨w2, k⟩ | ⟨c2, w2, v, e2, k⟩ | ⟨c2, w2, R, e2, k⟩
    · exact ⟨hd2, .inl ⟨w2, v, e2, hd, .inr (.inl ⟨by rw [r2]; exact w1, k.cong (sw _ v)⟩)⟩⟩
    · exact ⟨hd2, .inr (.inl ⟨w2, hd, .inr (.inl ⟨by rw [r2]; exact w1, k.cong (sw _ _)⟩)⟩)⟩
    · exact ⟨hd2, .inr (.inr (.inl ⟨c2, w2, v, e2, hd, .inr (.inl ⟨by rw [r2]; exact w1, k.cong (sw _ v)⟩)⟩))⟩
    · exact ⟨hd2, .inr (.inr (.inr ⟨c2, w2, R, e2, fun v H' hR => ⟨hd, .inr (.inl ⟨by rw [r2]; exact w1, (k v H' hR).cong (sw _ v)⟩)⟩⟩))⟩
  · rw [r1 u] at h
    rcases h with ⟨w2, v, e2, k⟩ | ⟨w2, k⟩ | ⟨c2, w2, v, e2, k⟩ | ⟨c2, w2, R, e2, k⟩
    · exact ⟨hd2, .inl ⟨w2, v, e2, hd, .inr (.inr (.inl ⟨c1, by rw [r2]; exact w1, u, by rw [r2]; exact e1, k.cong (sw u v)⟩))⟩⟩
    · exact ⟨hd2, .inr (.inl ⟨w2, hd, .inr (.inr (.inl ⟨c1, by rw [r2]; exact w1, u, by rw [r2]; exact e1, k.cong (sw u _)⟩))⟩)⟩
    · exact ⟨hd2, .inr (.inr (.inl ⟨c2, w2, v, e2, hd, .inr (.inr (.inl ⟨c1, by rw [r2]; exact w1, u, by rw [r2]; exact e1, k.cong (sw u v)⟩))⟩))⟩
    · exact absurd (hco c2) c1
  · have ho := hcx c1
    -- what follows is pure: its value hangs on its own operands alone
    have key : ∀ v H', R v H' → (wantA ops (restr T (o.looksAt ops)) o = some true ∧ ∃ u, sOp L (restr T (o.looksAt ops)) o.op = some u ∧ Plan P N L ops Q r (put o.dst u (put x.dst v T)) H') ∨
        (wantA ops (restr T (o.looksAt ops)) o = some false ∧ Plan P N L ops Q r (put o.dst (.tup []) (put x.dst v T)) H') := by
      intro v H' hR
      obtain ⟨_, k⟩ := h v H' hR
      rw [r1 v] at k
      rcases k with k | k | ⟨c2, _⟩ | ⟨c2, _⟩
      · exact .inl k
      · exact .inr k
      · exact absurd ho c2
      · rw [ho] at c2; cases c2
    obtain ⟨⟨v0, H0, hR0⟩, e1'⟩ := e1
    have hdo := (h v0 H0 hR0).1
    rcases key v0 H0 hR0 with ⟨w2, u, e2, _⟩ | ⟨w2, _⟩
    · refine ⟨hdo, .inl ⟨w2, u, e2, hd, .inr (.inr (.inr ⟨c1, by rw [r2]; exact w1, R, ⟨⟨v0, H0, hR0⟩, by rw [r2]; exact e1'⟩, fun v H' hR => ?_⟩))⟩⟩
      rcases key v H' hR with ⟨_, u', e2', k⟩ | ⟨w2', _⟩
      · rw [e2] at e2'; cases e2'
        exact k.cong (sw v u)
      · rw [w2] at w2'; cases w2'
    · refine ⟨hdo, .inr (.inl ⟨w2, hd, .inr (.inr (.inr ⟨c1, by rw [r2]; exact w1, R, ⟨⟨v0, H0, hR0⟩, by rw [r2]; exact e1'⟩, fun v H' hR => ?_⟩))⟩)⟩
      rcases key v H' hR with ⟨w2', _⟩ | ⟨_, k⟩
      · rw [w2] at w2'; cases w2'
      · exact k.cong (sw v _)
theorem Plan.first {o : Oper} : ∀ {l1 l2 : List Oper} {T : Env} {H : Heap}, (∀ x ∈ l1, x.apart ops o = true ∧ compat x o = true) → Plan P N L ops Q (l1 ++ o :: l2) T H → Plan P N L ops Q (o :: (l1 ++ l2)) T H
  | [], l2, T, H, _, h => h
  | x :: l1, l2, T, H, hc, h => by
    refine Plan.swap (hc x List.mem_cons_self).1 (hc x List.mem_cons_self).2 ?_
    have hc' : ∀ y ∈ l1, y.apart ops o = true ∧ compat y o = true := fun y hy => hc y (List.mem_cons_of_mem _ hy)
    obtain ⟨hd, h⟩ := h
    refine ⟨hd, ?_⟩
    rcases h with ⟨h1, v, h2, h3⟩ | ⟨h1, h3⟩ | ⟨h0, h1, v, h2, h3⟩ | ⟨h0, h1, R, h2, h3⟩
    · exact .inl ⟨h1, v, h2, Plan.first hc' h3⟩
    · exact .inr (.inl ⟨h1, Plan.first hc' h3⟩)
    · exact .inr (.inr (.inl ⟨h0, h1, v, h2, Plan.first hc' h3⟩))
    · exact .inr (.inr (.inr ⟨h0, h1, R, h2, fun v H' hR => Plan.first hc' (h3 v H' hR)⟩))

theorem wp_both {o : Oper} {a : Act} {w : World} {K K' : Act → World → Prop} {Q Q' : Exit → Act → World → Prop} (hQ : ∀ e a w, e ≠ .normal → Q e a w → Q' e a w) (hK : ∀ v w', K (a.put o.dst v) w' → K' (a.put o.dst v) w') (hdf : ∀ d w', ¬ K ({ a with defers := d :: a.defers }.put o.dst undef) w')
    (h : o.wp P a w K Q) : o.wp P a w K' Q' := by
  unfold Oper.wp Oper.upon at *
  split at h
  · exact hK _ _ h
  · exact hK _ _ h
  · exact (hdf _ _ h).elim
  · refine h.mono fun e w' => ?_
    cases e with
    | returned v => exact hK _ _
    | panicked c => exact hQ _ _ _ (by simp)
    | outgrown => exact fun ⟨a₀, w₀, h⟩ => ⟨a₀, w₀, hQ _ _ _ (by simp) h⟩
  · exact h.mono fun v w' => hK _ _
  · exact hQ _ _ _ (by simp) h
  · exact h.elim
/-- One step, out of its order. -/
theorem AOp.node {o : Oper} {ts : List Nat} {T : Env} {H : Heap} {R : A → Heap → Prop} {Q' : Exit → Act → World → Prop} {K : Act → World → Prop} {fr : Nat → Prop} {w : World} {a : Act} (h : AOp P N [] o [] (Qn o (restr T ts) R) (restr T ts) H) (hd : dstOk N o.dst = true)
    (s : Sim fr H w) (st : St N w (own fr H) T a) (k : ∀ v H' w' v', R v H' → Sim fr H' w' → St N w' (own fr H') (put o.dst v T) (a.put o.dst v') → Ext H w H' w' → K (a.put o.dst v') w') : o.wp P a w K Q' := by
  have h0 := h.out fr w a s (st.sub (restr_sub T ts))
  refine wp_both (fun e a' w' he hq => ?_) (fun v w' hk => ?_) (fun d w' hk => ?_) h0
  · obtain ⟨T', H', q, _⟩ := hq
    cases e <;> first | exact absurd rfl he | exact q.elim
  · obtain ⟨T', H', ⟨u, hR, rfl⟩, s', st', x⟩ := hk
    refine k u H' w' v hR s' ⟨st'.size, st'.defers, fun t y hy => ?_⟩ x
    by_cases hdt : o.dst = some t
    · rw [hdt, get_putS] at hy
      cases hy
      exact st'.at_ t _ (by rw [hdt, get_putS])
    · rw [get_putO hdt] at hy
      obtain ⟨z, hz, hr⟩ := st.at_ t y hy
      refine ⟨z, ?_, hr.mono x.stays⟩
      cases hdo : o.dst with
      | none => exact hz
      | some d => simp only [Act.put]; rw [Array.getElem?_setIfInBounds_ne (fun e => hdt (by rw [hdo, e]))]; exact hz
  · obtain ⟨T', H', _, _, st', _⟩ := hk
    have := st'.defers
    cases hdo : o.dst <;> rw [hdo] at this <;> simp [Act.put] at this
theorem wpOp_mono2 {i : Nat} {a : Act} {w : World} {K K' : Act → World → Prop} {Q Q' : Exit → Act → World → Prop} (hQ : ∀ e a w, Q e a w → Q' e a w) (hK : ∀ a w, K a w → K' a w) (h : wpOp P ops Q i K a w) : wpOp P ops Q' i K' a w := by
  unfold wpOp at *
  split
  · rename_i hn; rw [hn] at h; exact hK _ _ h
  · rename_i o ho
    rw [ho] at h
    simp only at h
    split
    · rename_i hw
      rw [if_pos hw] at h
      rcases h with h | ⟨h1, a₀, w₀, h2⟩
      · refine .inl ?_
        unfold Oper.wp Oper.upon at *
        split at h
        · exact hK _ _ h
        · exact hK _ _ h
        · exact hK _ _ h
        · refine h.mono fun e w' => ?_
          cases e with
          | returned v => exact hK _ _
          | panicked c => exact hQ _ _ _
          | outgrown => exact fun ⟨a₀, w₀, h⟩ => ⟨a₀, w₀, hQ _ _ _ h⟩
        · exact h.mono fun v w' => hK _ _
        · exact hQ _ _ _ h
        · exact h.elim
      · exact .inr ⟨h1, a₀, w₀, hQ _ _ _ h2⟩
    · rename_i hw
      rw [if_neg hw] at h
      exact hK _ _ h
theorem wpAny_mono2 {md : Region.Mode} {Q Q' : Exit → Act → World → Prop} (hQ : ∀ e a w, Q e a w → Q' e a w) : ∀ (fuel : Nat) (listed : Array Bool) (a : Act) (w : World), wpAny P md ops Q fuel listed a w → wpAny P md ops Q' fuel listed a w
  | 0, _, _, _, ⟨h1, h2⟩ => ⟨h1, hQ _ _ _ h2⟩
  | fuel + 1, listed, a, w, ⟨h1, h2⟩ => ⟨fun h => hQ _ _ _ (h1 h), fun i hi => wpOp_mono2 hQ (fun a w => wpAny_mono2 hQ fuel _ a w) (h2 i hi)⟩

/-! The check tells what stands before. -/
def Anc (ops : List Oper) (i j : Nat) : Prop := ∀ listed : Array Bool, (∀ k o, ops[k]? = some o → listed.getD k false = true → ∀ e ∈ o.after.toList, Region.binds .any e = true → listed.getD e.on false = true) →
  (∀ o, ops[i]? = some o → ∀ e ∈ o.after.toList, Region.binds .any e = true → listed.getD e.on false = true) → listed.getD j false = true
theorem anc_spec (ops : List Oper) : (anc ops).length = ops.length ∧ ∀ (i j : Nat), ((anc ops).getD i 0).testBit j = true → Anc ops i j := by
  have key : ∀ (l done : List Oper) (acc : List Nat), done ++ l = ops → acc.length = done.length → (∀ (i j : Nat), (acc.getD i 0).testBit j = true → Anc ops i j) →
      let r := l.foldl (fun acc o => acc ++ [o.after.toList.foldl (fun s e => match Region.binds .any e with | true => s ||| 2 ^ e.on ||| acc.getD e.on 0 | false => s) 0]) acc
      r.length = ops.length ∧ ∀ (i j : Nat), (r.getD i 0).testBit j = true → Anc ops i j := by
    intro l
    induction l with
    | nil => intro done acc h1 h2 h3; exact ⟨by simp only [List.foldl_nil]; rw [← h1, h2]; simp, h3⟩
    | cons o l ih =>
      intro done acc h1 h2 h3
      refine ih (done ++ [o]) _ (by simpa using h1) (by simp [h2]) ?_
      have ho : ops[done.length]? = some o := by rw [← h1]; simp
      intro i j hij
      by_cases hi : i < acc.length
      · refine h3 i j ?_
        rw [List.getD_eq_getElem?_getD, List.getElem?_append_left hi] at hij
        rw [List.getD_eq_getElem?_getD]; exact hij
      · by_cases hi2 : i = acc.length
        · subst hi2
          rw [List.getD_eq_getElem?_getD, List.getElem?_append_right (Nat.le_refl _)] at hij
          simp only [Nat.sub_self, List.getElem?_cons_zero, Option.getD_some] at hij
          rw [h2]
          -- the fold over the edges
          have fold : ∀ (es : List Edge) (s : Nat), (∀ j, s.testBit j = true → Anc ops done.length j) → (∀ e ∈ es, e ∈ o.after.toList) → ∀ j, (es.foldl (fun s e => match Region.binds .any e with | true => s ||| 2 ^ e.on ||| acc.getD e.on 0 | false => s) s).testBit j = true → Anc ops done.length j := by
            intro es
            induction es with
            | nil => intro s hs _ j hj; exact hs j hj
            | cons e es ih2 =>
              intro s hs hes j hj
              simp only [List.foldl_cons] at hj
              refine ih2 _ ?_ (fun e' he' => hes e' (List.mem_cons_of_mem _ he')) j hj
              intro j' hj'
              split at hj'
              · rename_i hb
                rw [Nat.testBit_or, Nat.testBit_or, Bool.or_eq_true, Bool.or_eq_true] at hj'
                rcases hj' with (hj' | hj') | hj'
                · exact hs j' hj'
                · rw [Nat.testBit_two_pow] at hj'
                  have hj' := of_decide_eq_true hj'
                  subst hj'
                  intro listed _ h5
                  exact h5 o ho e (hes e List.mem_cons_self) hb
                · intro listed h4 h5
                  have h6 := h5 o ho e (hes e List.mem_cons_self) hb
                  exact h3 e.on j' hj' listed h4 (fun o' ho' e' he' hb' => h4 e.on o' ho' h6 e' he' hb')
              · exact hs j' hj'
          exact fold o.after.toList 0 (fun j hj => by simp at hj) (fun e he => he) j hij
        · rw [List.getD_eq_getElem?_getD, List.getElem?_eq_none (by simp; omega)] at hij
          simp at hij
  have := key ops [] [] rfl rfl (fun i j h => by simp at h)
  exact this

/-- What is not yet listed, from place k on. -/
def unl (listed : Array Bool) : Nat → List Oper → List Oper
  | _, [] => []
  | k, o :: l => if listed.getD k true then unl listed (k + 1) l else o :: unl listed (k + 1) l
theorem unl_split {listed : Array Bool} : ∀ {l : List Oper} {k i : Nat} {o : Oper}, l[i]? = some o → listed.getD (k + i) true = false → k + i < listed.size →
    ∃ l1 l2, unl listed k l = l1 ++ o :: l2 ∧ unl (listed.setIfInBounds (k + i) true) k l = l1 ++ l2 ∧ (∀ x ∈ l1, ∃ j, j < i ∧ l[j]? = some x ∧ listed.getD (k + j) true = false)
  | [], k, i, o, h, _, _ => by simp at h
  | y :: l, k, 0, o, h, hn, hs => by
    simp only [List.getElem?_cons_zero, Option.some.injEq] at h
    subst h
    have same : ∀ (l : List Oper) (m : Nat), k < m → unl (listed.setIfInBounds k true) m l = unl listed m l := by
      intro l
      induction l with
      | nil => intros; rfl
      | cons z l ih =>
        intro m hm
        simp only [unl]
        rw [getD_set_ne true (by omega), ih (m + 1) (by omega)]
    refine ⟨[], unl listed (k + 1) l, ?_, ?_, fun x hx => by simp at hx⟩
    · simp only [unl, Nat.add_zero] at hn ⊢
      rw [hn]; rfl
    · simp only [unl, Nat.add_zero] at hs ⊢
      have : (listed.setIfInBounds k true).getD k true = true := by simp [hs]
      rw [this, if_pos rfl, same l (k + 1) (by omega)]; rfl
  | y :: l, k, i + 1, o, h, hn, hs => by
    have e : k + (i + 1) = (k + 1) + i := by omega
    rw [e] at hn hs ⊢
    obtain ⟨l1, l2, h1, h2, h3⟩ := unl_split (l := l) (k := k + 1) (i := i) (o := o) (by simpa using h) hn hs
    have hk : (listed.setIfInBounds (k + 1 + i) true).getD k true = listed.getD k true := getD_set_ne true (by omega)
    by_cases hy : listed.getD k true = true
    · refine ⟨l1, l2, by simp only [unl]; rw [if_pos hy]; exact h1, by simp only [unl]; rw [hk, if_pos hy]; exact h2, fun x hx => ?_⟩
      obtain ⟨j, h4, h5, h6⟩ := h3 x hx
      exact ⟨j + 1, by omega, by simpa using h5, by rw [show k + (j + 1) = k + 1 + j by omega]; exact h6⟩
    · have hy' : listed.getD k true = false := by simpa using hy
      refine ⟨y :: l1, l2, by simp only [unl]; rw [if_neg hy, h1]; rfl, by simp only [unl]; rw [hk, if_neg hy, h2]; rfl, fun x hx => ?_⟩
      rcases List.mem_cons.1 hx with rfl | hx
      · exact ⟨0, by omega, rfl, hy'⟩
      · obtain ⟨j, h4, h5, h6⟩ := h3 x hx
        exact ⟨j + 1, by omega, by simpa using h5, by rw [show k + (j + 1) = k + 1 + j by omega]; exact h6⟩
theorem unl_first {listed : Array Bool} : ∀ {l : List Oper} {k : Nat}, unl listed k l ≠ [] → ∃ i o, l[i]? = some o ∧ listed.getD (k + i) true = false ∧ ∀ j, j < i → listed.getD (k + j) true = true
  | [], k, h => absurd rfl h
  | y :: l, k, h => by
    by_cases hy : listed.getD k true = true
    · simp only [unl] at h
      rw [if_pos hy] at h
      obtain ⟨i, o, h1, h2, h3⟩ := unl_first h
      refine ⟨i + 1, o, by simpa using h1, by rw [show k + (i + 1) = k + 1 + i by omega]; exact h2, fun j hj => ?_⟩
      cases j with
      | zero => exact hy
      | succ j => rw [show k + (j + 1) = k + 1 + j by omega]; exact h3 j (by omega)
    · exact ⟨0, y, rfl, by simpa using hy, fun j hj => by omega⟩
theorem getD_both {listed : Array Bool} {i : Nat} (h : i < listed.size) : listed.getD i true = listed.getD i false := by simp [Array.getD, h]
end
theorem chk_spec {ops : List Oper} (h : chk ops = true) : ∀ (i : Nat) (o : Oper), ops[i]? = some o → (∀ e ∈ o.after.toList, Region.binds .any e = true → e.on < i) ∧
    ∀ (j : Nat) (x : Oper), j < i → ops[j]? = some x → ((anc ops).getD i 0).testBit j = true ∨ (x.apart ops.toArray o = true ∧ compat x o = true) := by
  simp only [chk, Bool.and_eq_true, List.all_eq_true] at h
  intro i o ho
  have h1 := h.2 (o, i) (List.mem_zipIdx_iff_getElem?.2 ho)
  refine ⟨fun e he hb => ?_, fun j x hj hx => ?_⟩
  · have := h1.1 e he
    rw [hb] at this
    simpa [Nat.blt_eq] using this
  · have h2 := h1.2 (x, j) (List.mem_zipIdx_iff_getElem?.2 (by simp only; rw [List.getElem?_take, if_pos hj]; exact hx))
    rw [Bool.or_eq_true, Bool.and_eq_true] at h2
    exact h2
theorem Plan.any {P : Program} {N : Nat} {L : Lay} {ops : List Oper} {Q0 : Exit → Env → Heap → Prop} (hL : LayOk P L) (hc : chk ops = true) : ∀ (fuel : Nat) (listed : Array Bool) (T : Env) (H : Heap), listed.size = ops.length →
    (∀ k o, ops[k]? = some o → listed.getD k false = true → ∀ e ∈ o.after.toList, Region.binds .any e = true → listed.getD e.on false = true) → (unl listed 0 ops).length ≤ fuel → Plan P N L ops.toArray (Q0 .normal) (unl listed 0 ops) T H →
    ∀ (fr : Nat → Prop) (w : World) (a : Act), Sim fr H w → St N w (own fr H) T a → wpAny P .any ops.toArray (Post N fr H w Q0) fuel listed a w := by
  intro fuel
  -- nothing is ready only if all is listed
  have done : ∀ (listed : Array Bool) (T : Env) (H : Heap), listed.size = ops.length → Region.ready .any ops.toArray listed = [] → Plan P N L ops.toArray (Q0 .normal) (unl listed 0 ops) T H →
      ∀ (fr : Nat → Prop) (w : World) (a : Act), Sim fr H w → St N w (own fr H) T a → Post N fr H w Q0 .normal a w := by
    intro listed T H hs hr hp fr w a s st
    have hnil : unl listed 0 ops = [] := by
      apply Classical.byContradiction
      intro hne
      obtain ⟨i, o, h1, h2, h3⟩ := unl_first hne
      rw [Nat.zero_add] at h2
      have : i ∈ Region.ready .any ops.toArray listed := mem_ready.2 ⟨h2, o, by simpa using h1, fun e he hb => by
        have hlt := (chk_spec hc i o h1).1 e (by simpa using he) hb
        have := h3 e.on hlt
        rw [Nat.zero_add] at this
        have hi := (List.getElem?_eq_some_iff.1 h1).1
        rw [← getD_both (by omega)]; exact this⟩
      rw [hr] at this; cases this
    rw [hnil] at hp
    obtain ⟨T0, h1, h2⟩ := hp
    exact ⟨T0, H, h2, s, st.sub h1, Ext.refl H w⟩
  induction fuel with
  | zero =>
    intro listed T H hs hcl hf hp fr w a s st
    have hnil : unl listed 0 ops = [] := List.eq_nil_of_length_eq_zero (by omega)
    have hr : Region.ready .any ops.toArray listed = [] := by
      apply Classical.byContradiction
      intro hne
      obtain ⟨i, hi⟩ := List.exists_mem_of_ne_nil _ hne
      obtain ⟨h0, o, ho, _⟩ := mem_ready.1 hi
      have ho' : ops[i]? = some o := by simpa using ho
      have hlt := (List.getElem?_eq_some_iff.1 ho').1
      obtain ⟨l1, l2, h1, _⟩ := unl_split (k := 0) ho' (by rw [Nat.zero_add]; exact h0) (by omega)
      rw [hnil] at h1; simp at h1
    exact ⟨hr, done listed T H hs hr hp fr w a s st⟩
  | succ fuel ih =>
    intro listed T H hs hcl hf hp fr w a s st
    refine ⟨fun hr => done listed T H hs hr hp fr w a s st, fun i hi => ?_⟩
    obtain ⟨h0, o, ho, hedge⟩ := mem_ready.1 hi
    have ho' : ops[i]? = some o := by simpa using ho
    have hlt := (List.getElem?_eq_some_iff.1 ho').1
    obtain ⟨l1, l2, h1, h2, h3⟩ := unl_split (k := 0) ho' (by rw [Nat.zero_add]; exact h0) (by omega)
    rw [Nat.zero_add] at h2
    rw [h1] at hp hf
    have hp := Plan.first (fun x hx => by
      obtain ⟨j, hj, hxj, hjl⟩ := h3 x hx
      rw [Nat.zero_add] at hjl
      rcases (chk_spec hc i o ho').2 j x hj hxj with hb | hb
      · have := (anc_spec ops).2 i j hb listed hcl (fun o2 ho2 e he hb => by
          rw [ho'] at ho2; cases ho2
          exact hedge e (by simpa using he) hb)
        rw [← getD_both (by omega), hjl] at this; cases this
      · exact hb) hp
    rw [← h2] at hp
    have hs' : (listed.setIfInBounds i true).size = ops.length := by simpa using hs
    have hcl' : ∀ k o, ops[k]? = some o → (listed.setIfInBounds i true).getD k false = true → ∀ e ∈ o.after.toList, Region.binds .any e = true → (listed.setIfInBounds i true).getD e.on false = true := by
      intro k o2 ho2 hk e he hb
      refine getD_set_true ?_
      by_cases hki : k = i
      · subst hki
        rw [ho'] at ho2; cases ho2
        exact hedge e (by simpa using he) hb
      · rw [getD_set_ne false (Ne.symm hki)] at hk
        exact hcl k o2 ho2 hk e he hb
    have hf' : (unl (listed.setIfInBounds i true) 0 ops).length ≤ fuel := by
      rw [h2]; simp only [List.length_append, List.length_cons] at hf ⊢; omega
    have hlook : ∀ c, wantA ops.toArray (restr T (o.looksAt ops.toArray)) o = some c → Region.wanted o (yielded ops.toArray a.tmps) = c := fun c h => wantA_ok (st.sub (restr_sub T _)) h
    obtain ⟨hd, hp⟩ := hp
    unfold wpOp
    rw [ho]
    simp only
    have next : ∀ v H' w' v', Sim fr H' w' → St N w' (own fr H') (put o.dst v T) (a.put o.dst v') → Ext H w H' w' → Plan P N L ops.toArray (Q0 .normal) (unl (listed.setIfInBounds i true) 0 ops) (put o.dst v T) H' →
        wpAny P .any ops.toArray (Post N fr H w Q0) fuel (listed.setIfInBounds i true) (a.put o.dst v') w' := fun v H' w' v' s' st' x hp' =>
      wpAny_mono2 (fun _ _ _ => Post.of_ext x) _ _ _ _ (ih _ _ _ hs' hcl' hf' hp' fr w' _ s' st')
    rcases hp with ⟨w1, v, e1, hp⟩ | ⟨w1, hp⟩ | ⟨_, w1, v, e1, hp⟩ | ⟨_, w1, R, ⟨_, e1⟩, hp⟩
    · rw [hlook _ w1, if_pos rfl]
      refine .inl (AOp.node (R := fun r H' => r = v ∧ H' = H) (AOp.simple hL e1 hd (AOps.nil ⟨v, ⟨rfl, rfl⟩, rfl⟩)) hd s st ?_)
      rintro u H' w' v' ⟨rfl, rfl⟩ s' st' x
      exact next _ _ w' v' s' st' x hp
    · rw [hlook _ w1, if_neg (by simp)]
      exact next _ _ w undef s (st.put hd (Rep.tup_of .nil)) (Ext.refl H w) hp
    · rw [hlook _ w1, if_pos rfl]
      refine .inl (AOp.node e1 hd s st ?_)
      rintro u H' w' v' ⟨rfl, rfl⟩ s' st' x
      exact next _ _ w' v' s' st' x hp
    · rw [hlook _ w1, if_pos rfl]
      refine .inl (AOp.node e1 hd s st ?_)
      intro u H' w' v' hR s' st' x
      exact next _ _ w' v' s' st' x (hp u H' hR)
/-- A region that draws its order: walked in the text's order. -/
theorem AWp.draw {P : Program} {N : Nat} {L : Lay} {ops : List Oper} {Q : Exit → Env → Heap → Prop} {T : Env} {H : Heap} {id : Nat} (hL : LayOk P L) (hm : P.follows .mixedOrders = true) (hc : chk ops = true) (h : Plan P N L ops.toArray (Q .normal) ops T H) :
    AWp P N (.region id ops.toArray true) Q T H := by
  refine ⟨fun fr w a s st => wp_region_any hm ?_⟩
  have hun : ∀ (l : List Oper) (k n : Nat), k + l.length ≤ n → unl (Array.replicate n false) k l = l := by
    intro l
    induction l with
    | nil => intros; rfl
    | cons o l ih =>
      intro k n hk
      simp only [List.length_cons] at hk
      simp only [unl]
      rw [if_neg (by simp [Array.getD, show k < n by omega]), ih (k + 1) n (by omega)]
  have h0 := Plan.any (Q0 := Q) hL hc ops.toArray.size (Array.replicate ops.toArray.size false) T H (by simp) (fun k o _ hk => by simp [Array.getD] at hk) (by rw [hun _ _ _ (by simp)]; simp) (by rw [hun _ _ _ (by simp)]; exact h)
    fr w.drew a s.drew (st.mono (Ext.drew H w).stays)
  exact wpAny_mono2 (fun _ _ _ => Post.of_ext (Ext.drew H w)) _ _ _ _ h0

/-! Its steps. -/
section
variable {P : Program} {N : Nat} {L : Lay} {ops : Array Oper} {Q : Env → Heap → Prop} {o : Oper} {rest : List Oper} {T : Env} {H : Heap}
theorem Plan.nil (h : Q T H) : Plan P N L ops Q [] T H := ⟨T, fun _ _ h => h, h⟩
theorem Plan.pure {v : A} (hd : dstOk N o.dst = true) (hw : wantA ops (restr T (o.looksAt ops)) o = some true) (hv : sOp L (restr T (o.looksAt ops)) o.op = some v) (k : Plan P N L ops Q rest (put o.dst v T) H) : Plan P N L ops Q (o :: rest) T H := ⟨hd, .inl ⟨hw, v, hv, k⟩⟩
theorem Plan.skip (hd : dstOk N o.dst = true) (hw : wantA ops (restr T (o.looksAt ops)) o = some false) (k : Plan P N L ops Q rest (put o.dst (.tup []) T) H) : Plan P N L ops Q (o :: rest) T H := ⟨hd, .inr (.inl ⟨hw, k⟩)⟩
theorem Plan.quiet {v : A} (hd : dstOk N o.dst = true) (hw : wantA ops (restr T (o.looksAt ops)) o = some true) (hcl : Nat.beq (cls o) 0 = false) (h : AOp P N [] o [] (Qn o (restr T (o.looksAt ops)) fun r H' => r = v ∧ H' = H) (restr T (o.looksAt ops)) H)
    (k : Plan P N L ops Q rest (put o.dst v T) H) : Plan P N L ops Q (o :: rest) T H := ⟨hd, .inr (.inr (.inl ⟨(fun e => by rw [e] at hcl; cases hcl), hw, v, h, k⟩))⟩
theorem Plan.eff {R : A → Heap → Prop} (hd : dstOk N o.dst = true) (hw : wantA ops (restr T (o.looksAt ops)) o = some true) (hcl : cls o = 2) (hne : ∃ v H', R v H') (h : AOp P N [] o [] (Qn o (restr T (o.looksAt ops)) R) (restr T (o.looksAt ops)) H)
    (k : ∀ v H', R v H' → Plan P N L ops Q rest (put o.dst v T) H') : Plan P N L ops Q (o :: rest) T H := ⟨hd, .inr (.inr (.inr ⟨hcl, hw, R, ⟨hne, h⟩, k⟩))⟩
theorem Plan.eff1 {v : A} {H1 : Heap} (hd : dstOk N o.dst = true) (hw : wantA ops (restr T (o.looksAt ops)) o = some true) (hcl : cls o = 2) (h : AOp P N [] o [] (Qn o (restr T (o.looksAt ops)) fun r H' => r = v ∧ H' = H1) (restr T (o.looksAt ops)) H)
    (k : Plan P N L ops Q rest (put o.dst v T) H1) : Plan P N L ops Q (o :: rest) T H := Plan.eff hd hw hcl ⟨v, H1, rfl, rfl⟩ h fun _ _ ⟨h1, h2⟩ => by subst h1; subst h2; exact k
theorem Plan.effN {f : Nat → A} {g : Nat → Heap} {Hx : Heap} (hd : dstOk N o.dst = true) (hw : wantA ops (restr T (o.looksAt ops)) o = some true) (hcl : cls o = 2)
    (h : AOp P N [] o [] (Qn o (restr T (o.looksAt ops)) fun v H' => ∃ r, r ∉ keys Hx ∧ v = f r ∧ H' = g r) (restr T (o.looksAt ops)) H)
    (k : ∀ r, r ∉ keys Hx → Plan P N L ops Q rest (put o.dst (f r) T) (g r)) : Plan P N L ops Q (o :: rest) T H :=
  Plan.eff hd hw hcl (by
    have key : ∃ r, r ∉ keys Hx := by
      refine ⟨(keys Hx).foldl max 0 + 1, fun h => ?_⟩
      have key : ∀ (l : List Nat) (m : Nat), m ≤ l.foldl max m ∧ ∀ x ∈ l, x ≤ l.foldl max m := by
        intro l
        induction l with
        | nil => intro m; exact ⟨Nat.le_refl _, fun x hx => by cases hx⟩
        | cons y l ih =>
          intro m
          obtain ⟨h1, h2⟩ := ih (max m y)
          simp only [List.foldl_cons]
          refine ⟨by omega, fun x hx => ?_⟩
          rcases List.mem_cons.1 hx with rfl | hx
          · omega
          · exact h2 x hx
      have := (key (keys Hx) 0).2 _ h
      omega
    obtain ⟨r, hr⟩ := key
    exact ⟨f r, g r, r, hr, rfl, rfl⟩) h fun _ _ ⟨r, hr, h1, h2⟩ => by subst h1; subst h2; exact k r hr
/-- The guard's bool is not known: both ways. -/
theorem Plan.boolCase {t : Nat} {b : Bool} (ht : get T t = some (.bool b)) (h1 : b = true → Plan P N L ops Q rest ((t, .bool true) :: T) H) (h2 : b = false → Plan P N L ops Q rest ((t, .bool false) :: T) H) : Plan P N L ops Q rest T H := by
  have hcong : ∀ b', b = b' → ∀ u, get ((t, .bool b') :: T) u = get T u := by
    intro b' hb u
    rw [get_put]
    split
    · rename_i htu; subst htu; rw [ht, hb]
    · rfl
  cases b with
  | true => exact (h1 rfl).cong (hcong _ rfl)
  | false => exact (h2 rfl).cong (hcong _ rfl)
theorem Plan.guardCase {j d : Nat} {b b' : Bool} (hg : o.guard = some (j, b)) (hd : (ops[j]?).bind (·.dst) = some d) (ht : get T d = some (.bool b')) (h1 : b' = true → Plan P N L ops Q (o :: rest) ((d, .bool true) :: T) H)
    (h2 : b' = false → Plan P N L ops Q (o :: rest) ((d, .bool false) :: T) H) : Plan P N L ops Q (o :: rest) T H := Plan.boolCase ht h1 h2
theorem Qn_n {R : A → Heap → Prop} {v : A} (h : R v H) : Qn o T R .normal (put o.dst v T) H := ⟨v, h, rfl⟩
end
theorem AOps.gate {P : Program} {N : Nat} {ops rest : List Oper} {Q : Exit → Env → Heap → Prop} {T : Env} {H : Heap} (h : AOps P N ops rest Q T H) : AOps P N ops rest Q T H := h
theorem AWp.gate {P : Program} {N : Nat} {c : Code} {Q : Exit → Env → Heap → Prop} {T : Env} {H : Heap} (h : AWp P N c Q T H) : AWp P N c Q T H := h
theorem Plan.gate {P : Program} {N : Nat} {L : Lay} {ops : Array Oper} {Q : Env → Heap → Prop} {l : List Oper} {T : Env} {H : Heap} (h : Plan P N L ops Q l T H) : Plan P N L ops Q l T H := h
end Go.Abs

namespace Go.Abs
open Go
set_option linter.unusedVariables false
section
variable {P : Program} {N : Nat} {Q : Exit → Env → Heap → Prop} {T : Env} {H : Heap} {L : Lay}

theorem ResOk.cell {fn : Func} {t ty : Nat} {r Te sz i o : Nat} {elems : List (List A)} {e : List A} {ti : TI} {v : A} (hL : LayOk P L) (h : fn.results = #[.cell t ty]) (hx : get T t = some (.ptr r sz i o)) (hm : (r, Blk.row Te sz elems) ∈ H)
    (he : elems[i]? = some e) (ht : lay L ty = some ti) (hv : loadA ti e o = some v) : ResOk P fn N T H v := fun fr w a s st => by
  have hu := getD_of_get st hx
  generalize h1 : a.tmps.getD t undef = u at hu
  cases hu
  obtain ⟨vs, h2, h3, _, _⟩ := s.elem hm he
  obtain ⟨z, hz, hr⟩ := loadVar_run (hL _ _ ht) h2 (h3.drop o) hv
  rw [add_plain] at hz
  refine ⟨z, ?_, hr⟩
  have h1' : a.tmps[t]?.getD undef = .pointer (some { block := r, off := i * sz + o }) := by rw [← h1]; simp
  simp [results, h, asAddr, h1', hz]

/-- The next round; the newest n blocks are left behind. -/
theorem AIn.dropL {c : Code} : ∀ (G : Heap), AIn P N c Q T H → AIn P N c Q T (G ++ H)
  | [], k => k
  | p :: G, k => AIn.drop (AIn.dropL G k)
theorem AIn.nextN {c : Code} {T' : Env} {H' : Heap} (n : Nat) (h : AIn P N c Q T' H') (hs : AllIn T T') (hH : H.drop n = H') : AIn P N c Q T H := by
  have := AIn.dropL (H.take n) (AIn.sub hs.sub h)
  subst hH
  rwa [List.take_append_drop] at this
theorem AWp.toN {c : Code} {T' : Env} {H' : Heap} (n : Nat) (h : AWp P N c Q T' H') (hs : AllIn T T') (hH : H.drop n = H') : AWp P N c Q T H := by
  have := AWp.dropL (H.take n) (AWp.sub hs.sub h)
  subst hH
  rwa [List.take_append_drop] at this
theorem AWp.condCase {t : Nat} {x y : Code} {b : Bool} (hc : get T t = some (.bool b)) (ht : b = true → AWp P N x Q ((t, .bool true) :: T) H) (hf : b = false → AWp P N y Q ((t, .bool false) :: T) H) : AWp P N (.cond (.tmp t) x y) Q T H :=
  AWp.cond (c := .tmp t) hc (fun h => by subst h; exact AWp.slot hc (Sub.refl _) (ht rfl)) (fun h => by subst h; exact AWp.slot hc (Sub.refl _) (hf rfl))
/-- Where ways meet: what is behind it, once; what the way up to it must give is hidden. -/
theorem AWp.join {α : Type} {c c2 : Code} (E : α → Env) (G : α → Heap) (ok : α → Prop) (K : ∀ a, ok a → AWp P N c2 Q (E a) (G a))
    (h : ∀ R : Exit → Env → Heap → Prop, (∀ a, ok a → ∀ (n : Nat) T' H', AllIn T' (E a) → H'.drop n = G a → R .normal T' H') → (∀ e T H, e ≠ .normal → Q e T H → R e T H) → AWp P N c R T H) :
    AWp P N c (seqQ (AWp P N c2 Q) Q) T H := by
  refine h _ (fun a ha n T' H' hs hH => seqQ_n (AWp.toN n (K a ha) hs hH)) fun e T H he hq => ?_
  cases e with
  | normal => exact absurd rfl he
  | _ => exact hq
/-- The text's order, as a shut box. -/
structure Pl (P : Program) (N : Nat) (L : Lay) (ops : Array Oper) (Q : Env → Heap → Prop) (rest : List Oper) (T : Env) (H : Heap) : Prop where
  out : Plan P N L ops Q rest T H
theorem AWp.drawn {ops : List Oper} {id : Nat} (hL : LayOk P L) (hm : P.follows .mixedOrders = true) (hc : chk ops = true) (h : Pl P N L ops.toArray (Q .normal) ops T H) : AWp P N (.region id ops.toArray true) Q T H := AWp.draw hL hm hc h.out
theorem Pl.nil {ops : Array Oper} {Q : Env → Heap → Prop} (h : Q T H) : Pl P N L ops Q [] T H := ⟨Plan.nil h⟩
theorem Pl.pure {ops : Array Oper} {rest : List Oper} {Q : Env → Heap → Prop} {dst : Option Nat} {op : Op} {ty : TypeId} {pos : String} {after : Array Edge} {v : A} (hd : dstOk N dst = true) (hv : sOp L (restr T (({ dst := dst, op := op, type := ty, pos := pos, after := after, guard := none } : Oper).looksAt ops)) op = some v) (k : Pl P N L ops Q rest (put dst v T) H) : Pl P N L ops Q ({ dst := dst, op := op, type := ty, pos := pos, after := after, guard := none } :: rest) T H := ⟨Plan.pure hd rfl hv k.out⟩
theorem Pl.pureW {ops : Array Oper} {rest : List Oper} {Q : Env → Heap → Prop} {dst : Option Nat} {op : Op} {ty : TypeId} {pos : String} {after : Array Edge} {j : Nat} {b : Bool} {v : A} (hd : dstOk N dst = true) (hw : wantA ops (restr T (({ dst := dst, op := op, type := ty, pos := pos, after := after, guard := some (j, b) } : Oper).looksAt ops)) { dst := dst, op := op, type := ty, pos := pos, after := after, guard := some (j, b) } = some true) (hv : sOp L (restr T (({ dst := dst, op := op, type := ty, pos := pos, after := after, guard := some (j, b) } : Oper).looksAt ops)) op = some v) (k : Pl P N L ops Q rest (put dst v T) H) : Pl P N L ops Q ({ dst := dst, op := op, type := ty, pos := pos, after := after, guard := some (j, b) } :: rest) T H := ⟨Plan.pure hd hw hv k.out⟩
theorem Pl.skip {ops : Array Oper} {rest : List Oper} {Q : Env → Heap → Prop} {dst : Option Nat} {op : Op} {ty : TypeId} {pos : String} {after : Array Edge} {j : Nat} {b : Bool} (hd : dstOk N dst = true) (hw : wantA ops (restr T (({ dst := dst, op := op, type := ty, pos := pos, after := after, guard := some (j, b) } : Oper).looksAt ops)) { dst := dst, op := op, type := ty, pos := pos, after := after, guard := some (j, b) } = some false) (k : Pl P N L ops Q rest (put dst (.tup []) T) H) : Pl P N L ops Q ({ dst := dst, op := op, type := ty, pos := pos, after := after, guard := some (j, b) } :: rest) T H := ⟨Plan.skip hd hw k.out⟩
theorem Pl.quiet {ops : Array Oper} {rest : List Oper} {Q : Env → Heap → Prop} {dst : Option Nat} {op : Op} {ty : TypeId} {pos : String} {after : Array Edge} {guard : Option (Nat × Bool)} {v : A} (hd : dstOk N dst = true) (hw : wantA ops (restr T (({ dst := dst, op := op, type := ty, pos := pos, after := after, guard := guard } : Oper).looksAt ops)) { dst := dst, op := op, type := ty, pos := pos, after := after, guard := guard } = some true) (hcl : Nat.beq (cls { dst := dst, op := op, type := ty, pos := pos, after := after, guard := guard }) 0 = false) (h : AOp P N [] { dst := dst, op := op, type := ty, pos := pos, after := after, guard := guard } [] (Qn { dst := dst, op := op, type := ty, pos := pos, after := after, guard := guard } (restr T (({ dst := dst, op := op, type := ty, pos := pos, after := after, guard := guard } : Oper).looksAt ops)) fun r H' => r = v ∧ H' = H) (restr T (({ dst := dst, op := op, type := ty, pos := pos, after := after, guard := guard } : Oper).looksAt ops)) H) (k : Pl P N L ops Q rest (put dst v T) H) : Pl P N L ops Q ({ dst := dst, op := op, type := ty, pos := pos, after := after, guard := guard } :: rest) T H := ⟨Plan.quiet hd hw hcl h k.out⟩
theorem Pl.eff1 {ops : Array Oper} {rest : List Oper} {Q : Env → Heap → Prop} {dst : Option Nat} {op : Op} {ty : TypeId} {pos : String} {after : Array Edge} {guard : Option (Nat × Bool)} {v : A} {H1 : Heap} (hd : dstOk N dst = true) (hw : wantA ops (restr T (({ dst := dst, op := op, type := ty, pos := pos, after := after, guard := guard } : Oper).looksAt ops)) { dst := dst, op := op, type := ty, pos := pos, after := after, guard := guard } = some true) (hcl : cls { dst := dst, op := op, type := ty, pos := pos, after := after, guard := guard } = 2) (h : AOp P N [] { dst := dst, op := op, type := ty, pos := pos, after := after, guard := guard } [] (Qn { dst := dst, op := op, type := ty, pos := pos, after := after, guard := guard } (restr T (({ dst := dst, op := op, type := ty, pos := pos, after := after, guard := guard } : Oper).looksAt ops)) fun r H' => r = v ∧ H' = H1) (restr T (({ dst := dst, op := op, type := ty, pos := pos, after := after, guard := guard } : Oper).looksAt ops)) H) (k : Pl P N L ops Q rest (put dst v T) H1) : Pl P N L ops Q ({ dst := dst, op := op, type := ty, pos := pos, after := after, guard := guard } :: rest) T H := ⟨Plan.eff1 hd hw hcl h k.out⟩
theorem Pl.effN {ops : Array Oper} {rest : List Oper} {Q : Env → Heap → Prop} {dst : Option Nat} {op : Op} {ty : TypeId} {pos : String} {after : Array Edge} {guard : Option (Nat × Bool)} {f : Nat → A} {g : Nat → Heap} {Hx : Heap} (hd : dstOk N dst = true) (hw : wantA ops (restr T (({ dst := dst, op := op, type := ty, pos := pos, after := after, guard := guard } : Oper).looksAt ops)) { dst := dst, op := op, type := ty, pos := pos, after := after, guard := guard } = some true) (hcl : cls { dst := dst, op := op, type := ty, pos := pos, after := after, guard := guard } = 2) (h : AOp P N [] { dst := dst, op := op, type := ty, pos := pos, after := after, guard := guard } [] (Qn { dst := dst, op := op, type := ty, pos := pos, after := after, guard := guard } (restr T (({ dst := dst, op := op, type := ty, pos := pos, after := after, guard := guard } : Oper).looksAt ops)) fun v H' => ∃ r, r ∉ keys Hx ∧ v = f r ∧ H' = g r) (restr T (({ dst := dst, op := op, type := ty, pos := pos, after := after, guard := guard } : Oper).looksAt ops)) H) (k : ∀ r, r ∉ keys Hx → Pl P N L ops Q rest (put dst (f r) T) (g r)) : Pl P N L ops Q ({ dst := dst, op := op, type := ty, pos := pos, after := after, guard := guard } :: rest) T H := ⟨Plan.effN hd hw hcl h fun r hr => (k r hr).out⟩
theorem Pl.guardCase {ops : Array Oper} {rest : List Oper} {Q : Env → Heap → Prop} {dst : Option Nat} {op : Op} {ty : TypeId} {pos : String} {after : Array Edge} {j d : Nat} {b b' : Bool} (hd : (ops[j]?).bind (·.dst) = some d) (ht : get T d = some (.bool b')) (h1 : b' = true → Pl P N L ops Q ({ dst := dst, op := op, type := ty, pos := pos, after := after, guard := some (j, b) } :: rest) ((d, .bool true) :: T) H) (h2 : b' = false → Pl P N L ops Q ({ dst := dst, op := op, type := ty, pos := pos, after := after, guard := some (j, b) } :: rest) ((d, .bool false) :: T) H) : Pl P N L ops Q ({ dst := dst, op := op, type := ty, pos := pos, after := after, guard := some (j, b) } :: rest) T H := ⟨Plan.guardCase rfl hd ht (fun e => (h1 e).out) fun e => (h2 e).out⟩
theorem Pl.gate {ops : Array Oper} {rest : List Oper} {Q : Env → Heap → Prop} (h : Pl P N L ops Q rest T H) : Pl P N L ops Q rest T H := h
theorem AOps.sim {ops rest : List Oper} {dst : Option Nat} {op : Op} {ty : TypeId} {pos : String} {after : Array Edge} {v : A} (hL : LayOk P L) (h : sOp L T op = some v) (hd : dstOk N dst = true) (k : AOps P N ops rest Q (put dst v T) H) : AOps P N ops ({ dst := dst, op := op, type := ty, pos := pos, after := after, guard := none } :: rest) Q T H := AOps.simple hL rfl h hd k
theorem AOps.simW {ops rest : List Oper} {dst : Option Nat} {op : Op} {ty : TypeId} {pos : String} {after : Array Edge} {v : A} {j d : Nat} {b : Bool} (hL : LayOk P L) (hdj : (ops[j]?).bind (·.dst) = some d) (ht : get T d = some (.bool b)) (h : sOp L T op = some v) (hd : dstOk N dst = true) (k : AOps P N ops rest Q (put dst v T) H) : AOps P N ops ({ dst := dst, op := op, type := ty, pos := pos, after := after, guard := some (j, b) } :: rest) Q T H := AOps.simpleW hL rfl hdj ht h hd k
theorem AOps.pln {ops rest : List Oper} {dst : Option Nat} {op : Op} {ty : TypeId} {pos : String} {after : Array Edge} (h : AOp P N ops { dst := dst, op := op, type := ty, pos := pos, after := after, guard := none } rest Q T H) : AOps P N ops ({ dst := dst, op := op, type := ty, pos := pos, after := after, guard := none } :: rest) Q T H := AOps.plain rfl h
theorem AOps.wtd {ops rest : List Oper} {dst : Option Nat} {op : Op} {ty : TypeId} {pos : String} {after : Array Edge} {j d : Nat} {b : Bool} (hdj : (ops[j]?).bind (·.dst) = some d) (ht : get T d = some (.bool b)) (hd : dstOk N dst = true) (h : AOp P N ops { dst := dst, op := op, type := ty, pos := pos, after := after, guard := some (j, b) } rest Q T H) : AOps P N ops ({ dst := dst, op := op, type := ty, pos := pos, after := after, guard := some (j, b) } :: rest) Q T H := AOps.wanted rfl hdj ht hd h
theorem AOps.unw {ops rest : List Oper} {dst : Option Nat} {op : Op} {ty : TypeId} {pos : String} {after : Array Edge} {j d : Nat} {b b' : Bool} (hdj : (ops[j]?).bind (·.dst) = some d) (ht : get T d = some (.bool b')) (hb : Bool.xor b b' = true) (hd : dstOk N dst = true) (h : AOps P N ops rest Q (put dst (.tup []) T) H) : AOps P N ops ({ dst := dst, op := op, type := ty, pos := pos, after := after, guard := some (j, b) } :: rest) Q T H := AOps.unwanted rfl hdj ht hb hd h
theorem AOps.unwU {ops rest : List Oper} {dst : Option Nat} {op : Op} {ty : TypeId} {pos : String} {after : Array Edge} {j d : Nat} {b : Bool} {l : List A} (hdj : (ops[j]?).bind (·.dst) = some d) (ht : get T d = some (.tup l)) (hd : dstOk N dst = true) (h : AOps P N ops rest Q (put dst (.tup []) T) H) : AOps P N ops ({ dst := dst, op := op, type := ty, pos := pos, after := after, guard := some (j, b) } :: rest) Q T H := AOps.unwantedU rfl hdj ht hd h
theorem AOps.gLoad {ops rest : List Oper} {dst : Option Nat} {ty : TypeId} {pos : String} {after : Array Edge} {guard : Option (Nat × Bool)} {t : TypeId} {x : Operand} (h : AOps P N ops ({ dst := dst, op := .load t x, type := ty, pos := pos, after := after, guard := guard } :: rest) Q T H) : AOps P N ops ({ dst := dst, op := .load t x, type := ty, pos := pos, after := after, guard := guard } :: rest) Q T H := h
theorem Pl.gLoad {ops : Array Oper} {rest : List Oper} {Q : Env → Heap → Prop} {dst : Option Nat} {ty : TypeId} {pos : String} {after : Array Edge} {guard : Option (Nat × Bool)} {t : TypeId} {x : Operand} (h : Pl P N L ops Q ({ dst := dst, op := .load t x, type := ty, pos := pos, after := after, guard := guard } :: rest) T H) : Pl P N L ops Q ({ dst := dst, op := .load t x, type := ty, pos := pos, after := after, guard := guard } :: rest) T H := h
theorem AOps.gStore {ops rest : List Oper} {dst : Option Nat} {ty : TypeId} {pos : String} {after : Array Edge} {guard : Option (Nat × Bool)} {t : TypeId} {x y : Operand} (h : AOps P N ops ({ dst := dst, op := .store t x y, type := ty, pos := pos, after := after, guard := guard } :: rest) Q T H) : AOps P N ops ({ dst := dst, op := .store t x y, type := ty, pos := pos, after := after, guard := guard } :: rest) Q T H := h
theorem Pl.gStore {ops : Array Oper} {rest : List Oper} {Q : Env → Heap → Prop} {dst : Option Nat} {ty : TypeId} {pos : String} {after : Array Edge} {guard : Option (Nat × Bool)} {t : TypeId} {x y : Operand} (h : Pl P N L ops Q ({ dst := dst, op := .store t x y, type := ty, pos := pos, after := after, guard := guard } :: rest) T H) : Pl P N L ops Q ({ dst := dst, op := .store t x y, type := ty, pos := pos, after := after, guard := guard } :: rest) T H := h
theorem AOps.gBox {ops rest : List Oper} {dst : Option Nat} {ty : TypeId} {pos : String} {after : Array Edge} {guard : Option (Nat × Bool)} {t : TypeId} {x : Operand} (h : AOps P N ops ({ dst := dst, op := .box t x, type := ty, pos := pos, after := after, guard := guard } :: rest) Q T H) : AOps P N ops ({ dst := dst, op := .box t x, type := ty, pos := pos, after := after, guard := guard } :: rest) Q T H := h
theorem Pl.gBox {ops : Array Oper} {rest : List Oper} {Q : Env → Heap → Prop} {dst : Option Nat} {ty : TypeId} {pos : String} {after : Array Edge} {guard : Option (Nat × Bool)} {t : TypeId} {x : Operand} (h : Pl P N L ops Q ({ dst := dst, op := .box t x, type := ty, pos := pos, after := after, guard := guard } :: rest) T H) : Pl P N L ops Q ({ dst := dst, op := .box t x, type := ty, pos := pos, after := after, guard := guard } :: rest) T H := h
theorem AOps.gAlloc {ops rest : List Oper} {dst : Option Nat} {ty : TypeId} {pos : String} {after : Array Edge} {guard : Option (Nat × Bool)} {t : TypeId} (h : AOps P N ops ({ dst := dst, op := .alloc t, type := ty, pos := pos, after := after, guard := guard } :: rest) Q T H) : AOps P N ops ({ dst := dst, op := .alloc t, type := ty, pos := pos, after := after, guard := guard } :: rest) Q T H := h
theorem Pl.gAlloc {ops : Array Oper} {rest : List Oper} {Q : Env → Heap → Prop} {dst : Option Nat} {ty : TypeId} {pos : String} {after : Array Edge} {guard : Option (Nat × Bool)} {t : TypeId} (h : Pl P N L ops Q ({ dst := dst, op := .alloc t, type := ty, pos := pos, after := after, guard := guard } :: rest) T H) : Pl P N L ops Q ({ dst := dst, op := .alloc t, type := ty, pos := pos, after := after, guard := guard } :: rest) T H := h
theorem AOps.gBuildSlice {ops rest : List Oper} {dst : Option Nat} {ty : TypeId} {pos : String} {after : Array Edge} {guard : Option (Nat × Bool)} {t n : Nat} {ps : Array (Nat × Operand)} (h : AOps P N ops ({ dst := dst, op := .buildSlice t n ps, type := ty, pos := pos, after := after, guard := guard } :: rest) Q T H) : AOps P N ops ({ dst := dst, op := .buildSlice t n ps, type := ty, pos := pos, after := after, guard := guard } :: rest) Q T H := h
theorem Pl.gBuildSlice {ops : Array Oper} {rest : List Oper} {Q : Env → Heap → Prop} {dst : Option Nat} {ty : TypeId} {pos : String} {after : Array Edge} {guard : Option (Nat × Bool)} {t n : Nat} {ps : Array (Nat × Operand)} (h : Pl P N L ops Q ({ dst := dst, op := .buildSlice t n ps, type := ty, pos := pos, after := after, guard := guard } :: rest) T H) : Pl P N L ops Q ({ dst := dst, op := .buildSlice t n ps, type := ty, pos := pos, after := after, guard := guard } :: rest) T H := h
theorem AOps.gCall {ops rest : List Oper} {dst : Option Nat} {ty : TypeId} {pos : String} {after : Array Edge} {guard : Option (Nat × Bool)} {x : Operand} {as : Array Operand} {ats : Array TypeId} (h : AOps P N ops ({ dst := dst, op := .call { callee := .value x, args := as, argTypes := ats }, type := ty, pos := pos, after := after, guard := guard } :: rest) Q T H) : AOps P N ops ({ dst := dst, op := .call { callee := .value x, args := as, argTypes := ats }, type := ty, pos := pos, after := after, guard := guard } :: rest) Q T H := h
theorem Pl.gCall {ops : Array Oper} {rest : List Oper} {Q : Env → Heap → Prop} {dst : Option Nat} {ty : TypeId} {pos : String} {after : Array Edge} {guard : Option (Nat × Bool)} {x : Operand} {as : Array Operand} {ats : Array TypeId} (h : Pl P N L ops Q ({ dst := dst, op := .call { callee := .value x, args := as, argTypes := ats }, type := ty, pos := pos, after := after, guard := guard } :: rest) T H) : Pl P N L ops Q ({ dst := dst, op := .call { callee := .value x, args := as, argTypes := ats }, type := ty, pos := pos, after := after, guard := guard } :: rest) T H := h
theorem AOps.gConv {ops rest : List Oper} {dst : Option Nat} {ty : TypeId} {pos : String} {after : Array Edge} {guard : Option (Nat × Bool)} {t u : TypeId} {x : Operand} (h : AOps P N ops ({ dst := dst, op := .convert t u x, type := ty, pos := pos, after := after, guard := guard } :: rest) Q T H) : AOps P N ops ({ dst := dst, op := .convert t u x, type := ty, pos := pos, after := after, guard := guard } :: rest) Q T H := h
theorem Pl.gConv {ops : Array Oper} {rest : List Oper} {Q : Env → Heap → Prop} {dst : Option Nat} {ty : TypeId} {pos : String} {after : Array Edge} {guard : Option (Nat × Bool)} {t u : TypeId} {x : Operand} (h : Pl P N L ops Q ({ dst := dst, op := .convert t u x, type := ty, pos := pos, after := after, guard := guard } :: rest) T H) : Pl P N L ops Q ({ dst := dst, op := .convert t u x, type := ty, pos := pos, after := after, guard := guard } :: rest) T H := h
theorem AOps.gIndexAddr {ops rest : List Oper} {dst : Option Nat} {ty : TypeId} {pos : String} {after : Array Edge} {guard : Option (Nat × Bool)} {t : TypeId} {x y : Operand} (h : AOps P N ops ({ dst := dst, op := .indexAddr t x y, type := ty, pos := pos, after := after, guard := guard } :: rest) Q T H) : AOps P N ops ({ dst := dst, op := .indexAddr t x y, type := ty, pos := pos, after := after, guard := guard } :: rest) Q T H := h
theorem Pl.gIndexAddr {ops : Array Oper} {rest : List Oper} {Q : Env → Heap → Prop} {dst : Option Nat} {ty : TypeId} {pos : String} {after : Array Edge} {guard : Option (Nat × Bool)} {t : TypeId} {x y : Operand} (h : Pl P N L ops Q ({ dst := dst, op := .indexAddr t x y, type := ty, pos := pos, after := after, guard := guard } :: rest) T H) : Pl P N L ops Q ({ dst := dst, op := .indexAddr t x y, type := ty, pos := pos, after := after, guard := guard } :: rest) T H := h
theorem AOps.gIndex {ops rest : List Oper} {dst : Option Nat} {ty : TypeId} {pos : String} {after : Array Edge} {guard : Option (Nat × Bool)} {t : TypeId} {x y : Operand} (h : AOps P N ops ({ dst := dst, op := .index t x y, type := ty, pos := pos, after := after, guard := guard } :: rest) Q T H) : AOps P N ops ({ dst := dst, op := .index t x y, type := ty, pos := pos, after := after, guard := guard } :: rest) Q T H := h
theorem Pl.gIndex {ops : Array Oper} {rest : List Oper} {Q : Env → Heap → Prop} {dst : Option Nat} {ty : TypeId} {pos : String} {after : Array Edge} {guard : Option (Nat × Bool)} {t : TypeId} {x y : Operand} (h : Pl P N L ops Q ({ dst := dst, op := .index t x y, type := ty, pos := pos, after := after, guard := guard } :: rest) T H) : Pl P N L ops Q ({ dst := dst, op := .index t x y, type := ty, pos := pos, after := after, guard := guard } :: rest) T H := h
theorem AOps.gAppend {ops rest : List Oper} {dst : Option Nat} {ty : TypeId} {pos : String} {after : Array Edge} {guard : Option (Nat × Bool)} {as : Array Operand} {ats : Array TypeId} (h : AOps P N ops ({ dst := dst, op := .call { callee := .builtin .append, args := as, argTypes := ats }, type := ty, pos := pos, after := after, guard := guard } :: rest) Q T H) : AOps P N ops ({ dst := dst, op := .call { callee := .builtin .append, args := as, argTypes := ats }, type := ty, pos := pos, after := after, guard := guard } :: rest) Q T H := h
theorem Pl.gAppend {ops : Array Oper} {rest : List Oper} {Q : Env → Heap → Prop} {dst : Option Nat} {ty : TypeId} {pos : String} {after : Array Edge} {guard : Option (Nat × Bool)} {as : Array Operand} {ats : Array TypeId} (h : Pl P N L ops Q ({ dst := dst, op := .call { callee := .builtin .append, args := as, argTypes := ats }, type := ty, pos := pos, after := after, guard := guard } :: rest) T H) : Pl P N L ops Q ({ dst := dst, op := .call { callee := .builtin .append, args := as, argTypes := ats }, type := ty, pos := pos, after := after, guard := guard } :: rest) T H := h
theorem AOps.gSlice {ops rest : List Oper} {dst : Option Nat} {ty : TypeId} {pos : String} {after : Array Edge} {guard : Option (Nat × Bool)} {t : TypeId} {x : Operand} {lo hi mx : Option Operand} (h : AOps P N ops ({ dst := dst, op := .slice t x lo hi mx, type := ty, pos := pos, after := after, guard := guard } :: rest) Q T H) : AOps P N ops ({ dst := dst, op := .slice t x lo hi mx, type := ty, pos := pos, after := after, guard := guard } :: rest) Q T H := h
theorem Pl.gSlice {ops : Array Oper} {rest : List Oper} {Q : Env → Heap → Prop} {dst : Option Nat} {ty : TypeId} {pos : String} {after : Array Edge} {guard : Option (Nat × Bool)} {t : TypeId} {x : Operand} {lo hi mx : Option Operand} (h : Pl P N L ops Q ({ dst := dst, op := .slice t x lo hi mx, type := ty, pos := pos, after := after, guard := guard } :: rest) T H) : Pl P N L ops Q ({ dst := dst, op := .slice t x lo hi mx, type := ty, pos := pos, after := after, guard := guard } :: rest) T H := h
end
end Go.Abs

namespace Go.Abs
open Go
set_option linter.unusedVariables false
section
variable {P : Program} {N : Nat} {Q : Exit → Env → Heap → Prop} {T : Env} {H : Heap} {ops rest : List Oper} {dst : Option Nat} {ty : TypeId} {pos : String} {after : Array Edge} {guard : Option (Nat × Bool)} {L : Lay}

theorem heap_push_modify (h : Array Obj) (o : Obj) (f : Obj → Obj) : (h.push o).modify h.size f = h.push (f o) := by
  apply Array.ext
  · simp
  · intro i h1 h2
    simp only [Array.getElem_modify, Array.getElem_push]
    split <;> split <;> simp_all
    all_goals omega
theorem run_toBytes (w : World) (e : TypeId) (s : List UInt8) (hm : s.length ≤ maxLen) : ∃ (cap : Nat) (c : Array Value) (f : Nat × Nat), (Conv.stringToBytes e ⟨s.toArray⟩).run P w = .ok (.slice (some ⟨w.heap.size, 0, none⟩) s.length cap) (w.drew.alloc (.cells c e f)) ∧
    s.length ≤ cap ∧ cap ≤ maxLen ∧ ∀ i, i < s.length → c[i]? = some (.int .u8 ((s.getD i 0).toNat)) := by
  have hsz : (ByteArray.mk s.toArray).size = s.length := by simp [ByteArray.size]
  generalize hcap : (Question.appendCap s.length 0 e).cut (w.tape w.drawn (Question.appendCap s.length 0 e)) = cap
  have h1 : s.length ≤ cap ∧ cap ≤ maxLen := by
    rw [← hcap]
    simp only [Question.cut]
    have hp : 0 < 2 ^ 63 - s.length := by simp only [maxLen] at hm; omega
    have := Nat.mod_lt (w.tape w.drawn (Question.appendCap s.length 0 e)) hp
    simp only [maxLen] at *
    omega
  refine ⟨cap, (s.toArray.map fun b => Value.int .u8 b.toNat) ++ Array.replicate (cap - s.length) (.int .u8 0), (s.length + (cap - s.length), s.length + (cap - s.length) + 1), ?_, h1.1, h1.2, ?_⟩
  · simp only [Conv.stringToBytes, Sem.run_bind, hsz]
    rw [Go.run_choose_drew]
    have hf : (Question.appendCap s.length 0 e).forced = false := by simp [Question.forced]
    simp only [hf, hcap]
    simp only [Bool.false_eq_true, if_false, Result.andThen_ok, newRow, Sem.run_bind, Go.run_newObj_alloc, Sem.run_pure, markStringish]
    generalize hc : (Array.map (fun (b : UInt8) => Value.int .u8 (b.toNat : Int)) s.toArray ++ Array.replicate (cap - s.length) (Value.int .u8 0) : Array Value) = c
    have hcs : c.size = s.length + (cap - s.length) := by rw [← hc]; simp
    have hsh : (w.drew.alloc (.cells c e)).shape? w.drew.heap.size = some (e, c.size) := by simp only [World.shape?, heap_alloc_new w.drew (.cells c e)]
    have hsh' : (shape w.drew.heap.size).run P (w.drew.alloc (.cells c e)) = .ok (some (e, c.size)) (w.drew.alloc (.cells c e)) := by rw [← hsh]; rfl
    rw [hsh']
    simp only [Result.andThen_ok, Sem.run_bind]
    have hfr : (freeze { block := w.drew.heap.size, off := c.size } 1).run P (w.drew.alloc (.cells c e)) = .ok () ((w.drew.alloc (.cells c e)).freeze { block := w.drew.heap.size, off := c.size } 1) := rfl
    rw [hfr]
    simp only [Result.andThen_ok, Sem.run_pure]
    have hw : (w.drew.alloc (.cells c e)).freeze { block := w.drew.heap.size, off := c.size } 1 = w.drew.alloc (.cells c e (c.size, c.size + 1)) := by
      simp only [World.freeze, World.alloc, heap_push_modify]
      simp
    rw [hw, hcs]
    rfl
  · intro i hi
    rw [Array.getElem?_append_left (by simpa using hi)]
    simp [hi]
theorem Ext.newU (H : Heap) (w : World) (o : Obj) : Ext H w H (w.alloc o) where
  os := rfl
  tape := rfl
  output := rfl
  size := by simp
  same k hk _ := heap_old w o k hk
  keys k hk := .inl hk
  shape k hk c T f h := by rw [heap_old w o k hk] at h; exact ⟨c, f, h, rfl⟩
theorem Sim.newU {fr : Nat → Prop} {H : Heap} {w : World} (s : Sim fr H w) (o : Obj) : Sim fr H (w.alloc o) where
  nodup := s.nodup
  apart := s.apart
  old k h := by have := s.old k h; simp; omega
  ok p hp := (s.ok p hp).mono (Ext.newU H w o).stays (heap_old w o _ (s.ok p hp).lt)
def byteC (b : UInt8) : List A := [.int .u8 (b.toNat : Int)]
theorem AOp.toBytes {src dt e : TypeId} {x : Operand} {s : List UInt8} {i j ei : TI} (hL : LayOk P L) (hx : ev T x = some (.str s)) (hs : lay L src = some i) (hj : lay L dt = some j) (ht : j.td = .slice e) (hei : lay L e = some ei) (het : ei.td = .int .u8) (hd : dstOk N dst = true)
    (kk : AOps P N ops rest Q (put dst (.ds (s.map byteC)) T) H) : AOp P N ops { dst := dst, op := .convert src dt x, type := ty, pos := pos, after := after, guard := guard } rest Q T H := by
  refine AOp.sem (R := fun v' H' => v' = .ds (s.map byteC) ∧ H' = H) (fun fr w act sm st => ?_) hd (fun v H' h => by obtain ⟨rfl, rfl⟩ := h; exact kk)
  have hu := ev_rep st hx
  generalize h1 : act.eval x = v at hu
  cases hu with
  | str _ hm =>
  obtain ⟨d, hd1, hd2⟩ := (hL _ _ hs).und
  have hsl := td_slice (hL _ _ hj) ht
  obtain ⟨d2, he1, he2⟩ := (hL _ _ hei).und
  have he : d2 = .int .u8 := by rw [het] at he2; cases d2 <;> simp [tdOf] at he2; subst he2; rfl
  subst he
  obtain ⟨cap, c, f, hr, hc1, hc2, hc3⟩ := run_toBytes (P := P) w e s hm
  have hE : Ext H w H (w.drew.alloc (.cells c e f)) := (Ext.drew H w).trans (Ext.newU H w.drew _)
  have hS : Sim fr H (w.drew.alloc (.cells c e f)) := sm.drew.newU _
  refine ⟨w.drew.alloc (.cells c e f), _, .slice (some ⟨w.heap.size, 0, none⟩) s.length cap, H, .inl ?_, ⟨rfl, rfl⟩, hS, ?_, hE⟩
  · simp only [execOp, h1, convert, Sem.run_bind, run_underlying hd1, run_underlying hsl, run_underlying he1, Result.andThen_ok, hr, Sem.run_pure]
  · have := Rep.ds (w := w.drew.alloc (.cells c e f)) (own := own fr H) (s.map byteC) ⟨w.heap.size, 0, none⟩ cap 1 (fun i _ => .int .u8 ((s.getD i 0).toNat)) (by simpa using hc1) hc2 (fun i hi => by simp [byteC]) (fun i j hi hj => ⟨fun h => ?_, ?_⟩) (fun i hi j hj => ?_)
    · simpa using this
    · rcases h with h | h
      · exact (own_new sm).2 h
      · exact (own_new sm).1 h
    · obtain rfl : j = 0 := by omega
      have hi : i < s.length := by simpa using hi
      have h2 := heap_alloc_new w.drew (.cells c e f)
      have h2' : (w.drew.alloc (.cells c e f)).heap[w.heap.size]? = some (.cells c e f) := h2
      have e1 : (⟨w.heap.size, 0, none⟩ : Addr).add (i * 1 + 0) = ⟨w.heap.size, i, none⟩ := by rw [add_plain]; simp
      rw [e1]
      simp only [World.cell?, h2']
      simpa using hc3 i hi
    · have hi' : i < s.length := by simpa using hi
      have hj0 : j = 0 := by simp [byteC] at hj; omega
      subst hj0
      simp only [List.getElem_map, byteC, List.getElem_cons_zero]
      rw [show s.getD i 0 = s[i] by simp [hi']]
      refine .int _ _ (inR_u8.2 ?_)
      have := s[i].toNat_lt
      omega
theorem heap_freeze {w : World} {r n : Nat} {c : Array Value} {e : TypeId} (h : w.heap[r]? = some (.cells c e (0, 0))) : (w.freeze { block := r, off := n } 1).heap[r]? = some (.cells c e (n, n + 1)) ∧
    (∀ k, k ≠ r → (w.freeze { block := r, off := n } 1).heap[k]? = w.heap[k]?) ∧ (w.freeze { block := r, off := n } 1).heap.size = w.heap.size := by
  have hlt := (Array.getElem?_eq_some_iff.1 h).1
  refine ⟨?_, fun k hk => ?_, ?_⟩
  · simp only [World.freeze]
    simp only [Nat.succ_ne_zero, if_false, Array.getElem?_modify, h]
    simp
  · simp only [World.freeze]
    simp only [Nat.succ_ne_zero, if_false, Array.getElem?_modify]
    rw [if_neg (by omega)]
  · simp [World.freeze]
theorem AOp.litBytes {src e r : Nat} {x : Operand} {elems : List (List A)} {Hr : Heap} {j ei : TI} (hL : LayOk P L) (hx : ev T x = some (.os r 1 0 elems.length)) (hj : lay L src = some j) (ht : j.td = .slice e) (hei : lay L e = some ei) (het : ei.td = .int .u8) (hd : dstOk N dst = true)
    (kk : AOps P N ops rest Q (put dst (.ds elems) T) Hr) : AOp P N ops { dst := dst, op := .convert src src x, type := ty, pos := pos, after := after, guard := guard } rest Q T ((r, .row e 1 elems) :: Hr) := by
  refine AOp.sem (R := fun v' H' => v' = .ds elems ∧ H' = Hr) (fun fr w act sm st => ?_) hd (fun v H' h => by obtain ⟨rfl, rfl⟩ := h; exact kk)
  have hu := ev_rep st hx
  generalize h1 : act.eval x = v at hu
  cases hu with
  | os _ _ _ _ cap hrr hcap hmax hroom =>
  have hsl := td_slice (hL _ _ hj) ht
  obtain ⟨d2, he1, he2⟩ := (hL _ _ hei).und
  have he : d2 = .int .u8 := by rw [het] at he2; cases d2 <;> simp [tdOf] at he2; subst he2; rfl
  subst he
  obtain ⟨c, g1, g2, g3, g4⟩ := sm.ok _ List.mem_cons_self
  have hnd := List.nodup_cons.1 (show (r :: keys Hr).Nodup from sm.nodup)
  obtain ⟨f1, f2, f3⟩ := heap_freeze (n := c.size) g1
  generalize hw : w.freeze { block := r, off := c.size } 1 = w' at f1 f2 f3
  have hE : Ext ((r, Blk.row e 1 elems) :: Hr) w Hr w' := ⟨by rw [← hw]; simp [World.freeze], by rw [← hw]; simp [World.freeze], by rw [← hw]; simp [World.freeze], by omega, fun k _ hk => f2 k (fun h => hk (by subst h; simp [keys])), fun k hk => .inl (List.mem_cons_of_mem _ hk), fun k hk c' T' f' h => by
    by_cases hkr : k = r
    · subst hkr; rw [f1] at h; cases h; exact ⟨c, _, g1, rfl⟩
    · rw [f2 k hkr] at h; exact ⟨c', f', h, rfl⟩⟩
  have hst := hE.stays (fr := fr)
  refine ⟨w', _, .slice (some ⟨r, 0 * 1, none⟩) elems.length cap, Hr, .inl ?_, ⟨rfl, rfl⟩, ⟨hnd.2, fun k hk => sm.apart k (List.mem_cons_of_mem _ hk), fun k hk => by have := sm.old k hk; omega, fun p hp => ?_⟩, ?_, hE⟩
  · have hsh : (shape r).run P w = .ok (some (e, c.size)) w := by
      have : w.shape? r = some (e, c.size) := by simp only [World.shape?, g1]
      rw [← this]; rfl
    have hfr : (freeze { block := r, off := c.size } 1).run P w = .ok () (w.freeze { block := r, off := c.size } 1) := rfl
    simp only [execOp, h1, convert, Sem.run_bind, run_underlying hsl, run_underlying he1, Result.andThen_ok, beq_self_eq_true, markStringish, hsh, hfr, hw, Sem.run_pure]
  · refine (sm.ok p (List.mem_cons_of_mem _ hp)).mono hst (f2 _ fun h => hnd.1 (List.mem_map.2 ⟨p, hp, h⟩))
  · have hg : ∀ i (hi : i < elems.length), ∃ v, c[i]? = some v ∧ ∀ (h0 : 0 < elems[i].length), Rep w (own fr ((r, Blk.row e 1 elems) :: Hr)) (elems[i][0]) v := fun i hi => by
      obtain ⟨v, h2, h3, _⟩ := g4 i hi 0 (by rw [g3 i hi]; omega)
      exact ⟨v, by simpa using h2, fun _ => h3⟩
    refine Rep.ds (w := w') (own := own fr Hr) elems ⟨r, 0 * 1, none⟩ cap 1 (fun i _ => (c[i]?).getD undef) hcap hmax (fun i hi => g3 i hi) (fun i j hi hj => ⟨fun h => ?_, ?_⟩) (fun i hi j hj => ?_)
    · rcases h with h | h
      · exact sm.apart r (by simp [keys]) h
      · exact hnd.1 h
    · obtain rfl : j = 0 := by omega
      obtain ⟨v, h2, h3⟩ := hg i hi
      have e1 : (⟨r, 0 * 1, none⟩ : Addr).add (i * 1 + 0) = ⟨r, i, none⟩ := by rw [add_plain]; simp
      rw [e1]
      simp only [World.cell?, f1, h2]
      simp
    · have := g3 i hi
      obtain rfl : j = 0 := by omega
      obtain ⟨v, h2, h3⟩ := hg i hi
      simp only [h2, Option.getD_some]
      exact (h3 _).mono hst
/-- What may stand for what, side by side. -/
inductive SubL : List A → List A → Prop
  | nil : SubL [] []
  | cons {x y : A} {xs ys : List A} (h : Sub x y) (t : SubL xs ys) : SubL (x :: xs) (y :: ys)
theorem SubL.refl : ∀ l : List A, SubL l l
  | [] => .nil
  | x :: l => .cons (Sub.refl x) (SubL.refl l)
theorem SubL.rep {w : World} {o : Nat → Prop} : ∀ {xs ys : List A} {vs : List Value}, SubL xs ys → RepL w o xs vs → RepL w o ys vs
  | _, _, _, .nil, h => h
  | _, _, _, .cons h t, .cons a b => .cons (h _ _ _ a) (t.rep b)
theorem Sub.agg {xs ys : List A} (h : SubL xs ys) : Sub (.agg xs) (.agg ys) := fun w o v hr => by
  obtain ⟨cs, rfl, hl⟩ := hr.agg_inv
  have := Rep.agg_of (h.rep hl)
  simpa using this
theorem PTr.subL {f : FuncId} {args args' : List A} {v : A} (h : PTr P f args v) (hs : SubL args' args) : PTr P f args' v := h.sub fun w o vs a => hs.rep a
theorem AOp.callS {callee : Operand} {args : List Operand} {ats : Array TypeId} {f : FuncId} {first cap as bs : List A} {v : A} (hf : ev T callee = some (.fn f first cap)) (ha : evs T args = some as) (hd : dstOk N dst = true)
    (ht : PTr P f bs v) (hs : SubL (first ++ as ++ cap) bs) (k : AOps P N ops rest Q (put dst v T) H) :
    AOp P N ops { dst := dst, op := .call { callee := .value callee, args := args.toArray, argTypes := ats }, type := ty, pos := pos, after := after, guard := guard } rest Q T H :=
  AOp.callP hf ha hd (ht.subL hs) k
end
end Go.Abs

namespace Go.Abs
open Go
set_option linter.unusedVariables false
set_option linter.unusedSimpArgs false
/-! Maps whose keys are numbers or strings, and the characters of a string. -/
def keyEq : A → A → Option Bool
  | .int k a, .int k' b => match decide (k = k') with
    | true => some (a == b)
    | false => none
  | .str a, .str b => some (a == b)
  | _, _ => none
def findM (x : A) : List (A × A) → Option (Option (Nat × A))
  | [] => some none
  | (k, v) :: es => match keyEq x k with
    | some true => some (some (0, v))
    | some false => match findM x es with
      | some (some (i, u)) => some (some (i + 1, u))
      | some none => some none
      | none => none
    | none => none
def keyTd : TD → A → Bool
  | .int _, .int _ _ => true
  | .string, .str _ => true
  | _, _ => false
def putM (es : List (A × A)) (x v : A) : Option (List (A × A)) := match findM x es with
  | some (some (i, _)) => some (es.set i (x, v))
  | some none => some (es ++ [(x, v)])
  | none => none
def zeroA (i : TI) : A := if i.td.isAgg then .agg i.zero else i.zero.headD default
section
variable {P : Program} {N : Nat} {Q : Exit → Env → Heap → Prop} {T : Env} {H : Heap} {ops rest : List Oper} {L : Lay} {dst : Option Nat} {ty : TypeId} {pos : String} {after : Array Edge} {guard : Option (Nat × Bool)}
theorem checkKey_run {t : Nat} {ti : TI} (h : TIOk P t ti) {w : World} {o : Nat → Prop} {x : A} {u : Value} (hu : Rep w o x u) (hk : keyTd ti.td x = true) (e : Bool) : (Instr.checkKey e 10000 t u).run P w = .ok () w := by
  unfold keyTd at hk
  split at hk
  · rename_i htd
    cases hu
    have := td_int h htd
    show (Instr.checkKey e (9999 + 1) t _).run P w = _
    unfold Instr.checkKey
    simp only [Sem.run_bind, run_underlying this, Result.andThen]
    rfl
  · rename_i htd
    cases hu
    have := td_string h htd
    show (Instr.checkKey e (9999 + 1) t _).run P w = _
    unfold Instr.checkKey
    simp only [Sem.run_bind, run_underlying this, Result.andThen]
    rfl
  · cases hk
theorem sameNow_ok {kind : TypeDesc} {td : TD} (hkd : (∃ k, kind = .int k ∧ td = .int k) ∨ (kind = .string ∧ td = .string)) {w : World} {o : Nat → Prop} {x k : A} {u v : Value} (hu : Rep w o x u) (hv : Rep w o k v) (ht : keyTd td x = true) {b : Bool} (h : keyEq x k = some b) : Instr.sameNow kind u v = some b := by
  unfold keyEq at h
  split at h
  · split at h
    · rename_i hk
      have hk := of_decide_eq_true hk
      subst hk
      cases h
      cases hu; cases hv
      rcases hkd with ⟨k, rfl, rfl⟩ | ⟨rfl, rfl⟩
      · simp [Instr.sameNow]
      · simp [keyTd] at ht
    · cases h
  · cases h
    cases hu; cases hv
    rcases hkd with ⟨k, rfl, rfl⟩ | ⟨rfl, rfl⟩
    · simp [keyTd] at ht
    · rename_i a b _ _
      have key : ((⟨a.toArray⟩ : ByteArray) == ⟨b.toArray⟩) = (a == b) := by
        by_cases hab : a = b
        · subst hab; rw [(MapKept.bytes_beq _ _).2 rfl]; simp
        · have : (⟨a.toArray⟩ : ByteArray) ≠ ⟨b.toArray⟩ := by
            intro e; apply hab
            have := congrArg (fun z : ByteArray => z.data.toList) e
            simpa using this
          rw [beq_eq_false_iff_ne.2 hab]
          cases hq : ((⟨a.toArray⟩ : ByteArray) == ⟨b.toArray⟩)
          · rfl
          · exact absurd ((MapKept.bytes_beq _ _).1 hq) this
      simp only [Instr.sameNow, key]
  · cases h
theorem findNow_ok {kind : TypeDesc} {td : TD} (hkd : (∃ k, kind = .int k ∧ td = .int k) ∨ (kind = .string ∧ td = .string)) {w : World} {o : Nat → Prop} {x : A} {u : Value} (hu : Rep w o x u) (ht : keyTd td x = true) :
    ∀ (es : List (A × A)) (ms : List MapEntry) (i : Nat), ms.length = es.length → (∀ j (hj : j < es.length), ∃ m, ms[j]? = some m ∧ Rep w o es[j].1 m.key ∧ Rep w o es[j].2 m.val) → ∀ r, findM x es = some r →
    (r = none ∧ Instr.findNow kind u ms i = some none) ∨ ∃ j v v', r = some (j, v) ∧ j < es.length ∧ Instr.findNow kind u ms i = some (some (i + j, v')) ∧ Rep w o v v'
  | [], ms, i, hl, _, r, h => by
    have : ms = [] := by simpa using hl
    subst this
    simp only [findM] at h
    cases h
    exact .inl ⟨rfl, rfl⟩
  | (k, v) :: es, [], i, hl, _, r, h => by simp at hl
  | (k, v) :: es, m :: ms, i, hl, hm, r, h => by
    obtain ⟨m', h1, h2, h3⟩ := hm 0 (by simp)
    simp at h1 h2 h3
    subst h1
    simp only [findM] at h
    split at h
    · rename_i hk
      cases h
      refine .inr ⟨0, v, m.val, rfl, by simp, ?_, h3⟩
      simp only [Instr.findNow, sameNow_ok hkd hu h2 ht hk, Nat.add_zero]
    · rename_i hk
      have hs := sameNow_ok hkd hu h2 ht hk
      have ih := findNow_ok hkd hu ht es ms (i + 1) (by simpa using hl) fun j hj => by
        have := hm (j + 1) (by simpa using hj)
        simpa using this
      split at h
      · rename_i q w' hq
        cases h
        rcases ih _ hq with ⟨e, _⟩ | ⟨j, v1, v2, e, hj, e2, hr⟩
        · cases e
        · cases e
          refine .inr ⟨q + 1, w', v2, rfl, by simp; omega, ?_, hr⟩
          simp only [Instr.findNow, hs, e2]
          congr 3; omega
      · rename_i hq
        cases h
        rcases ih _ hq with ⟨_, e2⟩ | ⟨j, v1, v2, e, _⟩
        · exact .inl ⟨rfl, by simp only [Instr.findNow, hs, e2]⟩
        · cases e
      · cases h
    · cases h
theorem kind_of {kt : Nat} {ki : TI} (hk : TIOk P kt ki) {x : A} (h : keyTd ki.td x = true) : ∃ kind, P.underlying kt = some kind ∧ ((∃ k, kind = .int k ∧ ki.td = .int k) ∨ (kind = .string ∧ ki.td = .string)) := by
  unfold keyTd at h
  split at h
  · rename_i htd; exact ⟨_, td_int hk htd, .inl ⟨_, rfl, htd⟩⟩
  · rename_i htd; exact ⟨_, td_string hk htd, .inr ⟨rfl, htd⟩⟩
  · cases h
theorem zeroA_run {t : Nat} {i : TI} (h : TIOk P t i) (w : World) : ∃ z, (zeroValue t).run P w = .ok z w ∧ ∀ w o, Rep w o (zeroA i) z := by
  obtain ⟨z, h1, _, _, h4⟩ := zero_run h w
  exact ⟨z, h1, h4⟩
theorem AOp.makeMap {t : TypeId} (hd : dstOk N dst = true) (k : ∀ r, r ∉ keys H → AOps P N ops rest Q (put dst (.map r) T) ((r, .map []) :: H)) :
    AOp P N ops { dst := dst, op := .makeMap t none, type := ty, pos := pos, after := after, guard := guard } rest Q T H := by
  refine AOp.sem (R := fun v' H' => ∃ r, r ∉ keys H ∧ v' = .map r ∧ H' = (r, .map []) :: H) (fun fr w act s st => ?_) hd ?_
  · refine ⟨w.alloc (.map #[] 0), _, .map (some w.heap.size), _, .inl ?_, ⟨w.heap.size, (own_new s).1, rfl, rfl⟩, s.new ?_, .map _, Ext.new H w _ _⟩
    · simp only [execOp, Option.map_none, Instr.makeMap, Sem.run_bind, run_newObj, Result.andThen_ok, Sem.run_pure]; rfl
    · exact ⟨#[], 0, by rw [heap_alloc_new], rfl, fun i hi => absurd hi (Nat.not_lt_zero i)⟩
  · rintro v' H' ⟨r, h1, rfl, rfl⟩
    exact k r h1
def lookR (ok : Bool) (ei : TI) : Option (Nat × A) → A
  | some (_, v) => match ok with | true => .tup [v, .bool true] | false => v
  | none => match ok with | true => .tup [zeroA ei, .bool false] | false => zeroA ei
theorem AOp.lookup {t kt et : TypeId} {x ix : Operand} {ok : Bool} {r : Nat} {es : List (A × A)} {key : A} {ti ki ei : TI} {res : Option (Nat × A)} (hL : LayOk P L) (hx : ev T x = some (.map r)) (hm : (r, Blk.map es) ∈ H) (hi : ev T ix = some key)
    (ht : lay L t = some ti) (htd : ti.td = .map kt et) (hki : lay L kt = some ki) (hkt : keyTd ki.td key = true) (hei : lay L et = some ei) (hf : findM key es = some res) (hd : dstOk N dst = true)
    (kk : AOps P N ops rest Q (put dst (lookR ok ei res) T) H) : AOp P N ops { dst := dst, op := .lookup t x ix ok, type := ty, pos := pos, after := after, guard := guard } rest Q T H :=
  AOp.pure (fun fr w act s st => by
    have hu := ev_rep st hx
    generalize h1 : act.eval x = u at hu
    cases hu
    have hv := ev_rep st hi
    obtain ⟨e, clock, hg, hsz, hes⟩ := s.ok _ hm
    obtain ⟨kind, hkind, hkd⟩ := kind_of (hL _ _ hki) hkt
    have hund := td_map (hL _ _ ht) htd
    obtain ⟨z, hz, hzr⟩ := zeroA_run (hL _ _ hei) w
    have hck := checkKey_run (hL _ _ hki) hv hkt e.isEmpty
    have hget : (getObj r).run P w = .ok (.map e clock) w := by simp [getObj, Sem.run, hg]
    rcases findNow_ok hkd hv hkt es e.toList 0 (by simpa using hsz) (fun j hj => by
      obtain ⟨m, k1, k2, k3⟩ := hes j hj
      exact ⟨m, by simpa using k1, k2, k3⟩) res hf with ⟨rfl, hfn⟩ | ⟨j, v1, v2, rfl, hj, hfn, hr⟩
    · have hfk : (Instr.findKey kt (act.eval ix) e.toList).run P w = .ok none w := by
        simp [Instr.findKey, underlying, hkind, hfn]
      cases ok with
      | true => exact ⟨.tuple #[z, .bool false], by simp [execOp, h1, Instr.lookup, underlying, hund, hget, hck, hfk, hz], Rep.tup_of (.cons (hzr _ _) (.cons (.bool false) .nil))⟩
      | false => exact ⟨z, by simp [execOp, h1, Instr.lookup, underlying, hund, hget, hck, hfk, hz], hzr _ _⟩
    · have hfk : (Instr.findKey kt (act.eval ix) e.toList).run P w = .ok (some (0 + j, v2)) w := by
        simp [Instr.findKey, underlying, hkind, hfn]
      cases ok with
      | true => exact ⟨.tuple #[v2, .bool true], by simp [execOp, h1, Instr.lookup, underlying, hund, hget, hck, hfk, hz], Rep.tup_of (.cons hr (.cons (.bool true) .nil))⟩
      | false => exact ⟨v2, by simp [execOp, h1, Instr.lookup, underlying, hund, hget, hck, hfk, hz], hr⟩) hd kk
/-- An object of the call's own that is no row is written. -/
theorem Ext.putObj {H H' : Heap} {r : Nat} {b b' : Blk} {w : World} (hat : At H r b b' H') (o : Obj) (ho : ∀ c T f, o ≠ .cells c T f) : Ext H w H' { w with heap := w.heap.setIfInBounds r o } where
  os := rfl
  tape := rfl
  output := rfl
  size := by simp
  same k hk hn := by
    have : r ≠ k := fun e => hn (e ▸ List.mem_map.2 ⟨_, hat.mem, rfl⟩)
    simp [Array.getElem?_setIfInBounds_ne this]
  keys k hk := by rw [hat.keys] at hk; exact .inl hk
  shape k hk d T f h := by
    by_cases hkr : r = k
    · subst hkr
      simp [hk] at h
      exact absurd h (ho _ _ _)
    · simp [Array.getElem?_setIfInBounds_ne hkr] at h; exact ⟨d, f, by simpa using h, rfl⟩
theorem Sim.putObj {fr : Nat → Prop} {H H' : Heap} {r : Nat} {b b' : Blk} {w : World} (s : Sim fr H w) (hat : At H r b b' H') (o : Obj) (ho : ∀ c T f, o ≠ .cells c T f)
    (hb : BlkOk { w with heap := w.heap.setIfInBounds r o } (own fr H') r b') : Sim fr H' { w with heap := w.heap.setIfInBounds r o } where
  nodup := by rw [hat.keys]; exact s.nodup
  apart k hk := s.apart k (by rw [← hat.keys]; exact hk)
  old k h := by have := s.old k h; simpa using this
  ok p hp := by
    rcases hat.cases' s.nodup p hp with rfl | ⟨h1, h2⟩
    · exact hb
    · exact (s.ok p h1).mono (Ext.putObj hat o ho).stays (by simp [Array.getElem?_setIfInBounds_ne (Ne.symm h2)])
theorem sameBits_key {w : World} {o : Nat → Prop} {x k : A} {u v : Value} (hu : Rep w o x u) (hv : Rep w o k v) (h : keyEq x k = some true) (n : Nat) : Instr.sameBits n v u = true := by
  unfold keyEq at h
  split at h
  · split at h
    · rename_i hk
      have hk := of_decide_eq_true hk
      subst hk
      have h := eq_of_beq (Option.some.inj h)
      cases hu; cases hv
      subst h
      cases n <;> simp [Instr.sameBits]
    · cases h
  · have h := eq_of_beq (Option.some.inj h)
    cases hu; cases hv
    subst h
    cases n <;> simp [Instr.sameBits, MapKept.bytes_beq]
  · cases h
theorem findM_at {x : A} : ∀ {es : List (A × A)} {i : Nat} {v : A}, findM x es = some (some (i, v)) → ∃ k, es[i]? = some (k, v) ∧ keyEq x k = some true
  | [], i, v, h => by simp [findM] at h
  | (k, u) :: es, i, v, h => by
    simp only [findM] at h
    split at h
    · rename_i hk; cases h; exact ⟨k, rfl, hk⟩
    · split at h
      · rename_i j u' hj
        cases h
        obtain ⟨k', h1, h2⟩ := findM_at hj
        exact ⟨k', by simpa using h1, h2⟩
      · cases h
      · cases h
    · cases h
theorem AOp.mapUpdate {t kt et : TypeId} {x ix y : Operand} {r : Nat} {es es' : List (A × A)} {key v : A} {ti ki : TI} {H' : Heap} (hL : LayOk P L) (hx : ev T x = some (.map r)) (hi : ev T ix = some key) (hy : ev T y = some v)
    (ht : lay L t = some ti) (htd : ti.td = .map kt et) (hki : lay L kt = some ki) (hkt : keyTd ki.td key = true) (hf : putM es key v = some es') (hat : At H r (.map es) (.map es') H') (hd : dstOk N dst = true)
    (kk : AOps P N ops rest Q (put dst (.tup []) T) H') : AOp P N ops { dst := dst, op := .mapUpdate t x ix y, type := ty, pos := pos, after := after, guard := guard } rest Q T H := by
  refine AOp.sem (R := fun v' K => v' = .tup [] ∧ K = H') (fun fr w act s st => ?_) hd ?_
  · have hu := ev_rep st hx
    generalize h1 : act.eval x = u at hu
    cases hu
    have hv := ev_rep st hi
    have hw := ev_rep st hy
    obtain ⟨e, clock, hg, hsz, hes⟩ := s.ok _ hat.mem
    obtain ⟨kind, hkind, hkd⟩ := kind_of (hL _ _ hki) hkt
    have hund := td_map (hL _ _ ht) htd
    have hck := checkKey_run (hL _ _ hki) hv hkt false
    have hget : (getObj r).run P w = .ok (.map e clock) w := by simp [getObj, Sem.run, hg]
    have hset : ∀ o, (setObj r o).run P w = .ok () { w with heap := w.heap.setIfInBounds r o } := fun o => by simp [setObj, Sem.run, hg]
    have hlt : r < w.heap.size := (Array.getElem?_eq_some_iff.1 hg).1
    unfold putM at hf
    have hent : ∀ j (hj : j < es.length), ∃ m, e.toList[j]? = some m ∧ Rep w (own fr H) es[j].1 m.key ∧ Rep w (own fr H) es[j].2 m.val := fun j hj => by
      obtain ⟨m, k1, k2, k3⟩ := hes j hj
      exact ⟨m, by simpa using k1, k2, k3⟩
    split at hf
    · rename_i j vv hj
      cases hf
      rcases findNow_ok hkd hv hkt es e.toList 0 (by simpa using hsz) hent _ hj with ⟨e1, _⟩ | ⟨j', v1, v2, e1, hjl, hfn, hr⟩
      · cases e1
      · cases e1
        have hfk : (Instr.findKey kt (act.eval ix) e.toList).run P w = .ok (some (0 + j, v2)) w := by
          simp [Instr.findKey, underlying, hkind, hfn]
        obtain ⟨m, k1, k2, k3⟩ := hent j hjl
        obtain ⟨kk', q1, q2⟩ := findM_at hj
        have hkk : es[j].1 = kk' := by
          have := (List.getElem?_eq_some_iff.1 q1).2
          rw [this]
        rw [hkk] at k2
        have hsb := sameBits_key hv k2 q2 10000
        have k1' : e[j]? = some m := by simpa using k1
        have hstay : (Instr.keyThatStays (((e[0 + j]?).map (·.key)).getD (act.eval ix)) (act.eval ix)).run P w = .ok (act.eval ix) w := by
          simp [Instr.keyThatStays, k1', hsb]
        let o' : Obj := .map (e.modify (0 + j) fun z => { z with key := act.eval ix, val := act.eval y }) clock
        have hne : ∀ c T f, o' ≠ Obj.cells c T f := fun c T f h => Obj.noConfusion h
        refine ⟨{ w with heap := w.heap.setIfInBounds r o' }, _, undef, H', .inr ⟨?_, rfl⟩, ⟨rfl, rfl⟩, s.putObj hat _ hne ?_, Rep.tup_of .nil, Ext.putObj hat _ hne⟩
        · simp only [Nat.zero_add] at hstay
          simp [execOp, h1, Instr.mapUpdate, underlying, hund, hget, hck, hfk, hset, o', -Array.getElem?_toList]
          have e1 : (Option.map (fun x => x.key) e[j]?).getD (act.eval ix) = ((e[j]?).map (·.key)).getD (act.eval ix) := rfl
          simp [e1, hstay, hset]
        · refine ⟨e.modify (0 + j) fun z => { z with key := act.eval ix, val := act.eval y }, clock, by simp [hlt, o'], by simp [hsz], fun i hi => ?_⟩
          have hil : i < es.length := by simpa using hi
          have st' := (Ext.putObj (w := w) hat o' hne).stays (fr := fr)
          by_cases hij : i = j
          · subst hij
            refine ⟨{ m with key := act.eval ix, val := act.eval y }, ?_, ?_, ?_⟩
            · simp [Array.getElem?_modify, k1']
            · simp; exact hv.mono st'
            · simp; exact hw.mono st'
          · obtain ⟨m2, l1, l2, l3⟩ := hes i hil
            refine ⟨m2, ?_, ?_, ?_⟩
            · rw [Array.getElem?_modify, if_neg (by omega)]; exact l1
            · rw [List.getElem_set_ne (by omega)]; exact l2.mono st'
            · rw [List.getElem_set_ne (by omega)]; exact l3.mono st'
    · rename_i hj
      cases hf
      rcases findNow_ok hkd hv hkt es e.toList 0 (by simpa using hsz) hent _ hj with ⟨_, hfn⟩ | ⟨j', v1, v2, e1, _⟩
      · have hfk : (Instr.findKey kt (act.eval ix) e.toList).run P w = .ok none w := by
          simp [Instr.findKey, underlying, hkind, hfn]
        let o' : Obj := .map (e.push { key := act.eval ix, val := act.eval y, born := clock }) (clock + 1)
        have hne : ∀ c T f, o' ≠ Obj.cells c T f := fun c T f h => Obj.noConfusion h
        refine ⟨{ w with heap := w.heap.setIfInBounds r o' }, _, undef, H', .inr ⟨?_, rfl⟩, ⟨rfl, rfl⟩, s.putObj hat _ hne ?_, Rep.tup_of .nil, Ext.putObj hat _ hne⟩
        · simp [execOp, h1, Instr.mapUpdate, underlying, hund, hget, hck, hfk, hset, o']
        · refine ⟨e.push { key := act.eval ix, val := act.eval y, born := clock }, clock + 1, by simp [hlt, o'], by simp [hsz], fun i hi => ?_⟩
          have st' := (Ext.putObj (w := w) hat o' hne).stays (fr := fr)
          by_cases hij : i < es.length
          · obtain ⟨m2, l1, l2, l3⟩ := hes i hij
            refine ⟨m2, ?_, ?_, ?_⟩
            · rw [Array.getElem?_push_lt (by omega)]
              have := (Array.getElem?_eq_some_iff.1 l1)
              obtain ⟨hh, he⟩ := this
              simp [he]
            · rw [List.getElem_append_left hij]; exact l2.mono st'
            · rw [List.getElem_append_left hij]; exact l3.mono st'
          · have hie : i = es.length := by simp at hi; omega
            subst hie
            refine ⟨{ key := act.eval ix, val := act.eval y, born := clock }, by simp [← hsz], ?_, ?_⟩
            · simp; exact hv.mono st'
            · simp; exact hw.mono st'
      · cases e1
    · cases hf
  · rintro v' H' ⟨rfl, rfl⟩
    exact kk
end
end Go.Abs

namespace Go.Abs
open Go
set_option linter.unusedVariables false
set_option linter.unusedSimpArgs false
/-! Pointers that pass through unsafe.Pointer, and unsafe.String. -/
section
variable {P : Program} {N : Nat} {Q : Exit → Env → Heap → Prop} {T : Env} {H : Heap} {ops rest : List Oper} {L : Lay} {dst : Option Nat} {ty : TypeId} {pos : String} {after : Array Edge} {guard : Option (Nat × Bool)}
theorem Sim.shape {fr : Nat → Prop} {w : World} (s : Sim fr H w) {r Te sz : Nat} {elems : List (List A)} (hm : (r, Blk.row Te sz elems) ∈ H) : ∃ n, w.shape? r = some (Te, n) ∧ elems.length * sz ≤ n := by
  obtain ⟨c, h1, h2, _⟩ := s.ok _ hm
  exact ⟨c.size, by simp only [World.shape?, h1], h2⟩
theorem AOp.toUnsafe {src dt t r sz i o Te : Nat} {x : Operand} {elems : List (List A)} {ti : TI} (hL : LayOk P L) (hs : P.underlying src = some (.pointer t)) (hdt : P.underlying dt = some .unsafePointer) (hti : lay L t = some ti) (hz : Nat.beq ti.size 0 = false)
    (hx : ev T x = some (.ptr r sz i o)) (hm : (r, Blk.row Te sz elems) ∈ H) (hlt : Nat.blt (i * sz + o) (elems.length * sz) = true) (hd : dstOk N dst = true) (kk : AOps P N ops rest Q (put dst (.ptr r sz i o) T) H) :
    AOp P N ops { dst := dst, op := .convert src dt x, type := ty, pos := pos, after := after, guard := guard } rest Q T H :=
  AOp.pure (fun fr w act s st => by
    have hu := ev_rep st hx
    generalize h1 : act.eval x = u at hu
    cases hu
    obtain ⟨n, h2, h3⟩ := s.shape hm
    obtain ⟨j, z, k1, k2, _⟩ := (hL _ _ hti).info
    have hlt := of_decide_eq_true (by simpa only [Nat.blt_eq, decide_eq_true_eq] using hlt : decide (i * sz + o < elems.length * sz) = true)
    have hj : j.size ≠ 0 := by rw [k2]; intro e; rw [e] at hz; cases hz
    have := Lib.run_to_unsafe (P := P) w (src := src) (dst := dt) ⟨r, i * sz + o, none⟩ hs hdt k1 hj h2 (by show i * sz + o < n; omega)
    exact ⟨.pointer (some ⟨r, i * sz + o, none⟩), by simp only [execOp, h1, Sem.run_bind, this, Result.andThen_ok, Sem.run_pure], .ptr _ _ _ _⟩) hd kk
theorem liesAt_self {e : TypeId} {s count : Nat} (hc : P.cellsOf e = s) (hs : s ≠ 0) (hn : 1 ≤ count) : liesAt P P.depth e count 0 e 1 = true := by
  have hd : P.depth = (2 * (P.types.size + Made.depth) + 1) + 1 := rfl
  rw [hd]
  simp only [liesAt, Bool.or_eq_true]
  left
  rw [hd]
  simp [rowAt, hc, hs, hn, sameLayout]
theorem cellsOf_of {t : Nat} {i : TI} (h : TIOk P t i) : P.cellsOf t = i.size := by
  obtain ⟨n, z, h1, h2, _⟩ := h.info
  simp [Program.cellsOf, h1, h2]
theorem AOp.fromUnsafe {src dt u r sz : Nat} {x : Operand} {elems : List (List A)} {ti : TI} (hL : LayOk P L) (hs : P.underlying src = some .unsafePointer) (hdt : P.underlying dt = some (.pointer u)) (hti : lay L u = some ti) (hz : Nat.beq ti.size 0 = false)
    (hsz : Nat.beq ti.size sz = true) (hne : Nat.beq elems.length 0 = false)
    (hx : ev T x = some (.ptr r sz 0 0)) (hm : (r, Blk.row u sz elems) ∈ H) (hd : dstOk N dst = true) (kk : AOps P N ops rest Q (put dst (.ptr r sz 0 0) T) H) :
    AOp P N ops { dst := dst, op := .convert src dt x, type := ty, pos := pos, after := after, guard := guard } rest Q T H :=
  AOp.pure (fun fr w act s st => by
    have hu := ev_rep st hx
    generalize h1 : act.eval x = v at hu
    cases hu
    obtain ⟨n, h2, h3⟩ := s.shape hm
    obtain ⟨j, z, k1, k2, _⟩ := (hL _ _ hti).info
    have hj : ti.size ≠ 0 := by intro e; rw [e] at hz; cases hz
    have hsz := Nat.eq_of_beq_eq_true hsz
    have hl : elems.length ≠ 0 := by intro e; rw [e] at hne; cases hne
    have hc := cellsOf_of (hL _ _ hti)
    have h1n : 1 ≤ n / P.cellsOf u := by
      rw [hc, hsz]
      rw [hsz] at hj
      refine (Nat.le_div_iff_mul_le (by omega)).2 ?_
      calc 1 * sz ≤ elems.length * sz := Nat.mul_le_mul_right _ (by omega)
        _ ≤ n := h3
    have := Lib.run_from_unsafe (P := P) w (src := src) (dst := dt) ⟨r, 0, none⟩ hs hdt k1 h2 (liesAt_self hc hj h1n)
    have h1' : act.eval x = Value.pointer (some ⟨r, 0, none⟩) := by rw [h1]; simp
    have hr := Rep.ptr (w := w) (own := own fr H) r sz 0 0
    simp only [Nat.zero_mul, Nat.add_zero] at hr
    exact ⟨.pointer (some ⟨r, 0, none⟩), by simp only [execOp, h1', Sem.run_bind, this, Result.andThen_ok, Sem.run_pure], hr⟩) hd kk
theorem AOp.ptrSame {op : BinOp} {xt yt e : TypeId} {x y : Operand} {r sz i o : Nat} {v : A} {ei : TI} (hL : LayOk P L) (hs : P.underlying xt = some (.pointer e)) (hei : lay L e = some ei) (hx : ev T x = some (.ptr r sz i o)) (hy : ev T y = some (.ptr r sz i o))
    (h : (match op with | .eql => some (A.bool true) | .neq => some (A.bool false) | _ => none) = some v) (hd : dstOk N dst = true) (kk : AOps P N ops rest Q (put dst v T) H) :
    AOp P N ops { dst := dst, op := .binOp op xt x y yt, type := ty, pos := pos, after := after, guard := guard } rest Q T H :=
  AOp.pure (fun fr w act s st => by
    have hu := ev_rep st hx
    generalize h1 : act.eval x = u at hu
    have hv := ev_rep st hy
    generalize h2 : act.eval y = v at hv
    cases hu
    cases hv
    obtain ⟨j, z, k1, k2, _⟩ := (hL _ _ hei).info
    have hq : ∀ d : Nat, (Op.equalIn (d + 1) xt (.pointer (some ⟨r, i * sz + o, none⟩)) (.pointer (some ⟨r, i * sz + o, none⟩))).run P w = .ok true w := fun d => by
      simp [Op.equalIn, run_underlying hs, sizeOf, typeInfo, k1, run_sameAddr_same]
    have hg : ∀ op, eqGuard op xt x y (.pointer (some ⟨r, i * sz + o, none⟩)) (.pointer (some ⟨r, i * sz + o, none⟩)) = Pure.pure () := fun op => guard_ref rfl
    have hb1 : binOp .eql xt (.pointer (some ⟨r, i * sz + o, none⟩)) (.pointer (some ⟨r, i * sz + o, none⟩)) = _ := binOp_ref_eql rfl rfl
    have hb2 : binOp .neq xt (.pointer (some ⟨r, i * sz + o, none⟩)) (.pointer (some ⟨r, i * sz + o, none⟩)) = _ := binOp_ref_neq rfl rfl
    cases op <;> simp only at h <;> first | (cases h; done) | skip
    · cases h
      exact ⟨.bool true, by simp only [execOp, h1, h2, Sem.run_bind, hg, Sem.run_pure, Result.andThen_ok, hb1, equal_unf, hq], .bool _⟩
    · cases h
      exact ⟨.bool false, by simp only [execOp, h1, h2, Sem.run_bind, hg, Sem.run_pure, Result.andThen_ok, hb2, equal_unf, hq, Bool.not_true], .bool _⟩) hd kk
/-- A function without a body that hands its argument back. -/
theorem AOp.callSame {callee y : Operand} {ats : Array TypeId} {f : FuncId} {fn : Func} {v : A} (hf : ev T callee = some (.fn f [] [])) (hy : ev T y = some v) (hfn : P.funcs[f]? = some fn) (hname : (fn.name == "runtime.NumGoroutine") = false)
    (hb : fn.body.isNone = true) (hn : Extern.findNext fn = none) (he : Extern.find fn = some Extern.AbiNoEscape.same) (hd : dstOk N dst = true) (kk : AOps P N ops rest Q (put dst v T) H) :
    AOp P N ops { dst := dst, op := .call { callee := .value callee, args := [y].toArray, argTypes := ats }, type := ty, pos := pos, after := after, guard := guard } rest Q T H :=
  AOp.pure (fun fr w act s st => by
    obtain ⟨fs, cs, e1, e2, e3⟩ := (ev_rep st hf).fn_inv
    have hv := ev_rep st hy
    have e2' : fs = #[] := by have := e2.length; simpa using this
    have e3' : cs = #[] := by have := e3.length; simpa using this
    subst e2' e3'
    have := run_callFunc_extern hfn hname hb hn he #[act.eval y] w
    exact ⟨act.eval y, by
      simp only [execOp, resolve, Deferred.ofValue, invoke, Sem.run_bind, Sem.run_pure, Result.andThen_ok, List.map_toArray, List.map_cons, List.map_nil, e1]
      simpa [Lib.run_noEscape] using this, hv⟩) hd kk
/-- unsafe.String over bytes of the call's own: nobody writes them any more. -/
def bytesOf : List (List A) → Option (List UInt8)
  | [] => some []
  | [.int .u8 n] :: l => match decide (inR .u8 n) with
    | true => match bytesOf l with
      | some s => some (n.toNat.toUInt8 :: s)
      | none => none
    | false => none
  | _ => none
theorem bytesOf_get : ∀ {l : List (List A)} {s : List UInt8}, bytesOf l = some s → s.length = l.length ∧ ∀ (j : Nat) (x : UInt8), s[j]? = some x → l[j]? = some [A.int .u8 (x.toNat : Int)]
  | [], s, h => by simp only [bytesOf] at h; cases h; exact ⟨rfl, fun j x h => by simp at h⟩
  | e :: l, s, h => by
    unfold bytesOf at h
    split at h
    · cases ‹_ :: _ = []›
    · rename_i n l' heq
      cases heq
      split at h
      · rename_i hn
        have hn := inR_u8.1 (of_decide_eq_true hn)
        split at h
        · rename_i s' hs
          cases h
          obtain ⟨h1, h2⟩ := bytesOf_get hs
          refine ⟨by simp [h1], fun j x hj => ?_⟩
          cases j with
          | zero =>
            simp at hj
            subst hj
            obtain ⟨m, rfl⟩ := Int.eq_ofNat_of_zero_le hn.1
            have hm : m < 256 := by omega
            simp
            omega
          | succ j => simpa using h2 j x (by simpa using hj)
        · cases h
      · cases h
    · cases h
theorem AOp.unsafeStr {x y : Operand} {pt it e r : Nat} {elems : List (List A)} {n : Nat} {s : List UInt8} {Hr : Heap} {ei : TI} (hL : LayOk P L) (hp : P.underlying pt = some (.pointer e)) (hei : lay L e = some ei) (he1 : Nat.beq ei.size 1 = true)
    (hx : ev T x = some (.ptr r 1 0 0)) (hy : ev T y = some (.int .i64 n)) (hH : H.Perm ((r, .row e 1 elems) :: Hr)) (hs : bytesOf (elems.take n) = some s) (hle : n ≤ elems.length) (hn0 : 0 < n) (hmax : n ≤ maxLen) (hd : dstOk N dst = true)
    (kk : AOps P N ops rest Q (put dst (.str s) T) Hr) :
    AOp P N ops { dst := dst, op := .call { callee := .builtin .unsafeString, args := [x, y].toArray, argTypes := [pt, it].toArray }, type := ty, pos := pos, after := after, guard := guard } rest Q T H := by
  refine AOp.sem (R := fun v' H' => v' = .str s ∧ H' = Hr) (fun fr w act sm st => ?_) hd (fun v H' h => by obtain ⟨rfl, rfl⟩ := h; exact kk)
  have hu := ev_rep st hx
  generalize h1 : act.eval x = v at hu
  cases hu
  have hv := ev_rep st hy
  generalize h2 : act.eval y = v2 at hv
  cases hv
  have sm := sm.perm hH
  obtain ⟨c, g1, g2, g3, g4⟩ := sm.ok _ List.mem_cons_self
  have hnd := List.nodup_cons.1 (show (r :: keys Hr).Nodup from sm.nodup)
  obtain ⟨b1, b2⟩ := bytesOf_get hs
  have hsl : s.length = n := by rw [b1]; simp; omega
  have hcell : ∀ j x, s[j]? = some x → w.cell? ((⟨r, 0, none⟩ : Addr).add j) = some (.int .u8 x.toNat) := fun j x hj => by
    have hj' := b2 j x hj
    rw [List.getElem?_take] at hj'
    split at hj'
    case isFalse => cases hj'
    obtain ⟨hi, he⟩ := List.getElem?_eq_some_iff.1 hj'
    obtain ⟨v, k1, k2, _⟩ := g4 j hi 0 (by rw [he]; simp)
    simp only [he] at k2
    cases k2
    rw [add_plain]
    simp only [World.cell?, g1]
    simpa using k1
  have hrun := Lib.run_unsafeString_row (P := P) w pt it ty e hp (by rw [cellsOf_of (hL _ _ hei)]; exact Nat.eq_of_beq_eq_true he1) r c.size (by simp only [World.shape?, g1]) s (by intro e; rw [e] at hsl; simp at hsl; omega) (by rw [hsl]; omega)
    (by rw [hsl]; unfold maxLen at hmax; omega) hcell
  rw [hsl] at hrun
  have hfz : ∃ f, (w.freeze ⟨r, 0, none⟩ n).heap[r]? = some (.cells c e f) ∧ (∀ k, k ≠ r → (w.freeze ⟨r, 0, none⟩ n).heap[k]? = w.heap[k]?) ∧ (w.freeze ⟨r, 0, none⟩ n).heap.size = w.heap.size := by
    have g1' : w.heap[r]? = some (.cells c e (0, 0)) := g1
    have hn' : n ≠ 0 := by omega
    refine ⟨(0, n), by simp [World.freeze, hn', Array.getElem?_modify, g1'], fun k hk => by simp [World.freeze, hn', Array.getElem?_modify, Ne.symm hk], by simp [World.freeze, hn']⟩
  obtain ⟨f, f1, f2, f3⟩ := hfz
  generalize hw : w.freeze ⟨r, 0, none⟩ n = w' at *
  have hn' : n ≠ 0 := by omega
  have hE : Ext H w Hr w' := ⟨by rw [← hw]; simp [World.freeze, hn'], by rw [← hw]; simp [World.freeze, hn'], by rw [← hw]; simp [World.freeze, hn'], by omega, fun k _ hk => f2 k (fun h => hk (by subst h; exact (hH.map _).mem_iff.2 (List.mem_cons_self ..))), fun k hk => .inl ((hH.map _).mem_iff.2 (List.mem_cons_of_mem _ hk)), fun k hk c' T' f' h => by
    by_cases hkr : k = r
    · subst hkr; rw [f1] at h; cases h; exact ⟨c, _, g1, rfl⟩
    · rw [f2 k hkr] at h; exact ⟨c', f', h, rfl⟩⟩
  have hst := hE.stays (fr := fr)
  refine ⟨w', _, .string ⟨s.toArray⟩, Hr, .inl ?_, ⟨rfl, rfl⟩, ⟨hnd.2, fun k hk => sm.apart k (List.mem_cons_of_mem _ hk), fun k hk => by have := sm.old k hk; omega, fun p hp => ?_⟩, .str s (by omega), hE⟩
  · simp only [execOp, resolve, invoke, builtin, Sem.run_bind, Sem.run_pure, Result.andThen_ok, List.map_toArray, List.map_cons, List.map_nil, h1, h2]
    have h00 : (0 * 1 + 0 : Nat) = 0 := rfl
    rw [h00]
    simp only [hrun, Result.andThen_ok]
  · refine (sm.ok p (List.mem_cons_of_mem _ hp)).mono (by rw [← own_perm hH]; exact hst) (f2 _ fun h => hnd.1 (List.mem_map.2 ⟨p, hp, h⟩))
theorem AOp.unsafeStr0 {x y : Operand} {pt it : Nat} {v : A} (hx : ev T x = some v) (hv : v = .nilp ∨ ∃ r sz i o, v = .ptr r sz i o) (hy : ev T y = some (.int .i64 0)) (hd : dstOk N dst = true)
    (kk : AOps P N ops rest Q (put dst (.str []) T) H) :
    AOp P N ops { dst := dst, op := .call { callee := .builtin .unsafeString, args := [x, y].toArray, argTypes := [pt, it].toArray }, type := ty, pos := pos, after := after, guard := guard } rest Q T H :=
  AOp.pure (fun fr w act s st => by
    have hu := ev_rep st hx
    have hu2 : ∃ q, act.eval x = .pointer q := by
      generalize act.eval x = u at hu
      rcases hv with rfl | ⟨r, sz, i, o, rfl⟩ <;> cases hu <;> exact ⟨_, rfl⟩
    obtain ⟨q, h1⟩ := hu2
    have hv := ev_rep st hy
    generalize h2 : act.eval y = v2 at hv
    cases hv
    have := Lib.run_unsafeString_none (P := P) w pt it ty q
    exact ⟨.string .empty, by
      simp only [execOp, resolve, invoke, builtin, Sem.run_bind, Sem.run_pure, Result.andThen_ok, List.map_toArray, List.map_cons, List.map_nil, h1, h2, this], .str [] (by simp)⟩) hd kk
end
end Go.Abs

namespace Go.Abs
open Go
set_option linter.unusedVariables false
set_option linter.unusedSimpArgs false
/-! Over the characters of a string. -/
section
variable {P : Program} {N : Nat} {Q : Exit → Env → Heap → Prop} {T : Env} {H : Heap} {ops rest : List Oper} {L : Lay} {dst : Option Nat} {ty : TypeId} {pos : String} {after : Array Edge} {guard : Option (Nat × Bool)}
theorem AOp.range {t : TypeId} {x : Operand} {s : List UInt8} {ti : TI} (hL : LayOk P L) (hx : ev T x = some (.str s)) (ht : lay L t = some ti) (htd : ti.td = .string) (hd : dstOk N dst = true)
    (k : ∀ r, r ∉ keys H → AOps P N ops rest Q (put dst (.ptr r 1 0 0) T) ((r, .iter s 0) :: H)) :
    AOp P N ops { dst := dst, op := .range t x, type := ty, pos := pos, after := after, guard := guard } rest Q T H := by
  refine AOp.sem (R := fun v' H' => ∃ r, r ∉ keys H ∧ v' = .ptr r 1 0 0 ∧ H' = (r, .iter s 0) :: H) (fun fr w act sm st => ?_) hd ?_
  · have hu := ev_rep st hx
    generalize h1 : act.eval x = u at hu
    cases hu
    have hr := Rep.ptr (w := w.alloc (.stringIter ⟨s.toArray⟩ 0)) (own := own fr ((w.heap.size, .iter s 0) :: H)) w.heap.size 1 0 0
    simp only [Nat.zero_mul, Nat.add_zero] at hr
    refine ⟨w.alloc (.stringIter ⟨s.toArray⟩ 0), _, .pointer (some ⟨w.heap.size, 0, none⟩), _, .inl ?_, ⟨w.heap.size, (own_new sm).1, rfl, rfl⟩, sm.new ?_, hr, Ext.new H w _ _⟩
    · simp only [execOp, h1, Instr.range, Sem.run_bind, run_underlying (td_string (hL _ _ ht) htd), run_newObj, Result.andThen_ok, Sem.run_pure]
      rfl
    · show (w.alloc _).heap[w.heap.size]? = _
      rw [heap_alloc_new]
  · rintro v' H' ⟨r, h1, rfl, rfl⟩
    exact k r h1
theorem AOp.nextOver {x : Operand} {r sz : Nat} {s : List UInt8} {p : Nat} (hx : ev T x = some (.ptr r sz 0 0)) (hm : (r, Blk.iter s p) ∈ H) (hp : s.length ≤ p) (hd : dstOk N dst = true) (kk : AOps P N ops rest Q (put dst (.tup [.bool false]) T) H) :
    AOp P N ops { dst := dst, op := .next x true, type := ty, pos := pos, after := after, guard := guard } rest Q T H :=
  AOp.pure (fun fr w act sm st => by
    have hu := ev_rep st hx
    generalize h1 : act.eval x = u at hu
    cases hu
    have hg : w.heap[r]? = some (.stringIter ⟨s.toArray⟩ p) := sm.ok _ hm
    have hget : (getObj r).run P w = .ok (.stringIter ⟨s.toArray⟩ p) w := by simp [getObj, Sem.run, hg]
    have hsz : ¬ p < (⟨s.toArray⟩ : ByteArray).size := by simp [ByteArray.size]; omega
    have h1' : act.eval x = .pointer (some ⟨r, 0, none⟩) := by rw [h1]; simp
    exact ⟨.tuple #[.bool false], by simp [execOp, h1', Instr.next, hget, hsz], Rep.tup_of (.cons (.bool _) .nil)⟩) hd kk
theorem AOp.next {x : Operand} {r sz : Nat} {s : List UInt8} {p c wd : Nat} {H' : Heap} (hx : ev T x = some (.ptr r sz 0 0)) (hat : At H r (.iter s p) (.iter s (p + wd)) H') (hp : p < s.length) (hdec : Utf8.decode ⟨s.toArray⟩ p = (c, wd)) (hc : inR .i32 c) (hpr : inR .i64 p) (hd : dstOk N dst = true)
    (kk : AOps P N ops rest Q (put dst (.tup [.bool true, .int .i64 p, .int .i32 c]) T) H') :
    AOp P N ops { dst := dst, op := .next x true, type := ty, pos := pos, after := after, guard := guard } rest Q T H := by
  refine AOp.sem (R := fun v' K => v' = .tup [.bool true, .int .i64 p, .int .i32 c] ∧ K = H') (fun fr w act sm st => ?_) hd (fun v H' h => by obtain ⟨rfl, rfl⟩ := h; exact kk)
  have hu := ev_rep st hx
  generalize h1 : act.eval x = u at hu
  cases hu
  have hg : w.heap[r]? = some (.stringIter ⟨s.toArray⟩ p) := sm.ok _ hat.mem
  have hlt : r < w.heap.size := (Array.getElem?_eq_some_iff.1 hg).1
  have hget : (getObj r).run P w = .ok (.stringIter ⟨s.toArray⟩ p) w := by simp [getObj, Sem.run, hg]
  have hset : ∀ o, (setObj r o).run P w = .ok () { w with heap := w.heap.setIfInBounds r o } := fun o => by simp [setObj, Sem.run, hg]
  have hsz : p < (⟨s.toArray⟩ : ByteArray).size := by simpa [ByteArray.size] using hp
  have h1' : act.eval x = .pointer (some ⟨r, 0, none⟩) := by rw [h1]; simp
  have hne : ∀ c T f, Obj.stringIter ⟨s.toArray⟩ (p + wd) ≠ Obj.cells c T f := fun c T f h => Obj.noConfusion h
  refine ⟨{ w with heap := w.heap.setIfInBounds r (.stringIter ⟨s.toArray⟩ (p + wd)) }, _, .tuple #[.bool true, goInt p, .int .i32 c], H', .inl ?_, ⟨rfl, rfl⟩, sm.putObj hat _ hne ?_, Rep.tup_of (.cons (.bool _) (.cons (.int _ _ hpr) (.cons (.int _ _ hc) .nil))), Ext.putObj hat _ hne⟩
  · simp [execOp, h1', Instr.next, hget, hsz, hdec, hset]
  · show ({ w with heap := w.heap.setIfInBounds r _ } : World).heap[r]? = _
    simp [hlt]
end
end Go.Abs

namespace Go.Abs
open Go
set_option linter.unusedVariables false
set_option linter.unusedSimpArgs false
/-! nil slices: cap, parts, append of nothing, append of zeros. -/
section
variable {P : Program} {N : Nat} {Q : Exit → Env → Heap → Prop} {T : Env} {H : Heap} {ops rest : List Oper} {L : Lay} {dst : Option Nat} {ty : TypeId} {pos : String} {after : Array Edge} {guard : Option (Nat × Bool)}
theorem AOp.capNil {t e : TypeId} {x : Operand} {ti : TI} (hL : LayOk P L) (hx : ev T x = some .nils) (ht : lay L t = some ti) (he : ti.td = .slice e) (hd : dstOk N dst = true) (kk : AOps P N ops rest Q (put dst (.int .i64 0) T) H) :
    AOp P N ops { dst := dst, op := .call { callee := .builtin .cap, args := [x].toArray, argTypes := [t].toArray }, type := ty, pos := pos, after := after, guard := guard } rest Q T H :=
  AOp.pure (fun fr w act _ st => by
    have hu := ev_rep st hx
    generalize h1 : act.eval x = u at hu
    cases hu
    exact ⟨.int .i64 0, by simp only [execOp, resolve, invoke, builtin, Sem.run_bind, Sem.run_pure, Result.andThen_ok, List.map_toArray, List.map_cons, List.map_nil, h1]; simp [Builtin.cap_, goInt, run_underlying (td_slice (hL _ _ ht) he)], .int _ _ (by decide)⟩) hd kk
theorem AOp.sliceNil {t e : TypeId} {x : Operand} {lo hi : Option Operand} {ti ei : TI} (hL : LayOk P L) (hx : ev T x = some .nils) (hl : bnd T 0 lo = some 0) (hh : bnd T 0 hi = some 0) (ht : lay L t = some ti) (he : ti.td = .slice e) (hei : lay L e = some ei) (hd : dstOk N dst = true)
    (kk : AOps P N ops rest Q (put dst .nils T) H) : AOp P N ops { dst := dst, op := .slice t x lo hi none, type := ty, pos := pos, after := after, guard := guard } rest Q T H :=
  AOp.pure (fun fr w act s st => by
    have hund := td_slice (hL _ _ ht) he
    have hu := ev_rep st hx
    generalize h1 : act.eval x = u at hu
    cases hu
    have hb := sliceBounds_run (P := P) (w := w) (isS := true) (len := 0) (cap := 0) st hl hh (Int.le_refl _) (Int.le_refl _) (by simp)
    refine ⟨.slice none 0 0, ?_, .nils⟩
    simp only [execOp, h1, Instr.sliceAt, Instr.slice, Sem.run_bind, Sem.run_pure, Result.andThen_ok, run_underlying hund, Option.map_none, hb, sizeOf_run (hL _ _ hei)]
    rfl) hd kk
/-- Nothing is appended: a nil slice. -/
theorem AOp.appendNone {t e : TypeId} {x y : Operand} {v : A} {ti ei : TI} (hL : LayOk P L) (hx : ev T x = some v) (hv : v = .nils ∨ ∃ r sz off len, v = .os r sz off len) (hy : ev T y = some .nils) (ht : lay L t = some ti) (he : ti.td = .slice e) (hei : lay L e = some ei) (hd : dstOk N dst = true)
    (kk : AOps P N ops rest Q (put dst v T) H) :
    AOp P N ops { dst := dst, op := .call { callee := .builtin .append, args := [x, y].toArray, argTypes := [t, t].toArray }, type := ty, pos := pos, after := after, guard := guard } rest Q T H :=
  AOp.pure (fun fr w act s st => by
    obtain ⟨info, zv, hinfo, hi1, _⟩ := (hL _ _ hei).info
    have hund := td_slice (hL _ _ ht) he
    have hu := ev_rep st hx
    have hw := ev_rep st hy
    generalize h2 : act.eval y = u2 at hw
    cases hw
    have h3 : ∃ a n c, act.eval x = .slice a n c ∧ n ≤ c := by
      generalize act.eval x = u at hu
      rcases hv with rfl | ⟨r, sz, off, len, rfl⟩
      · cases hu; exact ⟨none, 0, 0, rfl, Nat.le_refl _⟩
      · cases hu with
        | os _ _ _ _ cap hrr hcap hmax hroom => exact ⟨_, _, _, rfl, hcap⟩
    obtain ⟨a, n, c, h1, hnc⟩ := h3
    refine ⟨act.eval x, ?_, hu⟩
    simp only [execOp, resolve, invoke, builtin, Sem.run_bind, Sem.run_pure, Result.andThen_ok, List.map_toArray, List.map_cons, List.map_nil, h1, h2]
    cases a <;> simp [Builtin.append_, run_underlying hund, sizeOf, typeInfo, hinfo, Builtin.lenOf, hnc, Builtin.firstCells, storeCells]) hd kk
/-- Nothing is appended to nil. -/
theorem AOp.appendNils {t e : TypeId} {x y : Operand} {r sz off : Nat} {ti ei : TI} (hL : LayOk P L) (hx : ev T x = some .nils) (hy : ev T y = some (.os r sz off 0)) (ht : lay L t = some ti) (he : ti.td = .slice e) (hei : lay L e = some ei) (hd : dstOk N dst = true)
    (kk : AOps P N ops rest Q (put dst .nils T) H) :
    AOp P N ops { dst := dst, op := .call { callee := .builtin .append, args := [x, y].toArray, argTypes := [t, t].toArray }, type := ty, pos := pos, after := after, guard := guard } rest Q T H :=
  AOp.pure (fun fr w act s st => by
    obtain ⟨info, zv, hinfo, hi1, _⟩ := (hL _ _ hei).info
    have hund := td_slice (hL _ _ ht) he
    have hu := ev_rep st hx
    generalize h1 : act.eval x = u at hu
    cases hu
    have hw := ev_rep st hy
    generalize h2 : act.eval y = u2 at hw
    cases hw with
    | os _ _ _ _ cap hrr hcap hmax hroom =>
    refine ⟨.slice none 0 0, ?_, .nils⟩
    simp only [execOp, resolve, invoke, builtin, Sem.run_bind, Sem.run_pure, Result.andThen_ok, List.map_toArray, List.map_cons, List.map_nil, h1, h2]
    simp [Builtin.append_, run_underlying hund, sizeOf, typeInfo, hinfo, Builtin.lenOf, Builtin.firstCells, storeCells, loadCells, loadCellsFrom]) hd kk
theorem AOp.appendZeros {t tn e : TypeId} {x y : Operand} {k kn : IntKind} {n : Nat} {ti tni ei : TI} (hL : LayOk P L) (hx : ev T x = some .nils) (hy : ev T y = some (.int k n)) (ht : lay L t = some ti) (he : ti.td = .slice e) (htn : lay L tn = some tni) (hkn : tni.td = .int kn) (hei : lay L e = some ei)
    (hpos : Nat.ble 1 ei.size = true) (hzl : Nat.beq ei.zero.length ei.size = true) (hl : allLeaf ei.zero = true) (h0 : 0 < n) (hb : n * ei.bytes ≤ 281474976710656) (hm : n ≤ maxLen) (hd : dstOk N dst = true)
    (kk : ∀ r, r ∉ keys H → AOps P N ops rest Q (put dst (.os r ei.size 0 n) T) ((r, .row e ei.size (List.replicate n ei.zero)) :: H)) :
    AOp P N ops { dst := dst, op := .call { callee := .builtin .append, args := [x, y].toArray, argTypes := [t, tn].toArray }, type := ty, pos := pos, after := after, guard := guard } rest Q T H := by
  have hpos := Nat.le_of_ble_eq_true hpos
  have hzl := Nat.eq_of_beq_eq_true hzl
  refine AOp.sem (R := fun v' H' => ∃ r, r ∉ keys H ∧ v' = .os r ei.size 0 n ∧ H' = (r, .row e ei.size (List.replicate n ei.zero)) :: H) (fun fr w act s st => ?_) hd ?_
  · have hu := ev_rep st hx
    have hv := ev_rep st hy
    generalize h1 : act.eval x = u at hu
    generalize h2 : act.eval y = v at hv
    cases hu
    cases hv
    obtain ⟨info, z, hi0, hi1, hi2, hi3, hi4, hi5, _⟩ := (hL _ _ hei).info
    have h63 : ((n : Nat) : Int) ≤ 9223372036854775807 := by simp only [maxLen] at hm; omega
    have hr := Lib.run_append_nil_zeros (P := P) w t tn ty e info z k kn (td_slice (hL _ _ ht) he) (td_int (hL _ _ htn) hkn) hi0 hi3 n h0 (by omega) h63 (by rw [hi2]; exact hb)
    have hge := grownCap_ge w n 0 e
    have hcm := grownCap_le_maxLen w n 0 e hm
    generalize hcells : Builtin.zeroCells z.cells n ++ Builtin.zeroCells z.cells (grownCap w n 0 e - n) = cells at hr
    have hzc : Builtin.zeroCells z.cells n = madeCells z.cells (n * z.cells.size) := rfl
    have hmc : RepL w (own fr H) (rep n ei.zero) (Builtin.zeroCells z.cells n).toList := by
      rw [hzc]; exact zeros_rep (w := w) (o := own fr H) (hi5 _ _) (by omega) n
    have hcsz : cells.size = grownCap w n 0 e * ei.size := by
      rw [← hcells]; simp only [Array.size_append, zeroCells_len, hi4, ← Nat.add_mul]; congr 1; omega
    have hstay : Stays w (own fr H) (w.drew.alloc (.cells cells e)) (own fr ((w.drew.heap.size, .row e ei.size (List.replicate n ei.zero)) :: H)) := ((Ext.drew H w).trans (Ext.new H w.drew (.cells cells e) (.row e ei.size (List.replicate n ei.zero)))).stays
    refine ⟨w.drew.alloc (.cells cells e), .os w.heap.size ei.size 0 n, .slice (some ⟨w.heap.size, 0, none⟩) n (grownCap w n 0 e), _, .inl ?_, ⟨w.heap.size, (own_new s).1, rfl, rfl⟩, Sim.new (w := w.drew) s.drew ?_, ?_, (Ext.drew H w).trans (Ext.new H w.drew _ _)⟩
    · simp only [execOp, resolve, invoke, builtin, Sem.run_bind, Sem.run_pure, Result.andThen_ok, List.map_toArray, List.map_cons, List.map_nil, h1, h2, hr]
    · refine blkOk_of_flat (vs := (Builtin.zeroCells z.cells n).toList) (by rw [heap_alloc_new]) (fun i hi => by rw [List.getElem_replicate]; exact hzl) (hmc.mono hstay) ?_ (fun j u hj => ?_)
      · refine RepL.flatLeaf fun c hc => ?_
        rw [List.eq_of_mem_replicate hc]; exact hl
      · rw [Array.getElem?_toList] at hj
        have hlt := (Array.getElem?_eq_some_iff.1 hj).1
        rw [← hcells, Array.getElem?_append_left hlt]; exact hj
    · have := Rep.os (w := w.drew.alloc (.cells cells e)) (own := own fr ((w.heap.size, .row e ei.size (List.replicate n ei.zero)) :: H)) w.heap.size ei.size 0 n (grownCap w n 0 e) (by simp) hge hcm (fun c' T' f h => by
        have hh := heap_alloc_new w.drew (.cells cells e)
        have hh' : (w.drew.alloc (.cells cells e)).heap[w.heap.size]? = some (.cells cells e (0, 0)) := hh
        rw [hh'] at h
        cases h
        rw [Nat.zero_add, hcsz])
      simpa using this
  · rintro v' H' ⟨r, h1, rfl, rfl⟩
    exact kk r h1
end
end Go.Abs

namespace Go.Abs
open Go
set_option linter.unusedVariables false
set_option linter.unusedSimpArgs false
/-! A slice that grows: nil, or a row of the call's own. -/
def outV (sz : Nat) (g : Option Nat) (n : Nat) : A := match g with
  | none => .nils
  | some r => .os r sz 0 n
def outH (e sz : Nat) (g : Option Nat) (elems : List (List A)) : Heap := match g with
  | none => []
  | some r => [(r, .row e sz elems)]
section
variable {P : Program} {N : Nat} {Q : Exit → Env → Heap → Prop} {T : Env} {H : Heap} {ops rest : List Oper} {L : Lay} {dst : Option Nat} {ty : TypeId} {pos : String} {after : Array Edge} {guard : Option (Nat × Bool)}
theorem AOp.appendEmpty {t e : TypeId} {x y : Operand} {yv : A} {ti ei : TI} (hL : LayOk P L) (hx : ev T x = some .nils) (hy : ev T y = some yv) (hyv : ∀ (w : World) (o : Nat → Prop) (v : Value), Rep w o yv v → ∃ a c, v = .slice a 0 c) (ht : lay L t = some ti) (he : ti.td = .slice e) (hei : lay L e = some ei) (hd : dstOk N dst = true)
    (kk : AOps P N ops rest Q (put dst .nils T) H) :
    AOp P N ops { dst := dst, op := .call { callee := .builtin .append, args := [x, y].toArray, argTypes := [t, t].toArray }, type := ty, pos := pos, after := after, guard := guard } rest Q T H :=
  AOp.pure (fun fr w act s st => by
    obtain ⟨info, zv, hinfo, hi1, _⟩ := (hL _ _ hei).info
    have hund := td_slice (hL _ _ ht) he
    have hu := ev_rep st hx
    generalize h1 : act.eval x = u at hu
    cases hu
    obtain ⟨a, c, h2⟩ := hyv w _ _ (ev_rep st hy)
    refine ⟨.slice none 0 0, ?_, .nils⟩
    simp only [execOp, resolve, invoke, builtin, Sem.run_bind, Sem.run_pure, Result.andThen_ok, List.map_toArray, List.map_cons, List.map_nil, h1, h2]
    cases a <;> simp [Builtin.append_, run_underlying hund, sizeOf, typeInfo, hinfo, Builtin.lenOf, Builtin.firstCells, storeCells, loadCells, loadCellsFrom]) hd kk
theorem RowOf.empty {yv : A} (h : RowOf H yv []) (w : World) (o : Nat → Prop) (v : Value) (hr : Rep w o yv v) : ∃ a c, v = .slice a 0 c := by
  generalize hl : ([] : List (List A)) = l at h
  cases h with
  | ds =>
    subst hl
    rcases hr.ds_inv with ⟨_, h⟩ | ⟨a, cap, sz, h, _⟩
    · exact ⟨_, _, h⟩
    · exact ⟨_, _, h⟩
  | os hm hle =>
    rename_i r Te sz off len elems
    have hz : len = 0 := by
      have := congrArg List.length hl
      simp at this
      omega
    subst hz
    cases hr
    exact ⟨_, _, rfl⟩
theorem AOp.appendG {t e : TypeId} {x y : Operand} {g : Option Nat} {elems news : List (List A)} {yv : A} {pre : Heap} {ti ei : TI} (hL : LayOk P L) (hx : ev T x = some (outV ei.size g elems.length)) (hg : g = none → elems = []) (hH : H = pre ++ outH e ei.size g elems) (hy : ev T y = some yv) (hy' : RowOf H yv news)
    (ht : lay L t = some ti) (he : ti.td = .slice e) (hei : lay L e = some ei) (hpos : Nat.ble 1 ei.size = true) (hnl : ∀ c ∈ news, c.length = ei.size) (hnf : ∀ c ∈ news, allLeaf c = true)
    (hb1 : elems.length + news.length ≤ maxLen) (hb2 : (elems.length + news.length) * ei.bytes ≤ 140737488355328) (hd : dstOk N dst = true)
    (k : ∀ g', (g' = none → elems ++ news = []) → AOps P N ops rest Q (put dst (outV ei.size g' (elems ++ news).length) T) (pre ++ outH e ei.size g' (elems ++ news))) :
    AOp P N ops { dst := dst, op := .call { callee := .builtin .append, args := [x, y].toArray, argTypes := [t, t].toArray }, type := ty, pos := pos, after := after, guard := guard } rest Q T H := by
  subst hH
  have hnl' : ∀ i (hi : i < news.length), news[i].length = ei.size := fun i hi => hnl _ (List.getElem_mem hi)
  cases g with
  | none =>
    have := hg rfl
    subst this
    simp only [outV] at hx
    by_cases hne : news = []
    · subst hne
      refine AOp.appendEmpty hL hx hy hy'.empty ht he hei hd ?_
      have := k none (fun _ => rfl)
      simpa only [outV, outH] using this
    · have hp : (pre ++ outH e ei.size none []).Perm pre := by simp [outH]
      refine AOp.appendNil hL hx hy ht he hei hpos hy' (.inl hp) hnl' hnf hne (by simpa using hb1) (by simpa using hb2) hd fun r hr => ?_
      have := k (some r) (fun h => by cases h)
      simp only [outV, outH, List.nil_append] at this
      exact AOps.perm (List.perm_append_comm (l₁ := [_])) this
  | some r =>
    simp only [outV] at hx
    simp only [outH] at *
    refine AOp.append hL hx hy ht he hei hpos (List.perm_append_comm (l₂ := [_])) (Nat.le_refl _) hy' (.inl (List.Perm.refl _)) hnl' hnf hb1 hb2 hd fun r' hr' => ?_
    have := k (some r') (fun h => by cases h)
    simp only [outV, List.length_append] at this
    rw [List.take_length]
    exact AOps.perm (List.perm_append_comm (l₁ := [_])) this
theorem AWp.freezeG {c : Code} {t e sz : Nat} {g : Option Nat} {elems : List (List A)} {pre : Heap} (ht : get T t = some (outV sz g elems.length)) (hg : g = none → elems = []) (hH : H = pre ++ outH e sz g elems) (k : AWp P N c Q ((t, .ds elems) :: T) pre) : AWp P N c Q T H := by
  subst hH
  cases g with
  | none =>
    have := hg rfl
    subst this
    simp only [outH, List.append_nil]
    exact AWp.slot ht Sub.nils k
  | some r =>
    refine ⟨fun fr w a s st => ?_⟩
    have hp : (pre ++ outH e sz (some r) elems).Perm ((r, .row e sz elems) :: pre) := List.perm_append_comm (l₂ := [_])
    have s1 := s.perm hp
    have hless : Stays w (own fr (pre ++ outH e sz (some r) elems)) w (own fr pre) := Stays.less fun j hj => by
      rcases hj with hj | hj
      · exact .inl hj
      · exact .inr ((hp.map (·.1)).mem_iff.2 (List.mem_cons_of_mem _ hj))
    have st2 : St N w (own fr pre) ((t, .ds elems) :: T) a := by
      refine ⟨st.size, st.defers, fun u x hx => ?_⟩
      rw [get_put] at hx
      split at hx
      · rename_i htu
        cases hx
        subst htu
        obtain ⟨v, h1, h2⟩ := st.at_ t _ ht
        refine ⟨v, h1, ?_⟩
        simp only [outV] at h2
        rw [own_perm hp] at h2
        have := os_ds s1 (by omega) h2
        simpa using this
      · obtain ⟨v, h1, h2⟩ := st.at_ u x hx
        exact ⟨v, h1, h2.mono hless⟩
    refine wp_mono (k.out fr w a s1.drop st2) ?_
    rintro e' a' w' ⟨T', H'', q, s', st', x'⟩
    exact ⟨T', H'', q, s', st', (Ext.drop x').perm hp⟩
end
end Go.Abs

