/- A part of the proof: a layer of abstract values over the kit's walks, an evaluator over it, and walks of functions. -/
import Derived.Deep.AppendSrc
import Derived.DeepKeys3
import Derived.Recover
import Derived.Laws.BytesArg
import Derived.Lib.Bytealg
import Derived.Lib.ReflectliteSwap
import Derived.Test.YtpopmiodjibljaaGreatDoorPclB
set_option linter.unusedVariables false
set_option linter.unusedSimpArgs false
namespace Go.Abs
open Go
set_option linter.unusedVariables false
set_option linter.unusedSimpArgs false
/-! Drawn regions in which something is made: what is early is read in the memory that the region found. -/
def isNew (o : Oper) : Bool := match o.op with
  | .buildSlice .. | .alloc _ | .box .. | .makeMap .. | .makeSlice .. => true
  | _ => false
/-- Values that are no more than numbers and texts. -/
def datA : A → Option Value
  | .int k n => some (.int k n)
  | .bool b => some (.bool b)
  | .str s => some (.string ⟨s.toArray⟩)
  | .agg l => match datL l with
    | some vs => some (.agg vs.toArray)
    | none => none
  | .iface t v => match datA v with
    | some u => some (.iface t u)
    | none => none
  | _ => none
where datL : List A → Option (List Value)
  | [] => some []
  | a :: l => match datA a, datL l with
    | some v, some vs => some (v :: vs)
    | _, _ => none
mutual
theorem datA_eq {w : World} {o : Nat → Prop} : ∀ {a : A} {u v : Value}, datA a = some u → Rep w o a v → v = u
  | .int k n, u, v, h, r => by simp only [datA] at h; cases h; cases r; rfl
  | .bool b, u, v, h, r => by simp only [datA] at h; cases h; cases r; rfl
  | .str s, u, v, h, r => by simp only [datA] at h; cases h; cases r; rfl
  | .agg l, u, v, h, r => by
    simp only [datA] at h
    split at h
    · rename_i vs hvs
      cases h
      obtain ⟨cs, rfl, hl⟩ := r.agg_inv
      have := datL_eq hvs hl
      rw [← this]
    · cases h
  | .iface t x, u, v, h, r => by
    simp only [datA] at h
    split at h
    · rename_i u' hu
      cases h
      cases r with
      | iface _ _ v' hv => rw [datA_eq hu hv]
    · cases h
  | .nilp, _, _, h, _ | .ptr .., _, _, h, _ | .dp _, _, _, h, _ | .nils, _, _, h, _ | .ds _, _, _, h, _ | .os .., _, _, h, _ | .nilm, _, _, h, _ | .abs _ _, _, _, h, _ | .map _, _, _, h, _ | .nilf, _, _, h, _ | .fn .., _, _, h, _ | .nili, _, _, h, _ | .tup _, _, _, h, _ => by simp only [datA] at h; cases h
theorem datL_eq {w : World} {o : Nat → Prop} : ∀ {l : List A} {us vs : List Value}, datA.datL l = some us → RepL w o l vs → vs = us
  | [], us, vs, h, r => by simp only [datA.datL] at h; cases h; cases r; rfl
  | a :: l, us, vs, h, r => by
    simp only [datA.datL] at h
    split at h
    · rename_i v1 vs1 h1 h2
      cases h
      cases r with
      | cons ha hl => rw [datA_eq h1 ha, datL_eq h2 hl]
    · cases h
end
theorem run_panic_iface {P : Program} {t : TypeId} {v : Value} {w : World} : (Instr.panic (.iface t v)).run P w = .halt (.panic (.iface t v)) w := by
  simp [Instr.panic, goPanic, Sem.run]
def isPan (o : Oper) : Bool := match o.op with
  | .panic _ => true
  | _ => false
theorem fresh9 (l : List Nat) : ∃ r, r ∉ l := by
  refine ⟨l.foldl max 0 + 1, fun h => ?_⟩
  have key : ∀ (l : List Nat) (m : Nat), m ≤ l.foldl max m ∧ ∀ x ∈ l, x ≤ l.foldl max m := by
    intro l
    induction l with
    | nil => intro m; exact ⟨Nat.le_refl _, fun x hx => by cases hx⟩
    | cons y l ih =>
      intro m
      obtain ⟨h1, h2⟩ := ih (max m y)
      simp only [List.foldl_cons]
      refine ⟨by omega, fun x hx => ?_⟩
      rcases List.mem_cons.1 hx with rfl | hx
      · omega
      · exact h2 x hx
  have := (key l 0).2 _ h
  omega
def isApp (o : Oper) : Bool := match o.op with
  | .call { callee := .builtin .append, .. } => true
  | _ => false
def isSt (o : Oper) : Bool := match o.op with
  | .store .. | .mapUpdate .. | .insert .. => true
  | _ => false
def isEE (o : Oper) : Bool := isNew o || isApp o || isSt o
/-- hv: calls that turn memory. -/
def clsH (hv : Oper → Bool) (o : Oper) : Nat := match hv o with
  | true => 2
  | false => cls o
def compatH (hv : Oper → Bool) (x y : Oper) : Bool := match clsH hv x, clsH hv y with
  | 2, 0 | 0, 2 | 0, 0 | 0, 1 | 1, 0 | 1, 1 => true
  | _, _ => false
/-- late: what reads memory that the region has turned, or turns what the region found; uni: what makes a block whatever the rest of the region does. -/
def compat2 (late uni hv : Oper → Bool) (x o : Oper) : Bool :=
  !isPan x && !isPan o && !hv x && (compatH hv x o || (isEE x && !late x && Nat.beq (clsH hv o) 1 && !late o) || (Nat.beq (clsH hv x) 1 && !late x && (isEE o || hv o) && !late o) || (isEE x && !late x && uni o))
def memI (i : Nat) : List (Nat × Oper) → Bool
  | [] => false
  | p :: l => match Nat.beq p.1 i with
    | true => true
    | false => memI i l
def chkL (late uni hv : Oper → Bool) (ops : Array Oper) (b : List Nat) : List (Nat × Oper) → List (Nat × Oper) → Bool
  | _, [] => true
  | pre, p :: L => (p.2.after.toList.all fun e => match Region.binds .any e with | true => memI e.on pre | false => true) &&
      (pre.all fun q => (b.getD p.1 0).testBit q.1 || (q.2.apart ops p.2 && compat2 late uni hv q.2 p.2)) && !memI p.1 pre && chkL late uni hv ops b (p :: pre) L
def chk2 (late uni hv : Oper → Bool) (ops : List Oper) (L : List (Nat × Oper)) : Bool :=
  Region.noSelect ops.toArray && ((List.range ops.length).all fun i => memI i L) && chkL late uni hv ops.toArray (anc ops) [] L
/-- The operations at some places. -/
def ordL (ops : List Oper) (is : List Nat) : List (Nat × Oper) := is.filterMap fun i => (ops[i]?).map fun o => (i, o)
theorem isNew_cls {o : Oper} (h : isNew o = true) : cls o = 2 := by
  unfold isNew at h
  unfold cls
  split at h <;> first | (rename_i e; rw [e]; done) | (cases h; done) | (rename_i e; rw [e])
/-- There is an outcome, whatever numbers are not to be met. -/
def NeR (R : A → Heap → Prop) (H : Heap) : Prop := ∀ l : List Nat, ∃ v H', R v H' ∧ (keys H').Nodup ∧ ∀ k ∈ keys H', k ∈ l → k ∈ keys H
/-- The text's order, each step told; B: what the region found and leaves as it is until the late steps. -/
def Plan2 (P : Program) (N : NN) (L : Lay) (ops : Array Oper) (late uni hv : Oper → Bool) (bv : Nat → A) (nv : Nat → (Nat → A) × Blk) (B : Heap) (Q : Exit → Env → Heap → Prop) : List Oper → Env → Heap → Prop
  | [], T, H => ∃ T0 H0, (∀ t x, get T0 t = some x → get T t = some x) ∧ H.Perm H0 ∧ Q .normal T0 H0
  | o :: rest, T, H => dstOk N o.dst = true ∧
      (((clsH hv o = 1 → late o = true) ∧ isEE o = false ∧ uni o = false) ∧ wantA ops (restr T (o.looksAt ops)) o = some true ∧ (∃ v, sOpX P L (restr T (o.looksAt ops)) o.op = some v ∧ Plan2 P N L ops late uni hv bv nv B Q rest (put o.dst v T) H) ∨
       (wantA ops (restr T (o.looksAt ops)) o = some false ∧ Plan2 P N L ops late uni hv bv nv B Q rest (put o.dst (.tup []) T) H) ∨
       ((clsH hv o ≠ 0 ∧ (clsH hv o = 1 → late o = true) ∧ (isEE o = true → late o = true) ∧ uni o = false) ∧ wantA ops (restr T (o.looksAt ops)) o = some true ∧ ∃ v, AOp P N [] o [] (Qn o (restr T (o.looksAt ops)) fun r H' => r = v ∧ H' = H) (restr T (o.looksAt ops)) H ∧ Plan2 P N L ops late uni hv bv nv B Q rest (put o.dst v T) H) ∨
       ((clsH hv o = 2 ∧ uni o = false) ∧ wantA ops (restr T (o.looksAt ops)) o = some true ∧ ∃ R, ((hv o = false → NeR R H) ∧ AOp P N [] o [] (Qn o (restr T (o.looksAt ops)) R) (restr T (o.looksAt ops)) H ∧
          ((isEE o || hv o) = true → late o = false → (∃ G, H.Perm (G ++ B)) ∧ ∀ v H', R v H' → ∃ G, H'.Perm (G ++ B))) ∧ ∀ v H', R v H' → Plan2 P N L ops late uni hv bv nv B Q rest (put o.dst v T) H') ∨
       ((clsH hv o = 1 ∧ uni o = false ∧ ∃ G, H.Perm (G ++ B)) ∧ wantA ops (restr T (o.looksAt ops)) o = some true ∧ ∃ v, o.dst.map bv = some v ∧ AOp P N [] o [] (Qn o (restr T (o.looksAt ops)) fun r H' => r = v ∧ H' = B) (restr T (o.looksAt ops)) B ∧ Plan2 P N L ops late uni hv bv nv B Q rest (put o.dst v T) H) ∨
       (isPan o = true ∧ rest = [] ∧ o.guard = none ∧ ∃ x t v u, o.op = .panic x ∧ ev (restr T (o.looksAt ops)) x = some (.iface t v) ∧ datA v = some u ∧ ∃ T0 H0, (∀ t x, get T0 t = some x → get T t = some x) ∧ H.Perm H0 ∧ Q (.panic [{ v := .iface t u, recovered := false }]) T0 H0) ∨
       ((uni o = true ∧ clsH hv o = 2 ∧ ∃ G, H.Perm (G ++ B)) ∧ wantA ops (restr T (o.looksAt ops)) o = some true ∧ ∃ m b, o.dst.map nv = some (m, b) ∧ AOp P N [] o [] (Qn o (restr T (o.looksAt ops)) fun r H' => ∃ r0, r = m r0 ∧ H' = [(r0, b)]) (restr T (o.looksAt ops)) [] ∧
          ∀ r0, r0 ∉ keys H → Plan2 P N L ops late uni hv bv nv B Q rest (put o.dst (m r0) T) ((r0, b) :: H)))
section
variable {P : Program} {N : NN} {L : Lay} {ops : Array Oper} {late uni hv : Oper → Bool} {bv : Nat → A} {nv : Nat → (Nat → A) × Blk} {B : Heap} {Q : Exit → Env → Heap → Prop}
theorem Ext.permR {H H' K : Heap} {w w' : World} (h : K.Perm H') (e : Ext H w K w') : Ext H w H' w' where
  os := e.os
  tape := e.tape
  output := e.output
  size := e.size
  same := e.same
  keys k hk := e.keys k ((h.map _).mem_iff.2 hk)
  shape := e.shape
/-- What is quiet in a part of memory is quiet in the whole. -/
theorem AOp.base {o : Oper} {v : A} {T : Env} {H G : Heap} (hp : H.Perm (B ++ G)) (h : AOp P N [] o [] (Qn o T fun r H' => r = v ∧ H' = B) T B) : AOp P N [] o [] (Qn o T fun r H' => r = v ∧ H' = H) T H := by
  refine ⟨fun fr w a s st => ?_⟩
  have s1 := s.perm hp
  rw [own_perm hp, own_app] at st
  have hm : ∀ e a' w', Post N (fun k => fr k ∨ k ∈ keys G) B w (Qn o T fun r H' => r = v ∧ H' = B) e a' w' → Post N fr H w (Qn o T fun r H' => r = v ∧ H' = H) e a' w' := by
    rintro e a' w' ⟨T', H', q, s', st', x'⟩
    cases e <;> first | exact q.elim | skip
    obtain ⟨u, ⟨rfl, rfl⟩, rfl⟩ := q
    refine ⟨_, H, ⟨u, ⟨rfl, rfl⟩, rfl⟩, (s1.join s' x').perm hp.symm, ?_, Ext.permR hp.symm (x'.frame.perm hp)⟩
    rw [own_perm hp, own_app]; exact st'
  have h0 := h.out _ w a s1.split st
  refine wp_both (fun e a' w' _ hq => hm e a' w' hq) (fun u w' hk => hm _ _ _ hk) (fun d w' hk => ?_) h0
  obtain ⟨T', H', _, _, st', _⟩ := hk
  have h3 := congrArg List.length st'.defers
  rw [← st.defers] at h3
  cases hdo : o.dst <;> rw [hdo] at h3 <;> simp [Act.put] at h3
theorem AOp.perm {o : Oper} {R : A → Heap → Prop} {T : Env} {H K : Heap} (hp : K.Perm H) (h : AOp P N [] o [] (Qn o T R) T H) : AOp P N [] o [] (Qn o T R) T K := by
  refine ⟨fun fr w a s st => ?_⟩
  have s1 := s.perm hp
  rw [own_perm hp] at st
  have hm : ∀ e a' w', Post N fr H w (Qn o T R) e a' w' → Post N fr K w (Qn o T R) e a' w' := fun e a' w' ⟨T', H', q, s', st', x'⟩ => ⟨T', H', q, s', st', x'.perm hp⟩
  have h0 := h.out _ w a s1 st
  refine wp_both (fun e a' w' _ hq => hm e a' w' hq) (fun u w' hk => hm _ _ _ hk) (fun d w' hk => ?_) h0
  obtain ⟨T', H', _, _, st', _⟩ := hk
  have h3 := congrArg List.length st'.defers
  rw [← st.defers] at h3
  cases hdo : o.dst <;> rw [hdo] at h3 <;> simp [Act.put] at h3
/-- What is done in a part of memory is done in the whole. -/
theorem AOp.frameR {o : Oper} {R : A → Heap → Prop} {T : Env} {H : Heap} (F : Heap) (h : AOp P N [] o [] (Qn o T R) T H) : AOp P N [] o [] (Qn o T fun v K => ∃ H', R v H' ∧ K = H' ++ F ∧ (keys K).Nodup) T (H ++ F) := by
  refine ⟨fun fr w a s st => ?_⟩
  rw [own_app] at st
  have hm : ∀ e a' w', Post N (fun k => fr k ∨ k ∈ keys F) H w (Qn o T R) e a' w' → Post N fr (H ++ F) w (Qn o T fun v K => ∃ H', R v H' ∧ K = H' ++ F ∧ (keys K).Nodup) e a' w' := by
    rintro e a' w' ⟨T', H', q, s', st', x'⟩
    cases e <;> first | exact q.elim | skip
    obtain ⟨u, hR, rfl⟩ := q
    have sj := s.join s' x'
    refine ⟨_, H' ++ F, ⟨u, ⟨H', hR, rfl, sj.nodup⟩, rfl⟩, sj, ?_, x'.frame⟩
    rw [own_app]; exact st'
  have h0 := h.out _ w a s.split st
  refine wp_both (fun e a' w' _ hq => hm e a' w' hq) (fun u w' hk => hm _ _ _ hk) (fun d w' hk => ?_) h0
  obtain ⟨T', H', _, _, st', _⟩ := hk
  have h3 := congrArg List.length st'.defers
  rw [← st.defers] at h3
  cases hdo : o.dst <;> rw [hdo] at h3 <;> simp [Act.put] at h3
theorem Qn.imp {o : Oper} {R R' : A → Heap → Prop} {T : Env} (h : ∀ v H, R v H → R' v H) : ∀ e T1 H1, Qn o T R e T1 H1 → Qn o T R' e T1 H1 := by
  intro e T1 H1 q
  cases e <;> first | exact q.elim | skip
  obtain ⟨v, hR, he⟩ := q
  exact ⟨v, h _ _ hR, he⟩
theorem AOp.imp {o : Oper} {R R' : A → Heap → Prop} {T : Env} {H : Heap} (h : AOp P N [] o [] (Qn o T R) T H) (hi : ∀ v H, R v H → R' v H) : AOp P N [] o [] (Qn o T R') T H := by
  refine ⟨fun fr w a s st => ?_⟩
  have hm : ∀ e a' w', Post N fr H w (Qn o T R) e a' w' → Post N fr H w (Qn o T R') e a' w' := fun e a' w' ⟨T', H', q, rest⟩ => ⟨T', H', Qn.imp hi _ _ _ q, rest⟩
  refine wp_both (fun e a' w' _ hq => hm e a' w' hq) (fun u w' hk => hm _ _ _ hk) (fun d w' hk => ?_) (h.out fr w a s st)
  obtain ⟨T', H', _, _, st', _⟩ := hk
  have h3 := congrArg List.length st'.defers
  rw [← st.defers] at h3
  cases hdo : o.dst <;> rw [hdo] at h3 <;> simp [Act.put] at h3
theorem AOp.newAt {o : Oper} {m : Nat → A} {b : Blk} {T : Env} (H : Heap) (h : AOp P N [] o [] (Qn o T fun r H' => ∃ r0, r = m r0 ∧ H' = [(r0, b)]) T []) : AOp P N [] o [] (Qn o T fun r H' => ∃ r0, r0 ∉ keys H ∧ r = m r0 ∧ H' = (r0, b) :: H) T H := by
  have h1 := AOp.frameR H h
  simp only [List.nil_append] at h1
  refine AOp.imp h1 ?_
  rintro v K ⟨H', ⟨r0, rfl, rfl⟩, rfl, hn⟩
  refine ⟨r0, ?_, rfl, rfl⟩
  have := hn
  simp only [keys, List.map_append, List.map_cons, List.map_nil, List.cons_append, List.nil_append] at this
  exact (List.nodup_cons.1 this).1
theorem Plan2.cong : ∀ {l : List Oper} {T T' : Env} {H : Heap}, (∀ t, get T t = get T' t) → Plan2 P N L ops late uni hv bv nv B Q l T H → Plan2 P N L ops late uni hv bv nv B Q l T' H
  | [], T, T', H, he, ⟨T0, H0, h1, hp, h2⟩ => ⟨T0, H0, fun t x h => by rw [← he]; exact h1 t x h, hp, h2⟩
  | o :: rest, T, T', H, he, ⟨hd, h⟩ => by
    have hr : restr T (o.looksAt ops) = restr T' (o.looksAt ops) := restr_congr _ fun t _ => he t
    have hp : ∀ v t, get (put o.dst v T) t = get (put o.dst v T') t := by
      intro v t
      cases o.dst with
      | none => exact he t
      | some d => simp only [put, get_put, he t]
    refine ⟨hd, ?_⟩
    rw [hr] at h
    rcases h with ⟨h0, h1, v, h2, h3⟩ | ⟨h1, h3⟩ | ⟨h0, h1, v, h2, h3⟩ | ⟨h0, h1, R, h2, h3⟩ | ⟨h0, h1, v, hb, h2, h3⟩ | ⟨hpn, h0, h1, x, t, v, u, h2, h3, h4, T0, H0, h5, h6⟩ | ⟨h0, h1, m, b, h2, h3, h4⟩
    · exact .inl ⟨h0, h1, v, h2, h3.cong (hp v)⟩
    · exact .inr (.inl ⟨h1, h3.cong (hp _)⟩)
    · exact .inr (.inr (.inl ⟨h0, h1, v, h2, h3.cong (hp v)⟩))
    · exact .inr (.inr (.inr (.inl ⟨h0, h1, R, h2, fun v H' hR => (h3 v H' hR).cong (hp v)⟩)))
    · exact .inr (.inr (.inr (.inr (.inl ⟨h0, h1, v, hb, h2, h3.cong (hp v)⟩))))
    · exact .inr (.inr (.inr (.inr (.inr (.inl ⟨hpn, h0, h1, x, t, v, u, h2, h3, h4, T0, H0, fun t x h => by rw [← he]; exact h5 t x h, h6⟩)))))
    · exact .inr (.inr (.inr (.inr (.inr (.inr ⟨h0, h1, m, b, h2, h3, fun r0 hr0 => (h4 r0 hr0).cong (hp _)⟩)))))
theorem Plan2.perm : ∀ {l : List Oper} {T : Env} {H K : Heap}, K.Perm H → Plan2 P N L ops late uni hv bv nv B Q l T H → Plan2 P N L ops late uni hv bv nv B Q l T K
  | [], T, H, K, hK, ⟨T0, H0, h1, hp, h2⟩ => ⟨T0, H0, h1, hK.trans hp, h2⟩
  | o :: rest, T, H, K, hK, ⟨hd, h⟩ => by
    refine ⟨hd, ?_⟩
    rcases h with ⟨h0, h1, v, h2, h3⟩ | ⟨h1, h3⟩ | ⟨h0, h1, v, h2, h3⟩ | ⟨h0, h1, R, ⟨h2, h2a, h2b⟩, h3⟩ | ⟨⟨h0, h0a, G, hG⟩, h1, v, hb, h2, h3⟩ | ⟨hpn, h0, h1, x, t, v, u, h2, h3, h4, T0, H0, h5, h6, h7⟩ | ⟨⟨h0, h0a, G, hG⟩, h1, m, b, h2, h3, h4⟩
    · exact .inl ⟨h0, h1, v, h2, h3.perm hK⟩
    · exact .inr (.inl ⟨h1, h3.perm hK⟩)
    · exact .inr (.inr (.inl ⟨h0, h1, v, AOp.base (G := []) (by rw [List.append_nil]; exact hK) h2, h3.perm hK⟩))
    · exact .inr (.inr (.inr (.inl ⟨h0, h1, R, ⟨fun hh l => let ⟨v, H', k1, k2, k3⟩ := h2 hh l; ⟨v, H', k1, k2, fun k hk hl => (hK.map _).mem_iff.2 (k3 k hk hl)⟩, AOp.perm hK h2a, fun e1 e2 => let ⟨⟨G, hG⟩, k⟩ := h2b e1 e2; ⟨⟨G, hK.trans hG⟩, k⟩⟩, h3⟩)))
    · exact .inr (.inr (.inr (.inr (.inl ⟨⟨h0, h0a, G, hK.trans hG⟩, h1, v, hb, h2, h3.perm hK⟩))))
    · exact .inr (.inr (.inr (.inr (.inr (.inl ⟨hpn, h0, h1, x, t, v, u, h2, h3, h4, T0, H0, h5, hK.trans h6, h7⟩)))))
    · exact .inr (.inr (.inr (.inr (.inr (.inr ⟨⟨h0, h0a, G, hK.trans hG⟩, h1, m, b, h2, h3, fun r0 hr0 => (h4 r0 (fun e => hr0 ((hK.map _).mem_iff.2 e))).perm (hK.cons _)⟩)))))
theorem compat2_of {x o : Oper} (h : compat2 late uni hv x o = true) : isPan x = false ∧ isPan o = false ∧ hv x = false ∧ (clsH hv x = 2 → clsH hv o = 0 ∨ (isEE x = true ∧ late x = false ∧ clsH hv o = 1 ∧ late o = false) ∨ (isEE x = true ∧ late x = false ∧ uni o = true)) ∧ (clsH hv o = 2 → clsH hv x = 0 ∨ (clsH hv x = 1 ∧ late x = false ∧ (isEE o || hv o) = true ∧ late o = false) ∨ (isEE x = true ∧ late x = false ∧ uni o = true)) := by
  rw [compat2, Bool.and_eq_true, Bool.and_eq_true, Bool.and_eq_true, Bool.not_eq_true', Bool.not_eq_true', Bool.not_eq_true', Bool.or_eq_true, Bool.or_eq_true, Bool.or_eq_true, Bool.and_eq_true, Bool.and_eq_true, Bool.and_eq_true, Bool.and_eq_true, Bool.and_eq_true, Bool.and_eq_true, Bool.and_eq_true, Bool.and_eq_true, Bool.not_eq_true', Bool.not_eq_true'] at h
  obtain ⟨⟨⟨hp1, hp2⟩, hv1⟩, h⟩ := h
  have hb : ∀ {n : Nat}, Nat.beq n 1 = true → n = 1 := Nat.eq_of_beq_eq_true
  refine ⟨hp1, hp2, hv1, ?_, ?_⟩
  · intro hx
    rcases h with ((h | ⟨⟨⟨h1, h2⟩, h3⟩, h4⟩) | ⟨⟨⟨h1, h2⟩, h3⟩, h4⟩) | ⟨⟨h1, h2⟩, h3⟩
    · left
      unfold compatH at h; rw [hx] at h
      match ho : clsH hv o with
      | 0 => rfl
      | 1 => rw [ho] at h; cases h
      | 2 => rw [ho] at h; cases h
      | n + 3 => rw [ho] at h; cases h
    · exact .inr (.inl ⟨h1, h2, hb h3, h4⟩)
    · rw [hx] at h1; cases h1
    · exact .inr (.inr ⟨h1, h2, h3⟩)
  · intro ho
    rcases h with ((h | ⟨⟨⟨h1, h2⟩, h3⟩, h4⟩) | ⟨⟨⟨h1, h2⟩, h3⟩, h4⟩) | ⟨⟨h1, h2⟩, h3⟩
    · left
      unfold compatH at h; rw [ho] at h
      match hx : clsH hv x with
      | 0 => rfl
      | 1 => rw [hx] at h; cases h
      | 2 => rw [hx] at h; cases h
      | n + 3 => rw [hx] at h; cases h
    · rw [ho] at h3; cases h3
    · exact .inr (.inl ⟨hb h1, h2, h3, h4⟩)
    · exact .inr (.inr ⟨h1, h2, h3⟩)
theorem Plan2.swap {x o : Oper} {r : List Oper} {T : Env} {H : Heap} (ha : x.apart ops o = true) (hc : compat2 late uni hv x o = true) (h : Plan2 P N L ops late uni hv bv nv B Q (x :: o :: r) T H) : Plan2 P N L ops late uni hv bv nv B Q (o :: x :: r) T H := by
  obtain ⟨h1, h2, h3⟩ := Oper.apart_spec ha
  have r1 : ∀ v, restr (put x.dst v T) (o.looksAt ops) = restr T (o.looksAt ops) := fun v => restr_put h1
  have r2 : ∀ v, restr (put o.dst v T) (x.looksAt ops) = restr T (x.looksAt ops) := fun v => restr_put h3
  have sw : ∀ u v t, get (put o.dst v (put x.dst u T)) t = get (put x.dst u (put o.dst v T)) t := fun u v t => put_swap h2 t
  obtain ⟨hd, h⟩ := h
  obtain ⟨_, hnp, hvx, hcx, hco⟩ := compat2_of hc
  rcases h with ⟨c1, w1, u, e1, hd2, h⟩ | ⟨w1, hd2, h⟩ | ⟨c1, w1, u, e1, hd2, h⟩ | ⟨c1, w1, R, e1, h⟩ | ⟨c1, w1, u, hbu, e1, hd2, h⟩ | ⟨_, c1, _⟩ | ⟨c1, w1, m, b, hbm, e1, h⟩
  · -- x reckons
    rw [r1 u] at h
    have q : ∀ {v : A} {H' : Heap}, Plan2 P N L ops late uni hv bv nv B Q r (put o.dst v (put x.dst u T)) H' → Plan2 P N L ops late uni hv bv nv B Q (x :: r) (put o.dst v T) H' := fun k => ⟨hd, .inl ⟨c1, by rw [r2]; exact w1, u, by rw [r2]; exact e1, k.cong (sw u _)⟩⟩
    rcases h with ⟨c2, w2, v, e2, k⟩ | ⟨w2, k⟩ | ⟨c2, w2, v, e2, k⟩ | ⟨c2, w2, R, e2, k⟩ | ⟨c2, w2, v, hbv, e2, k⟩ | ⟨c2, _⟩ | ⟨c2, w2, m, b, hbm, e2, k⟩
    · exact ⟨hd2, .inl ⟨c2, w2, v, e2, q k⟩⟩
    · exact ⟨hd2, .inr (.inl ⟨w2, q k⟩)⟩
    · exact ⟨hd2, .inr (.inr (.inl ⟨c2, w2, v, e2, q k⟩))⟩
    · exact ⟨hd2, .inr (.inr (.inr (.inl ⟨c2, w2, R, e2, fun v H' hR => q (k v H' hR)⟩)))⟩
    · exact ⟨hd2, .inr (.inr (.inr (.inr (.inl ⟨c2, w2, v, hbv, e2, q k⟩))))⟩
    · rw [hnp] at c2; cases c2
    · exact ⟨hd2, .inr (.inr (.inr (.inr (.inr (.inr ⟨c2, w2, m, b, hbm, e2, fun r0 hr0 => q (k r0 hr0)⟩)))))⟩
  · -- x is passed by
    rw [r1] at h
    have q : ∀ {v : A} {H' : Heap}, Plan2 P N L ops late uni hv bv nv B Q r (put o.dst v (put x.dst (.tup []) T)) H' → Plan2 P N L ops late uni hv bv nv B Q (x :: r) (put o.dst v T) H' := fun k => ⟨hd, .inr (.inl ⟨by rw [r2]; exact w1, k.cong (sw _ _)⟩)⟩
    rcases h with ⟨c2, w2, v, e2, k⟩ | ⟨w2, k⟩ | ⟨c2, w2, v, e2, k⟩ | ⟨c2, w2, R, e2, k⟩ | ⟨c2, w2, v, hbv, e2, k⟩ | ⟨c2, _⟩ | ⟨c2, w2, m, b, hbm, e2, k⟩
    · exact ⟨hd2, .inl ⟨c2, w2, v, e2, q k⟩⟩
    · exact ⟨hd2, .inr (.inl ⟨w2, q k⟩)⟩
    · exact ⟨hd2, .inr (.inr (.inl ⟨c2, w2, v, e2, q k⟩))⟩
    · exact ⟨hd2, .inr (.inr (.inr (.inl ⟨c2, w2, R, e2, fun v H' hR => q (k v H' hR)⟩)))⟩
    · exact ⟨hd2, .inr (.inr (.inr (.inr (.inl ⟨c2, w2, v, hbv, e2, q k⟩))))⟩
    · rw [hnp] at c2; cases c2
    · exact ⟨hd2, .inr (.inr (.inr (.inr (.inr (.inr ⟨c2, w2, m, b, hbm, e2, fun r0 hr0 => q (k r0 hr0)⟩)))))⟩
  · -- x is quiet
    rw [r1 u] at h
    have q : ∀ {v : A}, Plan2 P N L ops late uni hv bv nv B Q r (put o.dst v (put x.dst u T)) H → Plan2 P N L ops late uni hv bv nv B Q (x :: r) (put o.dst v T) H := fun k => ⟨hd, .inr (.inr (.inl ⟨c1, by rw [r2]; exact w1, u, by rw [r2]; exact e1, k.cong (sw u _)⟩))⟩
    have no : clsH hv o = 2 → False := fun c2 => by
      rcases hco c2 with h0 | ⟨hx1, hx2, _, _⟩ | ⟨hx1, hx2, _⟩
      · exact c1.1 h0
      · have := c1.2.1 hx1; rw [hx2] at this; cases this
      · have := c1.2.2.1 hx1; rw [hx2] at this; cases this
    rcases h with ⟨c2, w2, v, e2, k⟩ | ⟨w2, k⟩ | ⟨c2, w2, v, e2, k⟩ | ⟨c2, w2, R, e2, k⟩ | ⟨c2, w2, v, hbv, e2, k⟩ | ⟨c2, _⟩ | ⟨c2, w2, m, b, hbm, e2, k⟩
    · exact ⟨hd2, .inl ⟨c2, w2, v, e2, q k⟩⟩
    · exact ⟨hd2, .inr (.inl ⟨w2, q k⟩)⟩
    · exact ⟨hd2, .inr (.inr (.inl ⟨c2, w2, v, e2, q k⟩))⟩
    · exact (no c2.1).elim
    · exact ⟨hd2, .inr (.inr (.inr (.inr (.inl ⟨c2, w2, v, hbv, e2, q k⟩))))⟩
    · rw [hnp] at c2; cases c2
    · exact (no c2.2.1).elim
  · -- x does something
    obtain ⟨hne', e1', e1''⟩ := e1
    have hne := hne' hvx
    obtain ⟨v0, H0, hR0, _, _⟩ := hne []
    have hdo := (h v0 H0 hR0).1
    have putx : ∀ {v : A}, (∀ v1 H1, R v1 H1 → Plan2 P N L ops late uni hv bv nv B Q r (put o.dst v (put x.dst v1 T)) H1) → Plan2 P N L ops late uni hv bv nv B Q (x :: r) (put o.dst v T) H := fun k =>
      ⟨hd, .inr (.inr (.inr (.inl ⟨c1, by rw [r2]; exact w1, R, ⟨hne', by rw [r2]; exact e1', e1''⟩, fun v H' hR => (k v H' hR).cong (sw v _)⟩)))⟩
    -- what o is, at each state that x leaves
    by_cases hw : wantA ops (restr T (o.looksAt ops)) o = some false
    · refine ⟨hdo, .inr (.inl ⟨hw, putx fun v1 H1 hR1 => ?_⟩)⟩
      obtain ⟨_, k⟩ := h v1 H1 hR1
      rw [r1 v1] at k
      rcases k with ⟨_, w2, _⟩ | ⟨_, k⟩ | ⟨_, w2, _⟩ | ⟨_, w2, _⟩ | ⟨_, w2, _⟩ | ⟨c2, _⟩ | ⟨_, w2, _⟩
      · rw [hw] at w2; cases w2
      · exact k
      · rw [hw] at w2; cases w2
      · rw [hw] at w2; cases w2
      · rw [hw] at w2; cases w2
      · rw [hnp] at c2; cases c2
      · rw [hw] at w2; cases w2
    rcases hcx c1.1 with ho | ⟨hn, hl, ho, hlo⟩ | ⟨hn, hl, hu⟩
    · have key : ∀ v H', R v H' → wantA ops (restr T (o.looksAt ops)) o = some true ∧ ((clsH hv o = 1 → late o = true) ∧ isEE o = false ∧ uni o = false) ∧ ∃ u, sOpX P L (restr T (o.looksAt ops)) o.op = some u ∧ Plan2 P N L ops late uni hv bv nv B Q r (put o.dst u (put x.dst v T)) H' := by
        intro v H' hR
        obtain ⟨_, k⟩ := h v H' hR
        rw [r1 v] at k
        rcases k with ⟨c2, w2, k⟩ | ⟨w2, _⟩ | ⟨c2, _⟩ | ⟨c2, _⟩ | ⟨c2, _⟩ | ⟨c2, _⟩ | ⟨c2, _⟩
        · exact ⟨w2, c2, k⟩
        · exact absurd w2 hw
        · exact absurd ho c2.1
        · have := c2.1; rw [ho] at this; cases this
        · have := c2.1; rw [ho] at this; cases this
        · rw [hnp] at c2; cases c2
        · have := c2.2.1; rw [ho] at this; cases this
      obtain ⟨w2, c2, u, e2, _⟩ := key v0 H0 hR0
      refine ⟨hdo, .inl ⟨c2, w2, u, e2, putx fun v1 H1 hR1 => ?_⟩⟩
      obtain ⟨_, _, u', e2', k⟩ := key v1 H1 hR1
      rw [e2] at e2'; cases e2'
      exact k
    · -- o reads what the region found
      obtain ⟨hB, hR⟩ := e1'' (by rw [hn]; rfl) hl
      have key : ∀ v H', R v H' → (wantA ops (restr T (o.looksAt ops)) o = some true ∧ uni o = false ∧ ∃ u, o.dst.map bv = some u ∧ AOp P N [] o [] (Qn o (restr T (o.looksAt ops)) fun r H' => r = u ∧ H' = B) (restr T (o.looksAt ops)) B ∧ Plan2 P N L ops late uni hv bv nv B Q r (put o.dst u (put x.dst v T)) H') := by
        intro v H' hR
        obtain ⟨_, k⟩ := h v H' hR
        rw [r1 v] at k
        rcases k with ⟨c2, _⟩ | ⟨w2, _⟩ | ⟨c2, _⟩ | ⟨c2, _⟩ | ⟨c2, w2, k⟩ | ⟨c2, _⟩ | ⟨c2, _⟩
        · have := c2.1 ho; rw [hlo] at this; cases this
        · exact absurd w2 hw
        · have := c2.2.1 ho; rw [hlo] at this; cases this
        · have := c2.1; rw [ho] at this; cases this
        · exact ⟨w2, c2.2.1, k⟩
        · rw [hnp] at c2; cases c2
        · have := c2.2.1; rw [ho] at this; cases this
      obtain ⟨w2, hu2, u, hbu, e2, _⟩ := key v0 H0 hR0
      refine ⟨hdo, .inr (.inr (.inr (.inr (.inl ⟨⟨ho, hu2, hB⟩, w2, u, hbu, e2, putx fun v1 H1 hR1 => ?_⟩))))⟩
      obtain ⟨_, _, u', hbu', _, k⟩ := key v1 H1 hR1
      rw [hbu] at hbu'; cases hbu'
      exact k
    · -- o makes a block, whatever else
      obtain ⟨hB, hR⟩ := e1'' (by rw [hn]; rfl) hl
      have key : ∀ v H', R v H' → (wantA ops (restr T (o.looksAt ops)) o = some true ∧ clsH hv o = 2 ∧ ∃ m b, o.dst.map nv = some (m, b) ∧ AOp P N [] o [] (Qn o (restr T (o.looksAt ops)) fun r H' => ∃ r0, r = m r0 ∧ H' = [(r0, b)]) (restr T (o.looksAt ops)) [] ∧ ∀ r0, r0 ∉ keys H' → Plan2 P N L ops late uni hv bv nv B Q r (put o.dst (m r0) (put x.dst v T)) ((r0, b) :: H')) := by
        intro v H' hR
        obtain ⟨_, k⟩ := h v H' hR
        rw [r1 v] at k
        rcases k with ⟨c2, _⟩ | ⟨w2, _⟩ | ⟨c2, _⟩ | ⟨c2, _⟩ | ⟨c2, _⟩ | ⟨c2, _⟩ | ⟨c2, w2, k⟩
        · have := c2.2.2; rw [hu] at this; cases this
        · exact absurd w2 hw
        · have := c2.2.2.2; rw [hu] at this; cases this
        · have := c2.2; rw [hu] at this; cases this
        · have := c2.2.1; rw [hu] at this; cases this
        · rw [hnp] at c2; cases c2
        · exact ⟨w2, c2.2.1, k⟩
      obtain ⟨w2, hc2, m, b, hbm, e2, _⟩ := key v0 H0 hR0
      refine ⟨hdo, .inr (.inr (.inr (.inr (.inr (.inr ⟨⟨hu, hc2, hB⟩, w2, m, b, hbm, e2, fun r0 hr0 => ?_⟩)))))⟩
      obtain ⟨GB, hGB⟩ := hB
      refine ⟨hd, .inr (.inr (.inr (.inl ⟨c1, by rw [r2]; exact w1, fun v K => ∃ H', R v H' ∧ K = H' ++ [(r0, b)] ∧ (keys K).Nodup, ⟨?_, ?_, ?_⟩, ?_⟩)))⟩
      · intro _ l
        obtain ⟨v, H', k1, k2, k3⟩ := hne (r0 :: l)
        have hr1 : r0 ∉ keys H' := fun e => hr0 (k3 r0 e (List.mem_cons_self ..))
        refine ⟨v, _, ⟨H', k1, rfl, ?_⟩, ?_, ?_⟩
        · simp only [keys, List.map_append, List.map_cons, List.map_nil]
          exact List.nodup_append.2 ⟨k2, by simp, fun a ha c hc hac => by rw [List.mem_singleton.1 hc] at hac; subst hac; exact hr1 ha⟩
        · simp only [keys, List.map_append, List.map_cons, List.map_nil]
          exact List.nodup_append.2 ⟨k2, by simp, fun a ha c hc hac => by rw [List.mem_singleton.1 hc] at hac; subst hac; exact hr1 ha⟩
        · intro k hk hl
          simp only [keys, List.map_append, List.map_cons, List.map_nil, List.mem_append, List.mem_singleton] at hk
          rcases hk with hk | hk
          · exact List.mem_cons_of_mem _ (k3 k hk (List.mem_cons_of_mem _ hl))
          · rw [hk]; exact List.mem_cons_self ..
      · rw [r2]
        exact AOp.perm (List.perm_append_comm (l₁ := [_])) (AOp.frameR [(r0, b)] e1')
      · intro _ _
        refine ⟨⟨(r0, b) :: GB, hGB.cons _⟩, ?_⟩
        rintro v K ⟨H', hRv, rfl, _⟩
        obtain ⟨G1, hG1⟩ := hR v H' hRv
        exact ⟨(r0, b) :: G1, (List.perm_append_comm (l₂ := [_])).trans (hG1.cons _)⟩
      · rintro v K ⟨H', hRv, rfl, hnd⟩
        obtain ⟨_, _, m', b', hbm', _, k⟩ := key v H' hRv
        rw [hbm] at hbm'; cases hbm'
        have hr1 : r0 ∉ keys H' := by
          intro hmem
          simp only [keys, List.map_append, List.map_cons, List.map_nil] at hnd
          exact (List.nodup_append.1 hnd).2.2 r0 hmem r0 (List.mem_singleton.2 rfl) rfl
        exact ((k r0 hr1).perm List.perm_append_comm).cong (sw v _)
  · -- x reads what the region found
    rw [r1 u] at h
    have q : ∀ {v : A}, Plan2 P N L ops late uni hv bv nv B Q r (put o.dst v (put x.dst u T)) H → Plan2 P N L ops late uni hv bv nv B Q (x :: r) (put o.dst v T) H := fun k => ⟨hd, .inr (.inr (.inr (.inr (.inl ⟨c1, by rw [r2]; exact w1, u, hbu, by rw [r2]; exact e1, k.cong (sw u _)⟩))))⟩
    rcases h with ⟨c2, w2, v, e2, k⟩ | ⟨w2, k⟩ | ⟨c2, w2, v, e2, k⟩ | ⟨c2, w2, R, e2, k⟩ | ⟨c2, w2, v, hbv, e2, k⟩ | ⟨c2, _⟩ | ⟨c2, w2, m, b, hbm, e2, k⟩
    · exact ⟨hd2, .inl ⟨c2, w2, v, e2, q k⟩⟩
    · exact ⟨hd2, .inr (.inl ⟨w2, q k⟩)⟩
    · exact ⟨hd2, .inr (.inr (.inl ⟨c2, w2, v, e2, q k⟩))⟩
    · rcases hco c2.1 with h0 | ⟨_, _, hn, hl⟩ | ⟨_, _, hu⟩
      · have := c1.1; rw [h0] at this; cases this
      · obtain ⟨ene, e2', e2''⟩ := e2
        obtain ⟨hB, hR⟩ := e2'' hn hl
        exact ⟨hd2, .inr (.inr (.inr (.inl ⟨c2, w2, R, ⟨ene, e2', e2''⟩, fun v H' hr => ⟨hd, .inr (.inr (.inr (.inr (.inl ⟨⟨c1.1, c1.2.1, hR v H' hr⟩, by rw [r2]; exact w1, u, hbu, by rw [r2]; exact e1, (k v H' hr).cong (sw u _)⟩))))⟩⟩)))⟩
      · have := c2.2; rw [hu] at this; cases this
    · exact ⟨hd2, .inr (.inr (.inr (.inr (.inl ⟨c2, w2, v, hbv, e2, q k⟩))))⟩
    · rw [hnp] at c2; cases c2
    · refine ⟨hd2, .inr (.inr (.inr (.inr (.inr (.inr ⟨c2, w2, m, b, hbm, e2, fun r0 hr0 => ?_⟩)))))⟩
      obtain ⟨_, _, G, hG⟩ := c1
      exact ⟨hd, .inr (.inr (.inr (.inr (.inl ⟨⟨by assumption, by assumption, (r0, b) :: G, hG.cons _⟩, by rw [r2]; exact w1, u, hbu, by rw [r2]; exact e1, (k r0 hr0).cong (sw u _)⟩))))⟩
  · cases c1
  · -- x makes a block, whatever else
    obtain ⟨r9, hr9⟩ := fresh9 (keys H)
    have hdo := (h r9 hr9).1
    have putx : ∀ {v : A}, (∀ r0, r0 ∉ keys H → Plan2 P N L ops late uni hv bv nv B Q r (put o.dst v (put x.dst (m r0) T)) ((r0, b) :: H)) → Plan2 P N L ops late uni hv bv nv B Q (x :: r) (put o.dst v T) H := fun k =>
      ⟨hd, .inr (.inr (.inr (.inr (.inr (.inr ⟨c1, by rw [r2]; exact w1, m, b, hbm, by rw [r2]; exact e1, fun r0 hr0 => (k r0 hr0).cong (sw _ _)⟩)))))⟩
    by_cases hw : wantA ops (restr T (o.looksAt ops)) o = some false
    · refine ⟨hdo, .inr (.inl ⟨hw, putx fun r0 hr0 => ?_⟩)⟩
      obtain ⟨_, k⟩ := h r0 hr0
      rw [r1 (m r0)] at k
      rcases k with ⟨_, w2, _⟩ | ⟨_, k⟩ | ⟨_, w2, _⟩ | ⟨_, w2, _⟩ | ⟨_, w2, _⟩ | ⟨c2, _⟩ | ⟨_, w2, _⟩
      · rw [hw] at w2; cases w2
      · exact k
      · rw [hw] at w2; cases w2
      · rw [hw] at w2; cases w2
      · rw [hw] at w2; cases w2
      · rw [hnp] at c2; cases c2
      · rw [hw] at w2; cases w2
    rcases hcx c1.2.1 with ho | ⟨hn, hl, ho, hlo⟩ | ⟨hn, hl, hu⟩
    · have key : ∀ r0, r0 ∉ keys H → wantA ops (restr T (o.looksAt ops)) o = some true ∧ ((clsH hv o = 1 → late o = true) ∧ isEE o = false ∧ uni o = false) ∧ ∃ u, sOpX P L (restr T (o.looksAt ops)) o.op = some u ∧ Plan2 P N L ops late uni hv bv nv B Q r (put o.dst u (put x.dst (m r0) T)) ((r0, b) :: H) := by
        intro r0 hr0
        obtain ⟨_, k⟩ := h r0 hr0
        rw [r1 (m r0)] at k
        rcases k with ⟨c2, w2, k⟩ | ⟨w2, _⟩ | ⟨c2, _⟩ | ⟨c2, _⟩ | ⟨c2, _⟩ | ⟨c2, _⟩ | ⟨c2, _⟩
        · exact ⟨w2, c2, k⟩
        · exact absurd w2 hw
        · exact absurd ho c2.1
        · have := c2.1; rw [ho] at this; cases this
        · have := c2.1; rw [ho] at this; cases this
        · rw [hnp] at c2; cases c2
        · have := c2.2.1; rw [ho] at this; cases this
      obtain ⟨w2, c2, u, e2, _⟩ := key r9 hr9
      refine ⟨hdo, .inl ⟨c2, w2, u, e2, putx fun r0 hr0 => ?_⟩⟩
      obtain ⟨_, _, u', e2', k⟩ := key r0 hr0
      rw [e2] at e2'; cases e2'
      exact k
    · have key : ∀ r0, r0 ∉ keys H → (wantA ops (restr T (o.looksAt ops)) o = some true ∧ uni o = false ∧ ∃ u, o.dst.map bv = some u ∧ AOp P N [] o [] (Qn o (restr T (o.looksAt ops)) fun r H' => r = u ∧ H' = B) (restr T (o.looksAt ops)) B ∧ Plan2 P N L ops late uni hv bv nv B Q r (put o.dst u (put x.dst (m r0) T)) ((r0, b) :: H)) := by
        intro r0 hr0
        obtain ⟨_, k⟩ := h r0 hr0
        rw [r1 (m r0)] at k
        rcases k with ⟨c2, _⟩ | ⟨w2, _⟩ | ⟨c2, _⟩ | ⟨c2, _⟩ | ⟨c2, w2, k⟩ | ⟨c2, _⟩ | ⟨c2, _⟩
        · have := c2.1 ho; rw [hlo] at this; cases this
        · exact absurd w2 hw
        · have := c2.2.1 ho; rw [hlo] at this; cases this
        · have := c2.1; rw [ho] at this; cases this
        · exact ⟨w2, c2.2.1, k⟩
        · rw [hnp] at c2; cases c2
        · have := c2.2.1; rw [ho] at this; cases this
      obtain ⟨w2, hu2, u, hbu, e2, _⟩ := key r9 hr9
      refine ⟨hdo, .inr (.inr (.inr (.inr (.inl ⟨⟨ho, hu2, c1.2.2⟩, w2, u, hbu, e2, putx fun r0 hr0 => ?_⟩))))⟩
      obtain ⟨_, _, u', hbu', _, k⟩ := key r0 hr0
      rw [hbu] at hbu'; cases hbu'
      exact k
    · have key : ∀ r0, r0 ∉ keys H → (wantA ops (restr T (o.looksAt ops)) o = some true ∧ clsH hv o = 2 ∧ ∃ m' b', o.dst.map nv = some (m', b') ∧ AOp P N [] o [] (Qn o (restr T (o.looksAt ops)) fun r H' => ∃ r0, r = m' r0 ∧ H' = [(r0, b')]) (restr T (o.looksAt ops)) [] ∧ ∀ r1, r1 ∉ keys ((r0, b) :: H) → Plan2 P N L ops late uni hv bv nv B Q r (put o.dst (m' r1) (put x.dst (m r0) T)) ((r1, b') :: (r0, b) :: H)) := by
        intro r0 hr0
        obtain ⟨_, k⟩ := h r0 hr0
        rw [r1 (m r0)] at k
        rcases k with ⟨c2, _⟩ | ⟨w2, _⟩ | ⟨c2, _⟩ | ⟨c2, _⟩ | ⟨c2, _⟩ | ⟨c2, _⟩ | ⟨c2, w2, k⟩
        · have := c2.2.2; rw [hu] at this; cases this
        · exact absurd w2 hw
        · have := c2.2.2.2; rw [hu] at this; cases this
        · have := c2.2; rw [hu] at this; cases this
        · have := c2.2.1; rw [hu] at this; cases this
        · rw [hnp] at c2; cases c2
        · exact ⟨w2, c2.2.1, k⟩
      obtain ⟨w2, hc2, m2, b2, hbm2, e2, _⟩ := key r9 hr9
      refine ⟨hdo, .inr (.inr (.inr (.inr (.inr (.inr ⟨⟨hu, hc2, c1.2.2⟩, w2, m2, b2, hbm2, e2, fun r1' hr1' => ?_⟩)))))⟩
      obtain ⟨cu, cc, G, hG⟩ := c1
      refine ⟨hd, .inr (.inr (.inr (.inr (.inr (.inr ⟨⟨cu, cc, (r1', b2) :: G, hG.cons _⟩, by rw [r2]; exact w1, m, b, hbm, by rw [r2]; exact e1, fun r0 hr0 => ?_⟩)))))⟩
      have hr0' : r0 ∉ keys H := fun e => hr0 (List.mem_cons_of_mem _ e)
      have hr1'' : r1' ∉ keys ((r0, b) :: H) := by
        intro e
        rcases List.mem_cons.1 e with e | e
        · exact hr0 (by rw [← show r1' = r0 from e]; exact List.mem_cons_self ..)
        · exact hr1' e
      obtain ⟨_, _, m', b', hbm', _, k⟩ := key r0 hr0'
      rw [hbm2] at hbm'; cases hbm'
      exact ((k r1' hr1'').perm (List.Perm.swap ..)).cong (sw _ _)
theorem Plan2.first {o : Oper} : ∀ {l1 l2 : List Oper} {T : Env} {H : Heap}, (∀ x ∈ l1, x.apart ops o = true ∧ compat2 late uni hv x o = true) → Plan2 P N L ops late uni hv bv nv B Q (l1 ++ o :: l2) T H → Plan2 P N L ops late uni hv bv nv B Q (o :: (l1 ++ l2)) T H
  | [], l2, T, H, _, h => h
  | x :: l1, l2, T, H, hc, h => by
    refine Plan2.swap (hc x List.mem_cons_self).1 (hc x List.mem_cons_self).2 ?_
    have hc' : ∀ y ∈ l1, y.apart ops o = true ∧ compat2 late uni hv y o = true := fun y hy => hc y (List.mem_cons_of_mem _ hy)
    obtain ⟨hd, h⟩ := h
    refine ⟨hd, ?_⟩
    rcases h with ⟨h0, h1, v, h2, h3⟩ | ⟨h1, h3⟩ | ⟨h0, h1, v, h2, h3⟩ | ⟨h0, h1, R, h2, h3⟩ | ⟨h0, h1, v, hb, h2, h3⟩ | ⟨_, h0, _⟩ | ⟨h0, h1, m, b, h2, h3, h4⟩
    · exact .inl ⟨h0, h1, v, h2, Plan2.first hc' h3⟩
    · exact .inr (.inl ⟨h1, Plan2.first hc' h3⟩)
    · exact .inr (.inr (.inl ⟨h0, h1, v, h2, Plan2.first hc' h3⟩))
    · exact .inr (.inr (.inr (.inl ⟨h0, h1, R, h2, fun v H' hR => Plan2.first hc' (h3 v H' hR)⟩)))
    · exact .inr (.inr (.inr (.inr (.inl ⟨h0, h1, v, hb, h2, Plan2.first hc' h3⟩))))
    · cases l1 <;> cases h0
    · exact .inr (.inr (.inr (.inr (.inr (.inr ⟨h0, h1, m, b, h2, h3, fun r0 hr0 => Plan2.first hc' (h4 r0 hr0)⟩)))))
end
theorem memI_iff {i : Nat} : ∀ {L : List (Nat × Oper)}, memI i L = true ↔ ∃ o, (i, o) ∈ L
  | [] => by simp [memI]
  | p :: l => by
    simp only [memI]
    split
    · rename_i e
      have e := Nat.eq_of_beq_eq_true e
      subst e
      simp only [true_iff]
      exact ⟨p.2, List.mem_cons_self ..⟩
    · rename_i e
      rw [memI_iff]
      constructor
      · rintro ⟨o, ho⟩; exact ⟨o, List.mem_cons_of_mem _ ho⟩
      · rintro ⟨o, ho⟩
        rcases List.mem_cons.1 ho with e2 | ho
        · subst e2; simp at e
        · exact ⟨o, ho⟩
theorem chkL_spec {late uni hv : Oper → Bool} {ops : Array Oper} {b : List Nat} : ∀ {L pre : List (Nat × Oper)}, chkL late uni hv ops b pre L = true → ∀ (l1 : List (Nat × Oper)) (p : Nat × Oper) (l2 : List (Nat × Oper)), L = l1 ++ p :: l2 →
    (∀ e ∈ p.2.after.toList, Region.binds .any e = true → ∃ o, (e.on, o) ∈ pre ∨ (e.on, o) ∈ l1) ∧
    (∀ q, q ∈ pre ∨ q ∈ l1 → (b.getD p.1 0).testBit q.1 = true ∨ (q.2.apart ops p.2 = true ∧ compat2 late uni hv q.2 p.2 = true)) ∧ (∀ q, q ∈ pre ∨ q ∈ l1 → q.1 ≠ p.1)
  | [], pre, h, l1, p, l2, e => by cases l1 <;> cases e
  | p0 :: L, pre, h, l1, p, l2, e => by
    simp only [chkL, Bool.and_eq_true, List.all_eq_true, Bool.not_eq_true'] at h
    obtain ⟨⟨⟨h1, h2⟩, h3⟩, h4⟩ := h
    cases l1 with
    | nil =>
      simp only [List.nil_append, List.cons.injEq] at e
      obtain ⟨rfl, rfl⟩ := e
      refine ⟨fun e he hb => ?_, fun q hq => ?_, fun q hq hne => ?_⟩
      · have := h1 e he
        rw [hb] at this
        obtain ⟨o, ho⟩ := memI_iff.1 this
        exact ⟨o, .inl ho⟩
      · rcases hq with hq | hq
        · have := h2 q hq
          rw [Bool.or_eq_true, Bool.and_eq_true] at this
          exact this
        · cases hq
      · rcases hq with hq | hq
        · have : memI p0.1 pre = true := memI_iff.2 ⟨q.2, by rw [← hne]; exact hq⟩
          rw [h3] at this; cases this
        · cases hq
    | cons a l1 =>
      simp only [List.cons_append, List.cons.injEq] at e
      obtain ⟨rfl, rfl⟩ := e
      obtain ⟨k1, k2, k3⟩ := chkL_spec h4 l1 p l2 rfl
      have conv : ∀ q, q ∈ pre ∨ q ∈ p0 :: l1 → q ∈ p0 :: pre ∨ q ∈ l1 := by
        rintro q (hq | hq)
        · exact .inl (List.mem_cons_of_mem _ hq)
        · rcases List.mem_cons.1 hq with rfl | hq
          · exact .inl (List.mem_cons_self ..)
          · exact .inr hq
      refine ⟨fun e he hb => ?_, fun q hq => k2 q (conv q hq), fun q hq => k3 q (conv q hq)⟩
      obtain ⟨o, ho | ho⟩ := k1 e he hb
      · rcases List.mem_cons.1 ho with e2 | ho
        · exact ⟨o, .inr (by rw [e2]; exact List.mem_cons_self ..)⟩
        · exact ⟨o, .inl ho⟩
      · exact ⟨o, .inr (List.mem_cons_of_mem _ ho)⟩
/-- What is not yet listed, in the order of L. -/
def unlP (listed : Array Bool) : List (Nat × Oper) → List Oper
  | [] => []
  | p :: L => match listed.getD p.1 true with
    | true => unlP listed L
    | false => p.2 :: unlP listed L
theorem unlP_first {listed : Array Bool} : ∀ {L : List (Nat × Oper)}, unlP listed L ≠ [] → ∃ l1 p l2, L = l1 ++ p :: l2 ∧ listed.getD p.1 true = false ∧ ∀ q ∈ l1, listed.getD q.1 true = true
  | [], h => absurd rfl h
  | p :: L, h => by
    simp only [unlP] at h
    split at h
    · rename_i hp
      obtain ⟨l1, p', l2, rfl, h2, h3⟩ := unlP_first h
      exact ⟨p :: l1, p', l2, rfl, h2, fun q hq => by
        rcases List.mem_cons.1 hq with rfl | hq
        · exact hp
        · exact h3 q hq⟩
    · rename_i hp
      exact ⟨[], p, L, rfl, hp, fun q hq => by cases hq⟩
theorem unlP_same {listed : Array Bool} {i : Nat} : ∀ {L : List (Nat × Oper)}, (∀ q ∈ L, q.1 ≠ i) → unlP (listed.setIfInBounds i true) L = unlP listed L
  | [], _ => rfl
  | p :: L, h => by
    have hp : (listed.setIfInBounds i true).getD p.1 true = listed.getD p.1 true := by
      have := h p (List.mem_cons_self ..)
      simp [Array.getD_eq_getD_getElem?, Array.getElem?_setIfInBounds, Ne.symm this]
    simp only [unlP, hp, unlP_same (fun q hq => h q (List.mem_cons_of_mem _ hq))]
theorem unlP_append {listed : Array Bool} : ∀ {l m : List (Nat × Oper)}, unlP listed (l ++ m) = unlP listed l ++ unlP listed m
  | [], m => rfl
  | p :: l, m => by
    simp only [List.cons_append, unlP, unlP_append]
    split <;> rfl
theorem unlP_mem {listed : Array Bool} : ∀ {L : List (Nat × Oper)} {x : Oper}, x ∈ unlP listed L → ∃ j, (j, x) ∈ L ∧ listed.getD j true = false
  | [], x, h => by cases h
  | p :: L, x, h => by
    simp only [unlP] at h
    split at h
    · obtain ⟨j, h1, h2⟩ := unlP_mem h
      exact ⟨j, List.mem_cons_of_mem _ h1, h2⟩
    · rename_i hp
      rcases List.mem_cons.1 h with rfl | h
      · exact ⟨p.1, List.mem_cons_self .., hp⟩
      · obtain ⟨j, h1, h2⟩ := unlP_mem h
        exact ⟨j, List.mem_cons_of_mem _ h1, h2⟩
theorem ordL_get {ops : List Oper} {is : List Nat} {p : Nat × Oper} (h : p ∈ ordL ops is) : ops[p.1]? = some p.2 := by
  unfold ordL at h
  obtain ⟨i, _, hi⟩ := List.mem_filterMap.1 h
  obtain ⟨o, ho, rfl⟩ := Option.map_eq_some_iff.1 hi
  exact ho
theorem nodup_len {l m : List Nat} (h : l.Nodup) (hs : ∀ x ∈ l, x ∈ m) : l.length ≤ m.length := by
  induction l generalizing m with
  | nil => simp
  | cons a l ih =>
    obtain ⟨h1, h2⟩ := List.nodup_cons.1 h
    have ha := hs a (List.mem_cons_self ..)
    have := ih (m := m.erase a) h2 fun x hx => (List.mem_erase_of_ne (fun e => h1 (by rw [← e]; exact hx))).2 (hs x (List.mem_cons_of_mem _ hx))
    rw [List.length_erase_of_mem ha] at this
    have hp : 0 < m.length := List.length_pos_of_mem ha
    simp only [List.length_cons]; omega
theorem Plan2.any {P : Program} {N : NN} {L : Lay} {late uni hv : Oper → Bool} {bv : Nat → A} {nv : Nat → (Nat → A) × Blk} {B : Heap} {ops : List Oper} {LL : List (Nat × Oper)} {Q0 : Exit → Env → Heap → Prop} (hL : LayOk P L) (hLL : ∀ p ∈ LL, ops[p.1]? = some p.2) (hc : chk2 late uni hv ops LL = true) : ∀ (fuel : Nat) (listed : Array Bool) (T : Env) (H : Heap), listed.size = ops.length →
    (∀ k o, ops[k]? = some o → listed.getD k false = true → ∀ e ∈ o.after.toList, Region.binds .any e = true → listed.getD e.on false = true) → (unlP listed LL).length ≤ fuel → Plan2 P N L ops.toArray late uni hv bv nv B Q0 (unlP listed LL) T H →
    ∀ (fr : Nat → Prop) (w : World) (a : Act), Sim fr H w → St N w (own fr H) T a → wpAny P .any ops.toArray (Post N fr H w Q0) fuel listed a w := by
  intro fuel
  simp only [chk2, Bool.and_eq_true, List.all_eq_true, List.mem_range] at hc
  obtain ⟨⟨_, hcov⟩, hchk⟩ := hc
  have hlt : ∀ p ∈ LL, p.1 < ops.length := fun p hp => (List.getElem?_eq_some_iff.1 (hLL p hp)).1
  have hmem : ∀ i o, ops[i]? = some o → (i, o) ∈ LL := fun i o ho => by
    obtain ⟨o', ho'⟩ := memI_iff.1 (hcov i (List.getElem?_eq_some_iff.1 ho).1)
    have := hLL _ ho'
    simp only at this
    rw [ho] at this
    cases this
    exact ho'
  -- nothing is ready only if all is listed
  have done : ∀ (listed : Array Bool) (T : Env) (H : Heap), listed.size = ops.length → Region.ready .any ops.toArray listed = [] → Plan2 P N L ops.toArray late uni hv bv nv B Q0 (unlP listed LL) T H →
      ∀ (fr : Nat → Prop) (w : World) (a : Act), Sim fr H w → St N w (own fr H) T a → Post N fr H w Q0 .normal a w := by
    intro listed T H hs hr hp fr w a s st
    have hnil : unlP listed LL = [] := by
      apply Classical.byContradiction
      intro hne
      obtain ⟨l1, p, l2, h1, h2, h3⟩ := unlP_first hne
      have hpm : p ∈ LL := by rw [h1]; exact List.mem_append.2 (.inr (List.mem_cons_self ..))
      have : p.1 ∈ Region.ready .any ops.toArray listed := mem_ready.2 ⟨h2, p.2, by simpa using hLL p hpm, fun e he hb => by
        obtain ⟨o, ho | ho⟩ := (chkL_spec hchk l1 p l2 h1).1 e (by simpa using he) hb
        · cases ho
        · have hl := h3 _ ho
          have hm : (e.on, o) ∈ LL := by rw [h1]; exact List.mem_append.2 (.inl ho)
          have := hlt _ hm
          rw [← getD_both (by simp only at this; omega)]; exact hl⟩
      rw [hr] at this; cases this
    rw [hnil] at hp
    obtain ⟨T0, H0, h1, hpm, h2⟩ := hp
    refine ⟨T0, H0, h2, s.perm hpm, ?_, Ext.permR hpm (Ext.refl H w)⟩
    rw [← own_perm hpm]; exact st.sub h1
  induction fuel with
  | zero =>
    intro listed T H hs hcl hf hp fr w a s st
    have hnil : unlP listed LL = [] := List.eq_nil_of_length_eq_zero (by omega)
    have hr : Region.ready .any ops.toArray listed = [] := by
      apply Classical.byContradiction
      intro hne
      obtain ⟨i, hi⟩ := List.exists_mem_of_ne_nil _ hne
      obtain ⟨h0, o, ho, _⟩ := mem_ready.1 hi
      have ho' : ops[i]? = some o := by simpa using ho
      obtain ⟨l1, l2, h1⟩ := List.append_of_mem (hmem i o ho')
      rw [h1, unlP_append] at hnil
      simp only [unlP, h0] at hnil
      simp at hnil
    exact ⟨hr, done listed T H hs hr hp fr w a s st⟩
  | succ fuel ih =>
    intro listed T H hs hcl hf hp fr w a s st
    refine ⟨fun hr => done listed T H hs hr hp fr w a s st, fun i hi => ?_⟩
    obtain ⟨h0, o, ho, hedge⟩ := mem_ready.1 hi
    have ho' : ops[i]? = some o := by simpa using ho
    have hilt := (List.getElem?_eq_some_iff.1 ho').1
    obtain ⟨l1, l2, hLe⟩ := List.append_of_mem (hmem i o ho')
    obtain ⟨_, hpair, hne1⟩ := chkL_spec hchk l1 (i, o) l2 hLe
    have hne2 : ∀ q ∈ l2, q.1 ≠ i := by
      intro q hq
      obtain ⟨a1, a2, ha⟩ := List.append_of_mem hq
      have := (chkL_spec hchk (l1 ++ (i, o) :: a1) q a2 (by rw [hLe, ha]; simp)).2.2 (i, o) (.inr (by simp))
      exact fun e => this e.symm
    have h1 : unlP listed LL = unlP listed l1 ++ o :: unlP listed l2 := by
      rw [hLe, unlP_append]
      simp only [unlP, h0]
    have h2 : unlP (listed.setIfInBounds i true) LL = unlP listed l1 ++ unlP listed l2 := by
      rw [hLe, unlP_append, unlP_same (fun q hq => hne1 q (.inr hq))]
      simp only [unlP]
      have : (listed.setIfInBounds i true).getD i true = true := by simp [Array.getD_eq_getD_getElem?, Array.getElem?_setIfInBounds]; split <;> rfl
      simp only [this, unlP_same hne2]
    rw [h1] at hp hf
    have hp := Plan2.first (fun x hx => by
      obtain ⟨j, hj, hjl⟩ := unlP_mem hx
      rcases hpair (j, x) (.inr hj) with hb | hb
      · have hjm : (j, x) ∈ LL := by rw [hLe]; exact List.mem_append.2 (.inl hj)
        have hjlt := hlt _ hjm
        have := (anc_spec ops).2 i j hb listed hcl (fun o2 ho2 e he hb => by
          rw [ho'] at ho2; cases ho2
          exact hedge e (by simpa using he) hb)
        rw [← getD_both (by simp only at hjlt; omega), hjl] at this; cases this
      · exact hb) hp
    rw [← h2] at hp
    have hs' : (listed.setIfInBounds i true).size = ops.length := by simpa using hs
    have hcl' : ∀ k o, ops[k]? = some o → (listed.setIfInBounds i true).getD k false = true → ∀ e ∈ o.after.toList, Region.binds .any e = true → (listed.setIfInBounds i true).getD e.on false = true := by
      intro k o2 ho2 hk e he hb
      refine getD_set_true ?_
      by_cases hki : k = i
      · subst hki
        rw [ho'] at ho2; cases ho2
        exact hedge e (by simpa using he) hb
      · rw [getD_set_ne false (Ne.symm hki)] at hk
        exact hcl k o2 ho2 hk e he hb
    have hf' : (unlP (listed.setIfInBounds i true) LL).length ≤ fuel := by
      rw [h2]; simp only [List.length_append, List.length_cons] at hf ⊢; omega
    have hlook : ∀ c, wantA ops.toArray (restr T (o.looksAt ops.toArray)) o = some c → Region.wanted o (yielded ops.toArray a.tmps) = c := fun c h => wantA_ok (st.sub (restr_sub T _)) h
    obtain ⟨hd, hp⟩ := hp
    unfold wpOp
    rw [ho]
    simp only
    have next : ∀ v H' w' v', Sim fr H' w' → St N w' (own fr H') (put o.dst v T) (a.put o.dst v') → Ext H w H' w' → Plan2 P N L ops.toArray late uni hv bv nv B Q0 (unlP (listed.setIfInBounds i true) LL) (put o.dst v T) H' →
        wpAny P .any ops.toArray (Post N fr H w Q0) fuel (listed.setIfInBounds i true) (a.put o.dst v') w' := fun v H' w' v' s' st' x hp' =>
      wpAny_mono2 (fun _ _ _ => Post.of_ext x) _ _ _ _ (ih _ _ _ hs' hcl' hf' hp' fr w' _ s' st')
    rcases hp with ⟨_, w1, v, e1, hp⟩ | ⟨w1, hp⟩ | ⟨_, w1, v, e1, hp⟩ | ⟨_, w1, R, ⟨_, e1, _⟩, hp⟩ | ⟨⟨_, _, G, hG⟩, w1, v, _, e1, hp⟩ | ⟨_, _, hg, x, t, v, u, hop, hx, hu, T0, H0, hT0, hpm, hq⟩ | ⟨_, w1, m, b, _, e1, hp⟩
    · rw [hlook _ w1, if_pos rfl]
      refine .inl (AOp.node (R := fun r H' => r = v ∧ H' = H) (AOp.simpleX hL e1 hd (AOps.nil ⟨v, ⟨rfl, rfl⟩, rfl⟩)) hd s st ?_)
      rintro u H' w' v' ⟨rfl, rfl⟩ s' st' x
      exact next _ _ w' v' s' st' x hp
    · rw [hlook _ w1, if_neg (by simp)]
      exact next _ _ w undef s (st.put hd (Rep.tup_of .nil)) (Ext.refl H w) hp
    · rw [hlook _ w1, if_pos rfl]
      refine .inl (AOp.node e1 hd s st ?_)
      rintro u H' w' v' ⟨rfl, rfl⟩ s' st' x
      exact next _ _ w' v' s' st' x hp
    · rw [hlook _ w1, if_pos rfl]
      refine .inl (AOp.node e1 hd s st ?_)
      intro u H' w' v' hR s' st' x
      exact next _ _ w' v' s' st' x (hp u H' hR)
    · rw [hlook _ w1, if_pos rfl]
      refine .inl (AOp.node (AOp.base (hG.trans List.perm_append_comm) e1) hd s st ?_)
      rintro u H' w' v' ⟨rfl, rfl⟩ s' st' x
      exact next _ _ w' v' s' st' x hp
    · rw [if_pos (by simp [Region.wanted, hg])]
      left
      have he := datA_eq (a := .iface t v) (u := .iface t u) (by simp only [datA, hu]) (ev_rep (st.sub (restr_sub T _)) hx)
      unfold Oper.wp execOp
      simp only [hop, he, Sem.run_bind, run_panic_iface, Result.andThen_halt, Oper.upon_panic]
      refine ⟨T0, H0, hq, s.perm hpm, ?_, Ext.permR hpm (Ext.refl H w)⟩
      rw [← own_perm hpm]; exact st.sub hT0
    · rw [hlook _ w1, if_pos rfl]
      refine .inl (AOp.node (AOp.newAt H e1) hd s st ?_)
      rintro u H' w' v' ⟨r0, hr0, rfl, rfl⟩ s' st' x
      exact next _ _ w' v' s' st' x (hp r0 hr0)
/-- A region that draws its order: walked in one order. -/
theorem AWp.draw2 {P : Program} {N : NN} {L : Lay} {late uni hv : Oper → Bool} {bv : Nat → A} {nv : Nat → (Nat → A) × Blk} {B : Heap} {ops : List Oper} {LL : List (Nat × Oper)} {Q : Exit → Env → Heap → Prop} {T : Env} {H : Heap} {id : Nat} (hL : LayOk P L) (hm : P.follows .mixedOrders = true) (hLL : ∀ p ∈ LL, ops[p.1]? = some p.2) (hc : chk2 late uni hv ops LL = true)
    (h : Plan2 P N L ops.toArray late uni hv bv nv B Q (LL.map (·.2)) T H) : AWp P N (.region id ops.toArray true) Q T H := by
  refine ⟨fun fr w a s st => wp_region_any hm ?_⟩
  have hun : ∀ (l : List (Nat × Oper)), (∀ p ∈ l, p.1 < ops.length) → unlP (Array.replicate ops.toArray.size false) l = l.map (·.2) := by
    intro l
    induction l with
    | nil => intros; rfl
    | cons p l ih =>
      intro hk
      simp only [unlP, List.map_cons]
      have h1 := hk p (List.mem_cons_self ..)
      rw [ih fun q hq => hk q (List.mem_cons_of_mem _ hq)]
      have : (Array.replicate ops.toArray.size false).getD p.1 true = false := by simp [Array.getD, h1]
      simp only [this]
  have hl : ∀ p ∈ LL, p.1 < ops.length := fun p hp => (List.getElem?_eq_some_iff.1 (hLL p hp)).1
  have hlen : LL.length ≤ ops.length := by
    have hnd : ∀ (L1 pre : List (Nat × Oper)), chkL late uni hv ops.toArray (anc ops) pre L1 = true → (L1.map (·.1)).Nodup := by
      intro L1
      induction L1 with
      | nil => intros; exact List.nodup_nil
      | cons p L1 ih =>
        intro pre h
        have hh := h
        simp only [chkL, Bool.and_eq_true] at h
        refine List.nodup_cons.2 ⟨fun hm => ?_, ih _ h.2⟩
        obtain ⟨q, hq, he⟩ := List.mem_map.1 hm
        obtain ⟨a1, a2, ha⟩ := List.append_of_mem hq
        have := (chkL_spec h.2 a1 q a2 ha).2.2 p (.inl (List.mem_cons_self ..))
        exact this he.symm
    have hc' := hc
    simp only [chk2, Bool.and_eq_true] at hc'
    have h1 := hnd LL [] hc'.2
    have h2 : (LL.map (·.1)).length ≤ (List.range ops.length).length := (nodup_len h1 fun x hx => by
      obtain ⟨p, hp, rfl⟩ := List.mem_map.1 hx
      exact List.mem_range.2 (hl p hp))
    simpa using h2
  have h0 := Plan2.any (Q0 := Q) hL hLL hc ops.toArray.size (Array.replicate ops.toArray.size false) T H (by simp) (fun k o _ hk => by simp [Array.getD] at hk) (by rw [hun _ hl]; simpa using hlen) (by rw [hun _ hl]; exact h)
    fr w.drew a s.drew (st.mono (Ext.drew H w).stays)
  exact wpAny_mono2 (fun _ _ _ => Post.of_ext (Ext.drew H w)) _ _ _ _ h0
end Go.Abs

namespace Go.Abs
open Go
set_option linter.unusedVariables false
set_option linter.unusedSimpArgs false
/-! append, of whatever is appended: also of a string's bytes. -/
section
variable {P : Program} {N : NN} {Q : Exit → Env → Heap → Prop} {T : Env} {H : Heap} {ops rest : List Oper} {dst : Option Nat} {ty : TypeId} {pos : String} {after : Array Edge} {guard : Option (Nat × Bool)} {L : Lay}
theorem run_append_room_srcR (w : World) (t tx ty e : TypeId) (i : TypeInfo) (ht : P.underlying t = some (.slice e)) (hi : P.info? e = some i)
    (g sLen sCap : Nat) (cur : Array Value) (hg : w.heap[g]? = some (.cells cur e (0, 0))) (x : Value) (n : Nat) (news : List Value) (hs : Src P i.size tx x n news w)
    (hroom : sLen + n ≤ sCap) (hfit : sLen * i.size + news.length ≤ cur.size) :
    (Builtin.append_ #[t, tx] ty #[.slice (some ⟨g, 0, none⟩) sLen sCap, x]).run P w =
      .ok (.slice (some ⟨g, 0, none⟩) (sLen + n) sCap) (w.setRow g (cur.toList.take (sLen * i.size) ++ news ++ cur.toList.drop (sLen * i.size + news.length)).toArray) := by
  have hst := run_storeCells_at P g (sLen * i.size) e news 0 cur w hg (by simpa using hfit) hs.one
  simp only [Nat.add_zero] at hst
  rcases hs.kind with ⟨e', hk⟩ | hk <;> simp [Builtin.append_, run_underlying ht, run_underlying hk, sizeOf, typeInfo, hi, hs.len, hroom, hs.cells, Addr.add_lit, hst]
theorem setRow_same (w : World) (r : Nat) (cur : Array Value) (e : TypeId) (hg : w.heap[r]? = some (.cells cur e (0, 0))) : w.setRow r cur = w := by
  have h : (w.setRow r cur).heap = w.heap := by
    simp only [World.setRow]
    refine Array.ext (by simp) fun i h1 h2 => ?_
    rw [Array.getElem_modify]
    split
    · rename_i hr
      subst hr
      obtain ⟨_, hg⟩ := Array.getElem?_eq_some_iff.1 hg
      rw [hg]
    · rfl
  have h2 : w.setRow r cur = { w with heap := (w.setRow r cur).heap } := rfl
  rw [h2, h]
/-- What is appended. -/
def AppSrc (P : Program) (N : NN) (H : Heap) (T : Env) (sz t' : Nat) (y : Operand) (news : List (List A)) : Prop :=
  ∀ (fr : Nat → Prop) (w : World) (act : Act), Sim fr H w → St N w (own fr H) T act → ∃ news', Src P sz t' (act.eval y) news.length news' w ∧ RepL w (own fr H) news.flatten news'
/-- append: what is appended to owns its block (or is nil); what is appended is read. The block that comes out is the old one, or a new one. -/
theorem append_semS {t t' e : Nat} {x y : Operand} {r : Nat} {elems news : List (List A)} {sv : A} {ti ei : TI} {Hr : Heap} (hL : LayOk P L) (hx : ev T x = some sv) (ht : lay L t = some ti) (he : ti.td = .slice e)
    (hei : lay L e = some ei) (hpos : 0 < ei.size)
    (hs : (sv = .nils ∧ elems = [] ∧ H.Perm Hr) ∨ (sv = .os r ei.size 0 elems.length ∧ ∃ all, elems = all.take elems.length ∧ H.Perm ((r, .row e ei.size all) :: Hr)))
    (hy' : AppSrc P N H T ei.size t' y news) (hnl : ∀ i (hi : i < news.length), news[i].length = ei.size) (hnf : ∀ c ∈ news, allLeaf c = true) (hne : sv = .nils → news ≠ [])
    (hb1 : elems.length + news.length ≤ maxLen) (hb2 : (elems.length + news.length) * ei.bytes ≤ 140737488355328) :
    OpSem P N { dst := dst, op := .call { callee := .builtin .append, args := [x, y].toArray, argTypes := [t, t'].toArray }, type := ty, pos := pos, after := after, guard := guard } T H
      fun v H' => ∃ r', r' ∉ keys Hr ∧ v = .os r' ei.size 0 (elems.length + news.length) ∧ H' = (r', .row e ei.size (elems ++ news)) :: Hr := by
  intro fr w act s st
  obtain ⟨info, zv, hinfo, hi1, hi2, hi3, hzs, hzr, _⟩ := (hL _ _ hei).info
  have hund := td_slice (hL _ _ ht) he
  obtain ⟨news', hsrc, e4⟩ := hy' fr w act s st
  by_cases hnil : news = []
  · -- nothing is appended
    subst hnil
    have e4' : news' = [] := by cases e4; rfl
    subst e4'
    rcases hs with ⟨rfl, rfl, hp⟩ | ⟨rfl, all, hall, hp⟩
    · exact absurd rfl (hne rfl)
    have hu := ev_rep st hx
    generalize h1 : act.eval x = u at hu
    have sp := s.perm hp
    have hnd := List.nodup_cons.1 (show (r :: keys Hr).Nodup from sp.nodup)
    cases hu with
    | os _ _ _ _ cap hrr hcap hmax hroom =>
    have hb := blkOk_flat (sp.ok _ List.mem_cons_self)
    obtain ⟨cur, g1, g3, g2, g4, g5⟩ := hb
    have hle : elems.length ≤ all.length := by
      have := congrArg List.length hall
      rw [List.length_take] at this; omega
    have hown := own_perm (fr := fr) hp
    have hat : At ((r, Blk.row e ei.size all) :: Hr) r (.row e ei.size all) (.row e ei.size (elems ++ [])) ((r, .row e ei.size (elems ++ [])) :: Hr) := .here
    refine ⟨w, .os r ei.size 0 (elems.length + [].length), act.eval x, (r, .row e ei.size (elems ++ [])) :: Hr, .inl ?_, ⟨r, hnd.1, rfl, rfl⟩, ⟨sp.nodup, sp.apart, sp.old, fun p hp' => ?_⟩, ?_, ?_⟩
    · have hr := run_append_room_srcR (P := P) w t t' ty e info hund hinfo r elems.length cap cur g1 (act.eval y) 0 [] (by rw [hi1]; exact hsrc) (by simpa using hcap) (by
        have h5 := hroom _ _ _ g1
        have := Nat.mul_le_mul_right ei.size hcap
        rw [hi1]; simp at *; omega)
      have e9 : (cur.toList.take (elems.length * info.size) ++ [] ++ cur.toList.drop (elems.length * info.size + ([] : List Value).length)).toArray = cur := by simp
      rw [e9, setRow_same w r cur e g1] at hr
      simp only [Nat.zero_mul] at h1 ⊢
      simp only [execOp, resolve, invoke, builtin, Sem.run_bind, Sem.run_pure, Result.andThen_ok, List.map_toArray, List.map_cons, List.map_nil, h1, hr]
      rfl
    · rcases hat.cases' sp.nodup p hp' with rfl | ⟨h2, _⟩
      · refine blkOk_of_flat (vs := (cur.toList.take (all.length * ei.size)).take (elems.length * ei.size)) g1 (fun i hi => ?_) ?_ ?_ (fun j u hj => ?_)
        · simp only [List.append_nil] at hi ⊢
          have : elems[i] = all[i]'(by omega) := by
            have h2 : elems[i]? = (all.take elems.length)[i]? := by rw [← hall]
            rw [List.getElem?_eq_getElem hi, List.getElem?_take, if_pos hi, List.getElem?_eq_getElem (show i < all.length by omega)] at h2
            exact Option.some.inj h2
          rw [this]; exact g3 _ _
        · rw [List.append_nil]
          have e1 : elems.flatten = all.flatten.take (elems.length * ei.size) := by
            have := flat_take (sz := ei.size) all elems.length g3
            rw [← hall] at this; exact this
          rw [e1]; exact g4.take _
        · rw [List.append_nil, allLeaf_iff]
          intro q hq
          rw [hall] at hq
          obtain ⟨l, hl1, hl2⟩ := List.mem_flatten.1 hq
          exact allLeaf_iff.1 g5 q (List.mem_flatten.2 ⟨l, List.mem_of_mem_take hl1, hl2⟩)
        · rw [List.getElem?_take] at hj
          split at hj
          · rw [List.getElem?_take] at hj
            split at hj
            · rw [Array.getElem?_toList] at hj; exact hj
            · cases hj
          · cases hj
      · exact sp.ok p h2
    · rw [h1]
      exact .os _ _ _ _ cap hrr (by simpa using hcap) hmax hroom
    · refine ⟨rfl, rfl, rfl, Nat.le_refl _, fun _ _ _ => rfl, fun k hk => .inl ?_, fun _ _ c _ f h => ⟨c, f, h, rfl⟩⟩
      exact (hp.map _).mem_iff.2 hk
  have e3 : news'.length = news.length * info.size := by rw [hsrc.newsLen, hi1]
  have hsrc' : Src P info.size t' (act.eval y) news.length news' w := by rw [hi1]; exact hsrc
  have hnl1 : news'.length = news.length * ei.size := hsrc.newsLen
  have hexec : ∀ u, act.eval x = u → (execOp act.eval { dst := dst, op := .call { callee := .builtin .append, args := [x, y].toArray, argTypes := [t, t'].toArray }, type := ty, pos := pos, after := after, guard := guard }).run P w =
      ((Builtin.append_ #[t, t'] ty #[u, act.eval y]).run P w).andThen fun v w' => .ok (.value v) w' := by
    intro u hu
    simp only [execOp, resolve, invoke, builtin, Sem.run_bind, Sem.run_pure, Result.andThen_ok, List.map_toArray, List.map_cons, List.map_nil, hu]
  -- the new block's state
  have fresh : ∀ (olds : List Value) (old : Nat), RepL w (own fr H) elems.flatten olds → olds.length = elems.length * ei.size → allLeaf elems.flatten = true → (∀ i (hi : i < elems.length), elems[i].length = ei.size) → keys Hr ⊆ keys H → (∀ p ∈ Hr, p ∈ H) →
      ∀ (wn : World), wn = w.drew.alloc (.cells (olds.toArray ++ news'.toArray ++ Builtin.zeroCells zv.cells (grownCap w (elems.length + news.length) old e - (elems.length + news.length))) e) →
        (keys Hr).Nodup → Sim fr ((w.heap.size, .row e ei.size (elems ++ news)) :: Hr) wn ∧ Rep wn (own fr ((w.heap.size, .row e ei.size (elems ++ news)) :: Hr)) (.os w.heap.size ei.size 0 (elems.length + news.length)) (.slice (some ⟨w.heap.size, 0, none⟩) (elems.length + news.length) (grownCap w (elems.length + news.length) old e)) ∧
        Ext H w ((w.heap.size, .row e ei.size (elems ++ news)) :: Hr) wn := by
    intro olds old ho hol hlf helen hsub hmem wn hwn hnd
    subst hwn
    have hge := grownCap_ge w (elems.length + news.length) old e
    have hcm := grownCap_le_maxLen w (elems.length + news.length) old e hb1
    have hstay : Stays w (own fr H) (w.drew.alloc (.cells (olds.toArray ++ news'.toArray ++ Builtin.zeroCells zv.cells (grownCap w (elems.length + news.length) old e - (elems.length + news.length))) e)) (own fr ((w.heap.size, .row e ei.size (elems ++ news)) :: Hr)) := by
      refine ⟨by simp, fun k hk _ => heap_old w.drew _ k hk, fun k hk hn h => ?_, fun k hk c' T' f h => ?_⟩
      · rcases h with h | h
        · exact hn (.inl h)
        · simp only [keys, List.map_cons, List.mem_cons] at h
          rcases h with h | h
          · omega
          · exact hn (.inr (hsub h))
      · have := heap_old w.drew (.cells (olds.toArray ++ news'.toArray ++ Builtin.zeroCells zv.cells (grownCap w (elems.length + news.length) old e - (elems.length + news.length))) e) k hk
        rw [this] at h
        exact ⟨c', f, h, rfl⟩
    have hsize : (olds.toArray ++ news'.toArray ++ Builtin.zeroCells zv.cells (grownCap w (elems.length + news.length) old e - (elems.length + news.length))).size = grownCap w (elems.length + news.length) old e * ei.size := by
      simp only [Array.size_append, List.size_toArray, zeroCells_len, hzs, hol, hnl1, ← Nat.add_mul]
      congr 1; omega
    refine ⟨⟨?_, ?_, ?_, ?_⟩, ?_, ?_⟩
    · exact List.nodup_cons.2 ⟨fun h => (own_new s).1 (hsub h), hnd⟩
    · intro k hk
      simp only [keys, List.map_cons, List.mem_cons] at hk
      rcases hk with rfl | hk
      · exact (own_new s).2
      · exact s.apart k (hsub hk)
    · intro k hk; have := s.old k hk; simp; omega
    · intro p hp
      rcases List.mem_cons.1 hp with rfl | hp
      · refine blkOk_of_flat (vs := olds ++ news') (heap_alloc_new w.drew _) (fun i hi => ?_) (by rw [flat_append]; exact (ho.append e4).mono hstay) (by rw [flat_append]; exact allLeaf_append hlf (RepL.flatLeaf hnf)) (fun j u hj => ?_)
        · rw [List.getElem_append]; split
          · exact helen _ _
          · exact hnl _ _
        · have hlt := (List.getElem?_eq_some_iff.1 hj).1
          rw [Array.getElem?_append_left (by simpa using hlt)]
          rw [← Array.getElem?_toList]; simpa using hj
      · exact (s.ok p (hmem p hp)).mono hstay (heap_old w.drew _ _ (s.ok p (hmem p hp)).lt)
    · have := Rep.os (w := w.drew.alloc (.cells (olds.toArray ++ news'.toArray ++ Builtin.zeroCells zv.cells (grownCap w (elems.length + news.length) old e - (elems.length + news.length))) e)) (own := own fr ((w.heap.size, .row e ei.size (elems ++ news)) :: Hr))
        w.heap.size ei.size 0 (elems.length + news.length) (grownCap w (elems.length + news.length) old e) (by simp) hge hcm (fun c' T' f h => by
          have hh := heap_alloc_new w.drew (.cells (olds.toArray ++ news'.toArray ++ Builtin.zeroCells zv.cells (grownCap w (elems.length + news.length) old e - (elems.length + news.length))) e)
          have hh' : (w.drew.alloc (.cells (olds.toArray ++ news'.toArray ++ Builtin.zeroCells zv.cells (grownCap w (elems.length + news.length) old e - (elems.length + news.length))) e)).heap[w.heap.size]? = some (.cells (olds.toArray ++ news'.toArray ++ Builtin.zeroCells zv.cells (grownCap w (elems.length + news.length) old e - (elems.length + news.length))) e) := hh
          rw [hh'] at h
          cases h
          rw [Nat.zero_add, hsize])
      simpa using this
    · refine ⟨rfl, rfl, rfl, by simp, fun k hk _ => heap_old w.drew _ k hk, fun k hk => ?_, hstay.shape⟩
      simp only [keys, List.map_cons, List.mem_cons] at hk
      rcases hk with rfl | hk
      · exact .inr (Nat.le_refl _)
      · exact .inl (hsub hk)
  have hfitting : ∀ old, old < elems.length + news.length → Builtin.nextslicecap (elems.length + news.length) old * info.bytes ≤ 281474976710656 := fun old ho => by rw [hi2]; exact growslice_fits ho hb2
  have h63 : ((elems.length + news.length : Nat) : Int) ≤ 9223372036854775807 := by simp only [maxLen] at hb1; omega
  rcases hs with ⟨rfl, rfl, hp⟩ | ⟨rfl, all, hall, hp⟩
  · -- nil
    have hu := ev_rep st hx
    generalize h1 : act.eval x = u at hu
    cases hu
    have hn0 : 0 < news.length := List.length_pos_iff.2 hnil
    have hr := run_append_grow_src (P := P) w t t' ty e info zv hund hinfo hi3 none 0 0 [] (run_firstCells_none _ _ _ _ _) (act.eval y) news.length news' hsrc' (by simpa using hn0) (by simpa using h63) (by have := hfitting 0 (by simpa using hn0); simpa using this)
    obtain ⟨f1, f2, f3⟩ := fresh [] 0 .nil (by simp) rfl (fun i hi => by simp at hi) (fun k hk => (hp.map _).mem_iff.2 hk) (fun p h => hp.mem_iff.2 h) _ rfl (by have := (s.perm hp).nodup; exact this)
    refine ⟨_, _, _, _, .inl ?_, ⟨w.heap.size, fun h => (own_new s).1 ((hp.map _).mem_iff.2 h), rfl, rfl⟩, f1, f2, f3⟩
    rw [hexec _ h1, hr]
    simp
  · -- a block of the call's own
    have hu := ev_rep st hx
    generalize h1 : act.eval x = u at hu
    have hmemr : (r, Blk.row e ei.size all) ∈ H := hp.mem_iff.2 List.mem_cons_self
    have sp := s.perm hp
    have hnd := List.nodup_cons.1 (show (r :: keys Hr).Nodup from sp.nodup)
    cases hu with
    | os _ _ _ _ cap hrr hcap hmax hroom =>
    obtain ⟨cur, g1, g3, g2, g4, g5⟩ := blkOk_flat (s.ok _ hmemr)
    have hcs := hroom _ _ _ g1
    rw [Nat.zero_add] at hcs
    have hle : elems.length ≤ all.length := by
      have := congrArg List.length hall
      rw [List.length_take] at this; omega
    have helen : ∀ i (hi : i < elems.length), elems[i].length = ei.size := by
      intro i hi
      have : elems[i] = all[i]'(by omega) := by
        have h2 : elems[i]? = (all.take elems.length)[i]? := by rw [← hall]
        rw [List.getElem?_eq_getElem hi, List.getElem?_take, if_pos hi, List.getElem?_eq_getElem (show i < all.length by omega)] at h2
        exact Option.some.inj h2
      rw [this]; exact g3 _ _
    have heflat : elems.flatten = all.flatten.take (elems.length * ei.size) := by
      have := flat_take (sz := ei.size) all elems.length g3
      rw [← hall] at this; exact this
    have hin : elems.length * ei.size ≤ all.length * ei.size := Nat.mul_le_mul_right _ hle
    have holds : RepL w (own fr H) elems.flatten (cur.toList.take (elems.length * ei.size)) := by
      rw [heflat]
      have := g4.take (elems.length * ei.size)
      rw [List.take_take, Nat.min_eq_left hin] at this; exact this
    have hol : (cur.toList.take (elems.length * ei.size)).length = elems.length * ei.size := by simp; omega
    have hlf : allLeaf elems.flatten = true := by
      rw [allLeaf_iff] at g5 ⊢
      intro q hq
      rw [heflat] at hq
      exact g5 q (List.mem_of_mem_take hq)
    have hpk : keys Hr ⊆ keys H := fun k hk => (hp.map _).mem_iff.2 (List.mem_cons_of_mem _ hk)
    have hpm : ∀ p ∈ Hr, p ∈ H := fun p h => hp.mem_iff.2 (List.mem_cons_of_mem _ h)
    simp only [Nat.zero_mul] at h1
    by_cases hroom2 : elems.length + news.length ≤ cap
    · -- room
      have hfit : elems.length * info.size + news'.length ≤ cur.size := by
        rw [hnl1, hi1, ← Nat.add_mul, ← hcs]; exact Nat.mul_le_mul_right _ hroom2
      have hr := run_append_room_srcR (P := P) w t t' ty e info hund hinfo r elems.length cap cur g1 (act.eval y) news.length news' hsrc' hroom2 hfit
      have hsz : ((cur.toList.take (elems.length * info.size) ++ news' ++ cur.toList.drop (elems.length * info.size + news'.length)).toArray).size = cur.size := by
        simp only [List.size_toArray, List.length_append, List.length_take, List.length_drop, Array.length_toList]; omega
      have hat : At ((r, Blk.row e ei.size all) :: Hr) r (.row e ei.size all) (.row e ei.size (elems ++ news)) ((r, .row e ei.size (elems ++ news)) :: Hr) := .here
      have hext := Ext.write (c' := (cur.toList.take (elems.length * info.size) ++ news' ++ cur.toList.drop (elems.length * info.size + news'.length)).toArray) hat g1 hsz
      have hstay := hext.stays (fr := fr)
      have hown := own_perm (fr := fr) hp
      refine ⟨_, .os r ei.size 0 (elems.length + news.length), _, (r, .row e ei.size (elems ++ news)) :: Hr, .inl (by rw [hexec _ h1, hr]; rfl), ⟨r, hnd.1, rfl, rfl⟩, sp.write hat g1 hsz ?_, ?_, hext.perm hp⟩
      · refine blkOk_of_flat (vs := cur.toList.take (elems.length * ei.size) ++ news') (setRow_heap w r cur _ e (0, 0) g1) (fun i hi => ?_) ?_ (by rw [flat_append]; exact allLeaf_append hlf (RepL.flatLeaf hnf)) (fun j u hj => ?_)
        · rw [List.getElem_append]; split
          · exact helen _ _
          · exact hnl _ _
        · rw [flat_append]
          have := holds.append e4
          rw [hown] at this
          exact this.mono hstay
        · rw [List.getElem?_toArray, hi1, List.getElem?_append_left (by exact (List.getElem?_eq_some_iff.1 hj).1)]
          exact hj
      · have := Rep.os (w := w.setRow r (cur.toList.take (elems.length * info.size) ++ news' ++ cur.toList.drop (elems.length * info.size + news'.length)).toArray) (own := own fr ((r, .row e ei.size (elems ++ news)) :: Hr)) r ei.size 0 (elems.length + news.length) cap (by simpa using hrr) hroom2 hmax (fun c' T' f h => by
          rw [setRow_heap w r cur _ e (0, 0) g1] at h
          cases h
          rw [Nat.zero_add, hsz, hcs])
        simpa using this
    · -- it grows
      have hcell : ∀ (j : Nat) (v : Value), (cur.toList.take (elems.length * ei.size))[j]? = some v → w.cell? ((⟨r, 0, none⟩ : Addr).add j) = some v := by
        intro j v hj
        rw [List.getElem?_take] at hj
        split at hj
        · rw [add_plain, Nat.zero_add, cell_of_row w r _ cur e (0, 0) g1, ← Array.getElem?_toList]; exact hj
        · cases hj
      have hr := run_append_grow_src (P := P) w t t' ty e info zv hund hinfo hi3 (some ⟨r, 0, none⟩) elems.length cap (cur.toList.take (elems.length * ei.size)) (run_firstCells_some _ _ _ _ _ _ _ (by rw [hol, hi1]) (by simpa using hcell)) (act.eval y) news.length news' hsrc' (by omega) h63 (hfitting cap (by omega))
      obtain ⟨f1, f2, f3⟩ := fresh _ cap holds hol hlf helen hpk hpm _ rfl hnd.2
      refine ⟨_, _, _, _, .inl ?_, ⟨w.heap.size, fun h => (own_new s).1 (hpk h), rfl, rfl⟩, f1, f2, f3⟩
      rw [hexec _ h1, hr]
      have e9 : (cur.toList.take (elems.length * ei.size) ++ news').toArray = (cur.toList.take (elems.length * ei.size)).toArray ++ news'.toArray := by simp
      rw [e9]; rfl
theorem AppSrc.row {sz t' e : Nat} {y : Operand} {yv : A} {news : List (List A)} {ti : TI} (hL : LayOk P L) (ht : lay L t' = some ti) (he : ti.td = .slice e) (hy : ev T y = some yv) (hy' : RowOf H yv news) (hnl : ∀ i (hi : i < news.length), news[i].length = sz) (hnf : ∀ c ∈ news, allLeaf c = true) : AppSrc P N H T sz t' y news := fun fr w act s st => by
  have hund := td_slice (hL _ _ ht) he
  rcases hy'.lies s (ev_rep st hy) with ⟨hn, h⟩ | ⟨a, cap, sz', vs, h1, h2, h3, h4⟩
  · subst hn
    exact ⟨[], by rw [h]; exact Src.ofNil w hund 0, .nil⟩
  · refine ⟨vs, ?_, h4.rep⟩
    rw [h1]
    refine Src.ofSlice w hund a _ cap vs (by rw [h4.rep.length, flat_len hnl]) h4.at_ fun u hu => ?_
    obtain ⟨j, hj⟩ := List.getElem?_of_mem hu
    have hlt : j < news.flatten.length := by rw [← h4.rep.length]; exact (List.getElem?_eq_some_iff.1 hj).1
    obtain ⟨v, hv, hr⟩ := h4.rep.get j news.flatten[j] (by simp [List.getElem?_eq_getElem hlt])
    rw [hj] at hv; cases hv
    exact hr.one (allLeaf_iff.1 (RepL.flatLeaf hnf) _ (List.getElem_mem hlt))
theorem flat_byteC : ∀ s : List UInt8, (s.map byteC).flatten = s.map fun b => A.int .u8 b.toNat
  | [] => rfl
  | b :: s => by simp only [List.map_cons, List.flatten_cons, flat_byteC s]; rfl
theorem repL_asBytes {w : World} {o : Nat → Prop} : ∀ s : List UInt8, RepL w o (s.map fun b => A.int .u8 b.toNat) (s.map fun b => Value.int .u8 b.toNat)
  | [] => .nil
  | b :: s => .cons (.int _ _ (inR_u8.2 ⟨by omega, by have := b.toNat_lt; omega⟩)) (repL_asBytes s)
theorem AppSrc.str {t' : Nat} {y : Operand} {s : List UInt8} {ti : TI} (hL : LayOk P L) (ht : lay L t' = some ti) (he : ti.td = .string) (hy : ev T y = some (.str s)) : AppSrc P N H T 1 t' y (s.map byteC) := fun fr w act sm st => by
  have hund := td_string (hL _ _ ht) he
  have hu := ev_rep st hy
  generalize h1 : act.eval y = u at hu
  cases hu
  have hb : byteCells ⟨s.toArray⟩ = s.map fun b => Value.int .u8 b.toNat := by simp [byteCells]
  have hf := flat_byteC s
  refine ⟨_, by rw [List.length_map]; exact Src.ofString w hund ⟨s.toArray⟩, ?_⟩
  rw [hb, hf]
  exact repL_asBytes s
theorem AOp.appendNilS {t t' e : Nat} {x y : Operand} {news : List (List A)} {ti ei : TI} {Hr : Heap} (hL : LayOk P L) (hx : ev T x = some .nils) (ht : lay L t = some ti) (he : ti.td = .slice e)
    (hei : lay L e = some ei) (hpos : Nat.ble 1 ei.size = true) (hy' : AppSrc P N H T ei.size t' y news) (hp : H.Perm Hr ∨ ∃ p, H.Perm (p :: Hr)) (hnl : ∀ i (hi : i < news.length), news[i].length = ei.size) (hnf : ∀ c ∈ news, allLeaf c = true) (hne : news ≠ [])
    (hb1 : news.length ≤ maxLen) (hb2 : news.length * ei.bytes ≤ 140737488355328) (hd : dstOk N dst = true)
    (k : ∀ r, r ∉ keys Hr → AOps P N ops rest Q (put dst (.os r ei.size 0 news.length) T) ((r, .row e ei.size news) :: Hr)) :
    AOp P N ops { dst := dst, op := .call { callee := .builtin .append, args := [x, y].toArray, argTypes := [t, t'].toArray }, type := ty, pos := pos, after := after, guard := guard } rest Q T H := by
  have hs := append_semS (dst := dst) (ty := ty) (pos := pos) (after := after) (guard := guard) (N := N) (r := 0) (elems := []) (Hr := H) hL hx ht he hei (Nat.le_of_ble_eq_true hpos) (.inl ⟨rfl, rfl, List.Perm.refl _⟩) hy' hnl hnf (fun _ => hne) (by simpa using hb1) (by simpa using hb2)
  refine AOp.sem hs hd ?_
  rintro v H' ⟨r', h1, rfl, rfl⟩
  simp only [List.length_nil, Nat.zero_add, List.nil_append]
  rcases hp with hr | ⟨p, hr⟩
  · exact AOps.perm (hr.cons _) (k r' (fun h => h1 ((hr.map _).mem_iff.2 h)))
  · refine AOps.perm ((hr.cons _).trans (List.Perm.swap _ _ _)) (AOps.drop (k r' (fun h => h1 ((hr.map _).mem_iff.2 (List.mem_cons_of_mem _ h)))))
theorem AOp.appendS {t t' e : Nat} {x y : Operand} {r n : Nat} {all news : List (List A)} {ti ei : TI} {H1 Hr : Heap} (hL : LayOk P L) (hx : ev T x = some (.os r ei.size 0 n)) (ht : lay L t = some ti) (he : ti.td = .slice e)
    (hei : lay L e = some ei) (hpos : Nat.ble 1 ei.size = true) (hp : H.Perm ((r, .row e ei.size all) :: H1)) (hn : n ≤ all.length) (hy' : AppSrc P N H T ei.size t' y news) (hr : H1.Perm Hr ∨ ∃ p, H1.Perm (p :: Hr))
    (hnl : ∀ i (hi : i < news.length), news[i].length = ei.size) (hnf : ∀ c ∈ news, allLeaf c = true)
    (hb1 : n + news.length ≤ maxLen) (hb2 : (n + news.length) * ei.bytes ≤ 140737488355328) (hd : dstOk N dst = true)
    (k : ∀ r', r' ∉ keys Hr → AOps P N ops rest Q (put dst (.os r' ei.size 0 (n + news.length)) T) ((r', .row e ei.size (all.take n ++ news)) :: Hr)) :
    AOp P N ops { dst := dst, op := .call { callee := .builtin .append, args := [x, y].toArray, argTypes := [t, t'].toArray }, type := ty, pos := pos, after := after, guard := guard } rest Q T H := by
  have hlen : (all.take n).length = n := by simp; omega
  have hs := append_semS (dst := dst) (ty := ty) (pos := pos) (after := after) (guard := guard) (N := N) (r := r) (elems := all.take n) (Hr := H1) hL hx ht he hei (Nat.le_of_ble_eq_true hpos)
    (.inr ⟨by rw [hlen], all, by rw [hlen], hp⟩) hy' hnl hnf (fun h => by cases h) (by rw [hlen]; exact hb1) (by rw [hlen]; exact hb2)
  refine AOp.sem hs hd ?_
  rintro v H' ⟨r', h1, rfl, rfl⟩
  rw [hlen]
  rcases hr with hr | ⟨p, hr⟩
  · exact AOps.perm (hr.cons _) (k r' (fun h => h1 ((hr.map _).mem_iff.2 h)))
  · refine AOps.perm ((hr.cons _).trans (List.Perm.swap _ _ _)) (AOps.drop (k r' (fun h => h1 ((hr.map _).mem_iff.2 (List.mem_cons_of_mem _ h)))))
theorem AOp.appendEmptyS {t t' e : TypeId} {x y : Operand} {ti ei : TI} (hL : LayOk P L) (hx : ev T x = some .nils) (hy' : AppSrc P N H T ei.size t' y []) (ht : lay L t = some ti) (he : ti.td = .slice e) (hei : lay L e = some ei) (hd : dstOk N dst = true)
    (kk : AOps P N ops rest Q (put dst .nils T) H) :
    AOp P N ops { dst := dst, op := .call { callee := .builtin .append, args := [x, y].toArray, argTypes := [t, t'].toArray }, type := ty, pos := pos, after := after, guard := guard } rest Q T H :=
  AOp.pure (fun fr w act s st => by
    obtain ⟨info, zv, hinfo, hi1, _⟩ := (hL _ _ hei).info
    have hund := td_slice (hL _ _ ht) he
    have hu := ev_rep st hx
    generalize h1 : act.eval x = u at hu
    cases hu
    obtain ⟨news', hs, e4⟩ := hy' fr w act s st
    have e4' : news' = [] := by cases e4; rfl
    subst e4'
    refine ⟨.slice none 0 0, ?_, .nils⟩
    have h2 : (Builtin.append_ #[t, t'] ty #[.slice none 0 0, act.eval y]).run P w = .ok (.slice none 0 0) w := by
      rcases hs.kind with ⟨e', hk⟩ | hk <;> simp [Builtin.append_, run_underlying hund, run_underlying hk, sizeOf, typeInfo, hinfo, hi1, hs.len, show (Builtin.firstCells ei.size 0 (act.eval y)).run P w = .ok #[] w from hs.cells]
    simp only [execOp, resolve, invoke, builtin, Sem.run_bind, Sem.run_pure, Result.andThen_ok, List.map_toArray, List.map_cons, List.map_nil, h1, h2]) hd kk
theorem AOp.appendGS {t t' e : TypeId} {x y : Operand} {g : Option Nat} {elems news : List (List A)} {pre : Heap} {ti ei : TI} (hL : LayOk P L) (hx : ev T x = some (outV ei.size g elems.length)) (hg : g = none → elems = []) (hH : H = pre ++ outH e ei.size g elems) (hy' : AppSrc P N H T ei.size t' y news)
    (ht : lay L t = some ti) (he : ti.td = .slice e) (hei : lay L e = some ei) (hpos : Nat.ble 1 ei.size = true) (hnl : ∀ c ∈ news, c.length = ei.size) (hnf : ∀ c ∈ news, allLeaf c = true)
    (hb1 : elems.length + news.length ≤ maxLen) (hb2 : (elems.length + news.length) * ei.bytes ≤ 140737488355328) (hd : dstOk N dst = true)
    (k : ∀ g', (g' = none → elems ++ news = []) → AOps P N ops rest Q (put dst (outV ei.size g' (elems ++ news).length) T) (pre ++ outH e ei.size g' (elems ++ news))) :
    AOp P N ops { dst := dst, op := .call { callee := .builtin .append, args := [x, y].toArray, argTypes := [t, t'].toArray }, type := ty, pos := pos, after := after, guard := guard } rest Q T H := by
  subst hH
  have hnl' : ∀ i (hi : i < news.length), news[i].length = ei.size := fun i hi => hnl _ (List.getElem_mem hi)
  cases g with
  | none =>
    have := hg rfl
    subst this
    simp only [outV] at hx
    by_cases hne : news = []
    · subst hne
      refine AOp.appendEmptyS hL hx hy' ht he hei hd ?_
      have := k none (fun _ => rfl)
      simpa only [outV, outH] using this
    · have hp : (pre ++ outH e ei.size none []).Perm pre := by simp [outH]
      refine AOp.appendNilS hL hx ht he hei hpos hy' (.inl hp) hnl' hnf hne (by simpa using hb1) (by simpa using hb2) hd fun r hr => ?_
      have := k (some r) (fun h => by cases h)
      simp only [outV, outH, List.nil_append] at this
      exact AOps.perm (List.perm_append_comm (l₁ := [_])) this
  | some r =>
    simp only [outV] at hx
    simp only [outH] at *
    refine AOp.appendS hL hx ht he hei hpos (List.perm_append_comm (l₂ := [_])) (Nat.le_refl _) hy' (.inl (List.Perm.refl _)) hnl' hnf hb1 hb2 hd fun r' hr' => ?_
    have := k (some r') (fun h => by cases h)
    simp only [outV, List.length_append] at this
    rw [List.take_length]
    exact AOps.perm (List.perm_append_comm (l₁ := [_])) this
end
end Go.Abs

namespace Go.Abs
open Go
set_option linter.unusedVariables false
set_option linter.unusedSimpArgs false
/-! More operations for the evaluator. -/
def sliceE (L : Lay) (t : TypeId) : Option (TypeId × TI) := match lay L t with
  | some ⟨.slice e, _, _, _⟩ => match lay L e with
    | some ei => some (e, ei)
    | none => none
  | _ => none
def eqTC (P : Program) (t : TypeId) : Bool := match P.underlying t with
  | some (.struct fs) => (!P.stoodInHeld t) && (!P.eqGuardType P.depth t) && fs.toList.all fun f => !(f.name == "_")
  | _ => false
def eqGC (P : Program) (t : TypeId) : Bool := !P.eqGuardType P.depth t
theorem eqGC_ok {P : Program} {t : TypeId} (h : eqGC P t = true) : EqG P t := by
  unfold eqGC at h; simpa [EqG] using h
theorem eqTC_ok {P : Program} {t : TypeId} (h : eqTC P t = true) : EqT P t := by
  unfold eqTC at h
  split at h
  · rename_i fs hu
    simp only [Bool.and_eq_true, Bool.not_eq_true', List.all_eq_true] at h
    have hf : P.fieldsOf t = fs := by simp [Program.fieldsOf, hu]
    exact ⟨by rw [hf]; exact hu, h.1.1, h.1.2, fun f hm => by rw [hf] at hm; simpa using h.2 f hm⟩
  · cases h
/-- Two records, or two arrays, held against each other. -/
def eqAggC (P : Program) (L : Lay) (xt : TypeId) (xs ys : List A) : Option Bool := match lay L xt with
  | some ⟨.struct fs, _, _, _⟩ => match eqTC P xt with
    | true => eqFieldsA L fs xs ys
    | false => none
  | some ⟨.array n e, _, _, _⟩ => match lay L e with
    | some ei => match eqGC P xt with
      | true => eqFieldsA L (arrFs n e ei.size) xs ys
      | false => none
    | none => none
  | _ => none
def appStr (H : Tre Blk) (xv : A) (s : List UInt8) (e : Nat) (ei : TI) : Option Eff := match Nat.beq ei.size 1 with
  | true => match xv with
    | .nils => match s with
      | [] => some (.pure .nils)
      | _ :: _ => match Nat.ble s.length 16777216, Nat.ble (s.length * ei.bytes) 140737488355328 with
        | true, true => some (.new (.os ei.size s.length) (.row e ei.size (s.map byteC)))
        | _, _ => none
    | .os r sz 0 n => match H.get r with
      | some (.row Te sz' all) => match Nat.beq Te e, Nat.beq sz ei.size, Nat.beq sz' ei.size, Nat.ble n all.length, Nat.ble (n + s.length) 16777216, Nat.ble ((n + s.length) * ei.bytes) 140737488355328 with
        | true, true, true, true, true, true => some (.swap (.os ei.size (n + s.length)) r (.row e ei.size (all.take n ++ s.map byteC)))
        | _, _, _, _, _, _ => none
      | _ => none
    | _ => none
  | false => none
theorem bytes_ok {sz : Nat} (h : sz = 1) (s : List UInt8) : (∀ i (hi : i < (s.map byteC).length), (s.map byteC)[i].length = sz) ∧ ∀ c ∈ s.map byteC, allLeaf c = true := by
  subst h
  refine ⟨fun i hi => by simp [byteC], fun c hc => ?_⟩
  obtain ⟨b, _, rfl⟩ := List.mem_map.1 hc
  rfl
theorem appStr_ok {P : Program} {N : NN} {L : Lay} (hL : LayOk P L) {ρ : Nat → Nat} {n : Nat} {lo : Nat → Bool} {fz : Nat → Prop} {T' : Env} {H : Tre Blk} {H' : Heap} (hG : Good ρ n lo fz H H') {dst : Option Nat} {x y : Operand} {t t' e : Nat} {ti tj ei : TI} {ty : TypeId} {pos : String} {after : Array Edge} {guard : Option (Nat × Bool)} (hd : dstOk N dst = true)
    {xv : A} {s : List UInt8} (hx : ev T' x = some (ren ρ xv)) (hy : ev T' y = some (.str s)) (ht : lay L t = some ti) (he : ti.td = .slice e) (hei : lay L e = some ei) (ht' : lay L t' = some tj) (hj : tj.td = .string) {ef : Eff} (h : appStr H xv s e ei = some ef) :
    EffOk P N ρ H { dst := dst, op := .call { callee := .builtin .append, args := ⟨[x, y]⟩, argTypes := ⟨[t, t']⟩ }, type := ty, pos := pos, after := after, guard := guard } T' H' ef := by
  unfold appStr at h
  split at h
  · rename_i hsz
    have hsz := Nat.eq_of_beq_eq_true hsz
    obtain ⟨b1, b2⟩ := bytes_ok hsz s
    have hsrc : AppSrc P N H' T' ei.size t' y (s.map byteC) := by rw [hsz]; exact AppSrc.str hL ht' hj hy
    split at h
    · simp only [ren] at hx
      split at h
      · cases h
        intro ops rest Q k
        exact AOp.appendEmptyS hL hx hsrc ht he hei hd k
      · split at h
        · rename_i h4 h5
          cases h
          intro ops rest Q k
          refine AOp.appendNilS hL hx ht he hei (by rw [hsz]; rfl) hsrc (.inl (List.Perm.refl _)) b1 b2 (by simp) (by have := Nat.le_of_ble_eq_true h4; rw [List.length_map]; unfold maxLen; omega) (by rw [List.length_map]; exact Nat.le_of_ble_eq_true h5) hd fun r hr => ?_
          have := k r hr
          simp only [renB, ren_bytes] at this
          rw [List.length_map]
          exact this
        · cases h
    · simp only [ren] at hx
      split at h
      · rename_i hr
        split at h
        · rename_i h1 h2 h2' h3 h6 h7
          cases h
          have h1 := Nat.eq_of_beq_eq_true h1
          have h2 := Nat.eq_of_beq_eq_true h2
          have h2' := Nat.eq_of_beq_eq_true h2'
          subst h1 h2 h2'
          have hm := (hG.mem _ _ hr).2.2
          obtain ⟨Hr, hp⟩ := mem_perm hm
          refine ⟨_, Hr, hr, hp, fun ops rest Q k => ?_⟩
          refine AOp.appendS hL hx ht he hei (by rw [hsz]; rfl) hp (by rw [renLL_len]; exact Nat.le_of_ble_eq_true h3) hsrc (.inl (List.Perm.refl _)) b1 b2 (by have := Nat.le_of_ble_eq_true h6; rw [List.length_map]; unfold maxLen; omega) (by rw [List.length_map]; exact Nat.le_of_ble_eq_true h7) hd fun r hr => ?_
          have := k r hr
          simp only [renB, renLL_append, ← renLL_take, ren_bytes] at this
          rw [List.length_map]
          exact this
        · cases h
      · cases h
    · cases h
  · cases h
def eEff0 (P : Program) (L : Lay) (T : Tre A) (H : Tre Blk) : Op → Option Eff
  | .call { callee := .builtin .cap, args := ⟨[x]⟩, argTypes := ⟨[t]⟩ } => match evC T x, sliceE L t with
    | some .nils, some _ => some (.pure (.int .i64 0))
    | _, _ => none
  | .call { callee := .builtin .len, args := ⟨[x]⟩, argTypes := ⟨[t]⟩ } => match evC T x, lay L t with
    | some (.map r), some ⟨.map _ _, _, _, _⟩ => match H.get r with
      | some (.map es) => match Nat.ble es.length 1000000 with
        | true => some (.pure (.int .i64 es.length))
        | false => none
      | _ => none
    | _, _ => none
  | .slice t x lo hi none => match evC T x, sliceE L t with
    | some .nils, some _ => match bndC T 0 lo, bndC T 0 hi with
      | some 0, some 0 => some (.pure .nils)
      | _, _ => none
    | some (.os _ _ _ len), some _ => match bndC T 0 lo, bndC T len hi with
      | some l, some h => match decide (l = (len : Int)), decide (h = (len : Int)) with
        | true, true => some (.pure (.ds []))
        | _, _ => none
      | _, _ => none
    | _, _ => none
  | .call { callee := .builtin .append, args := ⟨[x, y]⟩, argTypes := ⟨[t, t']⟩ } => match Nat.beq t t' with
    | true => match evC T x, evC T y, sliceE L t with
      | some .nils, some .nils, some _ => some (.pure .nils)
      | some .nils, some (.os _ _ _ 0), some _ => some (.pure .nils)
      | some (.os r sz off len), some .nils, some _ => some (.pure (.os r sz off len))
      | _, _, _ => none
    | false => match evC T x, evC T y, sliceE L t, lay L t' with
      | some .nils, some (.int _ n), some (e, ei), some ⟨.int _, _, _, _⟩ => match decide (0 < n), scopeL 0 ei.zero, Nat.ble 1 ei.size, Nat.beq ei.zero.length ei.size, allLeaf ei.zero, Nat.ble (n.toNat * ei.bytes) 281474976710656, Nat.ble n.toNat 16777216 with
        | true, true, true, true, true, true, true => some (.new (.os ei.size n.toNat) (.row e ei.size (List.replicate n.toNat ei.zero)))
        | _, _, _, _, _, _, _ => none
      | some xv, some (.str s), some (e, ei), some ⟨.string, _, _, _⟩ => appStr H xv s e ei
      | _, _, _, _ => none
  | .convert src dt x => match Nat.beq src dt with
    | true => match evC T x, sliceE L src with
      | some (.os r 1 0 n), some (e, ⟨.int .u8, _, _, _⟩) => match H.get r with
        | some (.row Te 1 elems) => match Nat.beq Te e, Nat.beq n elems.length with
          | true, true => some (.free (.ds elems) r)
          | _, _ => none
        | _ => none
      | _, _ => none
    | false => none
  | .binOp op xt x y _ => match evC T x, evC T y with
    | some (.agg xs), some (.agg ys) => match eqAggC P L xt xs ys with
      | some b => match op with
        | .eql => some (.pure (.bool b))
        | .neq => some (.pure (.bool !b))
        | _ => none
      | none => none
    | _, _ => none
  | _ => none
theorem AOp.eqAgg {P : Program} {N : NN} {L : Lay} {Q : Exit → Env → Heap → Prop} {T : Env} {H : Heap} {ops rest : List Oper} {dst : Option Nat} {ty : TypeId} {pos : String} {after : Array Edge} {guard : Option (Nat × Bool)} {op : BinOp} {xt yt : TypeId} {x y : Operand} {ρ : Nat → Nat} {xs ys : List A} {r : A} {b : Bool} (hL : LayOk P L) (hx : ev T x = some (.agg (renL ρ xs))) (hy : ev T y = some (.agg (renL ρ ys)))
    (hb : eqAggC P L xt xs ys = some b) (h : (match op with | .eql => some (A.bool b) | .neq => some (A.bool !b) | _ => none) = some r) (hd : dstOk N dst = true) (kk : AOps P N ops rest Q (put dst r T) H) :
    AOp P N ops { dst := dst, op := .binOp op xt x y yt, type := ty, pos := pos, after := after, guard := guard } rest Q T H := by
  unfold eqAggC at hb
  split at hb
  · rename_i ht
    split at hb
    · rename_i hq
      exact AOp.eqStruct hL (eqTC_ok hq) hx hy ht rfl (ren_eqFieldsA ρ L _ _ _ _ hb) h hd kk
    · cases hb
  · rename_i ht
    split at hb
    · rename_i hei
      split at hb
      · rename_i hq
        exact AOp.eqArray hL (eqGC_ok hq) hx hy ht rfl hei (ren_eqFieldsA ρ L _ _ _ _ hb) h hd kk
      · cases hb
    · cases hb
  · cases hb
theorem sliceE_ok {L : Lay} {t e : TypeId} {ei : TI} (h : sliceE L t = some (e, ei)) : ∃ ti, lay L t = some ti ∧ ti.td = .slice e ∧ lay L e = some ei := by
  unfold sliceE at h
  split at h
  · rename_i ht
    split at h
    · rename_i hei
      cases h
      exact ⟨_, ht, rfl, hei⟩
    · cases h
  · cases h
theorem eEff0_ok {P : Program} {N : NN} {L : Lay} (hL : LayOk P L) {ρ : Nat → Nat} {n : Nat} {lo : Nat → Bool} {fz : Nat → Prop} {T : Tre A} {T' : Env} {H : Tre Blk} {H' : Heap} (hT : EnvR ρ T T') (hG : Good ρ n lo fz H H') {o : Oper} (hd : dstOk N o.dst = true)
    {e : Eff} (h : eEff0 P L T H o.op = some e) : EffOk P N ρ H o T' H' e := by
  obtain ⟨dst, op, ty, pos, after, guard⟩ := o
  simp only at h hd
  unfold eEff0 at h
  split at h
  · split at h
    · rename_i e' hx hs
      obtain ⟨e1, ei⟩ := e'
      obtain ⟨ti, h1, h2, h3⟩ := sliceE_ok hs
      have hx := hT.ev hx
      simp only [ren] at hx
      cases h
      intro ops rest Q k
      simp only [ren] at k
      exact AOp.capNil hL hx h1 h2 hd k
    · cases h
  · split at h
    · rename_i hx ht
      split at h
      · rename_i es hg
        split at h
        · rename_i hb
          have hb := Nat.le_of_ble_eq_true hb
          have hx := hT.ev hx
          simp only [ren] at hx
          obtain ⟨_, _, hm⟩ := hG.mem _ _ hg
          simp only [renB] at hm
          cases h
          intro ops rest Q k
          simp only [ren] at k
          have hl : (es.map fun p => (ren ρ p.1, ren ρ p.2)).length = es.length := List.length_map _
          refine AOp.lenMap hL hx hm ht rfl (by rw [hl]; exact hb) hd ?_
          rw [hl]; exact k
        · cases h
      · cases h
    · cases h
  · split at h
    · rename_i e' hx hs
      obtain ⟨e1, ei⟩ := e'
      obtain ⟨ti, h1, h2, h3⟩ := sliceE_ok hs
      have hx := hT.ev hx
      simp only [ren] at hx
      split at h
      · rename_i hl hh
        cases h
        intro ops rest Q k
        simp only [ren] at k
        exact AOp.sliceNil hL hx (hT.bnd hl) (hT.bnd hh) h1 h2 h3 hd k
      · cases h
    · rename_i e' hx hs
      obtain ⟨e1, ei⟩ := e'
      obtain ⟨ti, h1, h2, h3⟩ := sliceE_ok hs
      have hx := hT.ev hx
      simp only [ren] at hx
      split at h
      · rename_i hl hh
        split at h
        · rename_i k1 k2
          have k1 := of_decide_eq_true k1
          have k2 := of_decide_eq_true k2
          subst k1; subst k2
          cases h
          intro ops rest Q k
          simp only [ren, renLL] at k
          exact AOp.sliceEnd hL hx (hT.bnd hl) (hT.bnd hh) h1 h2 h3 hd k
        · cases h
      · cases h
    · cases h
  · split at h
    · rename_i htt
      have htt := Nat.eq_of_beq_eq_true htt
      subst htt
      split at h
      · rename_i e' hx hy hs
        obtain ⟨e1, ei⟩ := e'
        obtain ⟨ti, h1, h2, h3⟩ := sliceE_ok hs
        have hx := hT.ev hx
        have hy := hT.ev hy
        simp only [ren] at hx hy
        cases h
        intro ops rest Q k
        simp only [ren] at k
        exact AOp.appendNone hL hx (.inl rfl) hy h1 h2 h3 hd k
      · rename_i e' hx hy hs
        obtain ⟨e1, ei⟩ := e'
        obtain ⟨ti, h1, h2, h3⟩ := sliceE_ok hs
        have hx := hT.ev hx
        have hy := hT.ev hy
        simp only [ren] at hx hy
        cases h
        intro ops rest Q k
        simp only [ren] at k
        exact AOp.appendNils hL hx hy h1 h2 h3 hd k
      · rename_i e' hx hy hs
        obtain ⟨e1, ei⟩ := e'
        obtain ⟨ti, h1, h2, h3⟩ := sliceE_ok hs
        have hx := hT.ev hx
        have hy := hT.ev hy
        simp only [ren] at hx hy
        cases h
        intro ops rest Q k
        simp only [ren] at k
        exact AOp.appendNone hL hx (.inr ⟨_, _, _, _, rfl⟩) hy h1 h2 h3 hd k
      · cases h
    · split at h
      · rename_i hx hy hs htn
        obtain ⟨ti, h1, h2, h3⟩ := sliceE_ok hs
        have hx := hT.ev hx
        have hy := hT.ev hy
        simp only [ren] at hx hy
        split at h
        · rename_i k1 k2 k3 k4 k5 k6 k7
          cases h
          have k1 := of_decide_eq_true k1
          obtain ⟨m, rfl⟩ := Int.eq_ofNat_of_zero_le (Int.le_of_lt k1)
          simp only [Int.toNat_natCast] at *
          intro ops rest Q k
          refine AOp.appendZeros hL hx hy h1 h2 htn rfl h3 k3 k4 k5 (by omega) (Nat.le_of_ble_eq_true k6) (by have := Nat.le_of_ble_eq_true k7; unfold maxLen; omega) hd fun r hr => ?_
          have := k r hr
          simp only [renB, ren_repl k2] at this
          exact this
        · cases h
      · rename_i hx hy hs htn
        obtain ⟨ti, h1, h2, h3⟩ := sliceE_ok hs
        have hx := hT.ev hx
        have hy := hT.ev hy
        simp only [ren] at hy
        exact appStr_ok hL hG hd hx hy h1 h2 h3 htn rfl h
      · cases h
  · split at h
    · rename_i hst
      have hst := Nat.eq_of_beq_eq_true hst
      subst hst
      split at h
      · rename_i hx hs
        obtain ⟨ti, h1, h2, h3⟩ := sliceE_ok hs
        have hx := hT.ev hx
        simp only [ren] at hx
        split at h
        · rename_i elems hr
          split at h
          · rename_i k1 k2
            cases h
            have k1 := Nat.eq_of_beq_eq_true k1
            have k2 := Nat.eq_of_beq_eq_true k2
            subst k1 k2
            have hm := (hG.mem _ _ hr).2.2
            obtain ⟨Hr, hp⟩ := mem_perm hm
            refine ⟨_, Hr, hr, hp, fun ops rest Q k => ?_⟩
            simp only [renB] at hp
            simp only [ren] at k
            exact AOp.litBytesP hL (by rw [renLL_len]; exact hx) hp h1 h2 h3 rfl hd k
          · cases h
        · cases h
      · cases h
    · cases h
  · split at h
    · rename_i hx hy
      have hx := hT.ev hx
      have hy := hT.ev hy
      simp only [ren] at hx hy
      split at h
      · rename_i b hb
        split at h
        · cases h
          intro ops rest Q k
          simp only [ren] at k
          exact AOp.eqAgg hL hx hy hb rfl hd k
        · cases h
          intro ops rest Q k
          simp only [ren] at k
          exact AOp.eqAgg hL hx hy hb rfl hd k
        · cases h
      · cases h
    · cases h
  · cases h
end Go.Abs

namespace Go.Abs
open Go
set_option linter.unusedVariables false
set_option linter.unusedSimpArgs false
/-! Maps whose keys are structs or arrays of numbers. -/
def intsV : List A → Option (List Value)
  | [] => some []
  | .int k a :: xs => match intsV xs with
    | some l => some (.int k a :: l)
    | none => none
  | _ => none
theorem intsV_rep {w : World} {o : Nat → Prop} : ∀ {xs : List A} {us vs : List Value}, RepL w o xs vs → intsV xs = some us → vs = us
  | [], us, vs, h, e => by cases h; simp only [intsV] at e; cases e; rfl
  | x :: xs, us, vs, h, e => by
    unfold intsV at e
    split at e
    · cases ‹_ :: _ = []›
    · rename_i k a xs' heq
      cases heq
      split at e
      · rename_i l hl
        cases e
        cases h with
        | cons h1 h2 =>
          cases h1
          rw [intsV_rep h2 hl]
      · cases e
    · cases e
theorem ren_ints {ρ : Nat → Nat} : ∀ {xs : List A} {us : List Value}, intsV xs = some us → renL ρ xs = xs
  | [], us, e => rfl
  | x :: xs, us, e => by
    unfold intsV at e
    split at e
    · cases ‹_ :: _ = []›
    · rename_i k a xs' heq
      cases heq
      split at e
      · rename_i l hl
        simp only [renL, ren, ren_ints hl]
      · cases e
    · cases e
def ieq : List A → List A → Bool
  | [], [] => true
  | .int k a :: xs, .int k' b :: ys => and (decide (k = k')) (and (a == b) (ieq xs ys))
  | _, _ => false
theorem ieq_true : ∀ {xs ys : List A}, ieq xs ys = true → xs = ys
  | [], [], _ => rfl
  | .int k a :: xs, .int k' b :: ys, h => by
    simp only [ieq, Bool.and_eq_true, decide_eq_true_eq, beq_iff_eq] at h
    rw [h.1, h.2.1, ieq_true h.2.2]
  | [], _ :: _, h => by simp [ieq] at h
  | x :: xs, [], h => by cases x <;> simp [ieq] at h
  | .int k a :: xs, .bool _ :: _, h | .int k a :: xs, .str _ :: _, h | .int k a :: xs, .nilp :: _, h | .int k a :: xs, .ptr .. :: _, h | .int k a :: xs, .dp _ :: _, h | .int k a :: xs, .nils :: _, h
  | .int k a :: xs, .ds _ :: _, h | .int k a :: xs, .os .. :: _, h | .int k a :: xs, .nilm :: _, h | .int k a :: xs, .map _ :: _, h | .int k a :: xs, .nilf :: _, h | .int k a :: xs, .fn .. :: _, h
  | .int k a :: xs, .nili :: _, h | .int k a :: xs, .iface .. :: _, h | .int k a :: xs, .agg _ :: _, h | .int k a :: xs, .tup _ :: _, h => by simp [ieq] at h
  | .bool _ :: _, _ :: _, h | .str _ :: _, _ :: _, h | .nilp :: _, _ :: _, h | .ptr .. :: _, _ :: _, h | .dp _ :: _, _ :: _, h | .nils :: _, _ :: _, h
  | .ds _ :: _, _ :: _, h | .os .. :: _, _ :: _, h | .nilm :: _, _ :: _, h | .map _ :: _, _ :: _, h | .nilf :: _, _ :: _, h | .fn .. :: _, _ :: _, h
  | .nili :: _, _ :: _, h | .iface .. :: _, _ :: _, h | .agg _ :: _, _ :: _, h | .tup _ :: _, _ :: _, h => by simp [ieq] at h
theorem ieq_false : ∀ {xs ys : List A} {us : List Value}, ieq xs ys = false → intsV xs = some us → intsV ys ≠ some us
  | [], [], us, h, _ => by simp [ieq] at h
  | [], y :: ys, us, h, e => by
    simp only [intsV] at e; cases e
    intro e2
    unfold intsV at e2
    split at e2
    · cases ‹_ :: _ = []›
    · split at e2 <;> cases e2
    · cases e2
  | x :: xs, ys, us, h, e => by
    unfold intsV at e
    split at e
    · cases ‹_ :: _ = []›
    · rename_i k a xs' heq
      cases heq
      split at e
      · rename_i l hl
        cases e
        intro e2
        unfold intsV at e2
        split at e2
        · cases e2
        · rename_i k' b ys'
          split at e2
          · rename_i l' hl'
            simp only [Option.some.injEq, List.cons.injEq, Value.int.injEq] at e2
            obtain ⟨⟨rfl, rfl⟩, rfl⟩ := e2
            simp only [ieq, decide_true, beq_self_eq_true, Bool.true_and] at h
            exact ieq_false h hl hl'
          · cases e2
        · cases e2
      · cases e
    · cases e
def keyW (P : Program) (kt : TypeId) : A → Bool
  | .agg xs => match intsV xs with
    | some us => (keyOf P kt (.agg us.toArray)).isSome
    | none => false
  | _ => false
def ktW (P : Program) (kt : TypeId) : Bool := and (P.keyTypeAt 3 kt) (and (P.tiled 3 kt) (match P.underlying kt with | some (.array _ _) | some (.struct _) => true | _ => false))
theorem ktW_ok {P : Program} {kt : TypeId} (h : ktW P kt = true) : WideMaps.KeyLaw P kt := by
  simp only [ktW, Bool.and_eq_true] at h
  exact deep_law (m := 3) (by omega) h.1 h.2.1 h.2.2
theorem keyW_ok {P : Program} {kt : TypeId} {x : A} (h : keyW P kt x = true) : ∃ xs us l, x = .agg xs ∧ intsV xs = some us ∧ keyOf P kt (.agg us.toArray) = some l := by
  unfold keyW at h
  split at h
  · split at h
    · rename_i xs us hu
      obtain ⟨l, hl⟩ := Option.isSome_iff_exists.1 h
      exact ⟨_, _, _, rfl, hu, hl⟩
    · cases h
  · cases h
theorem keyW_val {P : Program} {kt : TypeId} {w : World} {o : Nat → Prop} {xs : List A} {us : List Value} {u : Value} (h : intsV xs = some us) (hr : Rep w o (.agg xs) u) : u = .agg us.toArray := by
  obtain ⟨cs, rfl, hl⟩ := hr.agg_inv
  have := intsV_rep hl h
  rw [← this]
def noneW (x : List A) : List (A × A) → Bool
  | [] => true
  | (.agg ys, _) :: es => and (!ieq x ys) (noneW x es)
  | _ => false
def findW (x : List A) : List (A × A) → Option (Option (Nat × A))
  | [] => some none
  | (.agg ys, v) :: es => match ieq x ys with
    | true => match noneW x es with
      | true => some (some (0, v))
      | false => none
    | false => match findW x es with
      | some (some (i, u)) => some (some (i + 1, u))
      | some none => some none
      | none => none
  | _ => none
theorem noneW_ok {x : List A} : ∀ {es : List (A × A)}, noneW x es = true → ∀ (j : Nat) (e : A × A), es[j]? = some e → ∀ ys, e.1 = .agg ys → ieq x ys = false
  | [], _, j, e, h, _, _ => by simp at h
  | (k, v) :: es, hn, j, e, h, ys, hy => by
    unfold noneW at hn
    split at hn
    · rename_i heq; cases heq
    · rename_i zs u es' heq
      cases heq
      simp only [Bool.and_eq_true, Bool.not_eq_true'] at hn
      cases j with
      | zero => simp at h; subst h; cases hy; exact hn.1
      | succ j => exact noneW_ok hn.2 j e (by simpa using h) ys hy
    · cases hn
theorem findW_spec {x : List A} : ∀ {es : List (A × A)} {r : Option (Nat × A)}, findW x es = some r →
    match r with
    | none => ∀ (j : Nat) (e : A × A), es[j]? = some e → ∀ ys, e.1 = .agg ys → ieq x ys = false
    | some (i, v) => (∃ ys, es[i]? = some (.agg ys, v) ∧ ieq x ys = true) ∧ ∀ (j : Nat) (e : A × A), j ≠ i → es[j]? = some e → ∀ ys, e.1 = .agg ys → ieq x ys = false
  | [], r, h => by simp only [findW] at h; cases h; intro j e h; simp at h
  | (k, v) :: es, r, h => by
    unfold findW at h
    split at h
    · rename_i heq; cases heq
    · rename_i zs u es' heq
      cases heq
      split at h
      · rename_i hz
        split at h
        · rename_i hn
          cases h
          refine ⟨⟨zs, rfl, hz⟩, fun j e hj he ys hy => ?_⟩
          cases j with
          | zero => exact absurd rfl hj
          | succ j => exact noneW_ok hn j e (by simpa using he) ys hy
        · cases h
      · rename_i hz
        split at h
        · rename_i i q hq
          cases h
          have := findW_spec hq
          simp only at this
          obtain ⟨⟨ys, h1, h2⟩, h3⟩ := this
          refine ⟨⟨ys, by simpa using h1, h2⟩, fun j e hj he ys hy => ?_⟩
          cases j with
          | zero => simp at he; subst he; cases hy; exact hz
          | succ j => exact h3 j e (by omega) (by simpa using he) ys hy
        · rename_i hq
          cases h
          have := findW_spec hq
          simp only at this ⊢
          intro j e he ys hy
          cases j with
          | zero => simp at he; subst he; cases hy; exact hz
          | succ j => exact this j e (by simpa using he) ys hy
        · cases h
    · cases h
theorem findW_ok {P : Program} {kt : TypeId} (K : WideMaps.KeyLaw P kt) {w : World} {o : Nat → Prop} {x : List A} {us : List Value} {l : Lit} (hx : intsV x = some us) (hl : keyOf P kt (.agg us.toArray) = some l) {es : List (A × A)} {ms : List MapEntry} (hlen : ms.length = es.length)
    (hes : ∀ j (hj : j < es.length), ∃ m, ms[j]? = some m ∧ Rep w o es[j].1 m.key ∧ Rep w o es[j].2 m.val) (hk : (es.all fun e => keyW P kt e.1) = true) {r : Option (Nat × A)} (h : findW x es = some r) :
    (r = none ∧ (Instr.findKey kt (.agg us.toArray) ms).run P w = .ok none w) ∨ ∃ j v v', r = some (j, v) ∧ j < es.length ∧ (Instr.findKey kt (.agg us.toArray) ms).run P w = .ok (some (j, v')) w ∧ Rep w o v v' ∧ ∃ m, ms[j]? = some m ∧ m.key = .agg us.toArray := by
  have ent : ∀ (j : Nat) (m : MapEntry), ms[j]? = some m → ∃ (hj : j < es.length) (ys : List A) (ws : List Value), es[j].1 = .agg ys ∧ intsV ys = some ws ∧ m.key = .agg ws.toArray ∧ (∃ l, keyOf P kt m.key = some l) ∧ Rep w o es[j].2 m.val := by
    intro j m hm
    have hj : j < es.length := by have := (List.getElem?_eq_some_iff.1 hm).1; omega
    obtain ⟨m', h1, h2, h3⟩ := hes j hj
    rw [hm] at h1; cases h1
    obtain ⟨ys, ws, l, e1, e2, e3⟩ := keyW_ok (List.all_eq_true.1 hk _ (List.getElem_mem hj))
    rw [e1] at h2
    have hv := keyW_val (P := P) (kt := kt) e2 h2
    exact ⟨hj, ys, ws, e1, e2, hv, ⟨l, by rw [hv]; exact e3⟩, h3⟩
  have hall : ∀ e ∈ ms, ∃ l, keyOf P kt e.key = some l := fun e he => by
    obtain ⟨j, hj, rfl⟩ := List.getElem_of_mem he
    obtain ⟨_, _, _, _, _, _, h, _⟩ := ent j _ (List.getElem?_eq_getElem hj)
    exact h
  have sp := findW_spec h
  have same : ∀ {ws : List Value}, (Value.agg ws.toArray) = .agg us.toArray → ws = us := fun e => by
    have := congrArg (fun v => match v with | Value.agg c => c.toList | _ => []) e
    simpa using this
  rcases K.find w hl ms hall with ⟨h1, h2⟩ | ⟨j, e, h1, h2, h3⟩
  · cases r with
    | none => exact .inl ⟨rfl, h1⟩
    | some q =>
      obtain ⟨i, v⟩ := q
      simp only at sp
      obtain ⟨⟨ys, h4, h5⟩, _⟩ := sp
      have hi := (List.getElem?_eq_some_iff.1 h4).1
      obtain ⟨m, k1, k2, k3⟩ := hes i hi
      obtain ⟨_, ys', ws, e1, e2, e3, _⟩ := ent i m k1
      have he : es[i] = (.agg ys, v) := (List.getElem?_eq_some_iff.1 h4).2
      rw [he] at e1
      cases e1
      rw [← ieq_true h5, hx] at e2
      cases e2
      exact absurd e3 (h2 m (List.mem_of_getElem? k1))
  · obtain ⟨hj, ys, ws, e1, e2, e3, _, hv⟩ := ent j e h2
    rw [e3] at h3
    have hw := same h3
    subst hw
    have hget : es[j]? = some es[j] := List.getElem?_eq_getElem hj
    cases r with
    | none =>
      simp only at sp
      exact absurd e2 (ieq_false (sp j _ hget ys e1) hx)
    | some q =>
      obtain ⟨i, v⟩ := q
      simp only at sp
      by_cases hij : j = i
      · subst hij
        obtain ⟨⟨zs, h4, h5⟩, _⟩ := sp
        have he : es[j] = (.agg zs, v) := (List.getElem?_eq_some_iff.1 h4).2
        rw [he] at hv
        exact .inr ⟨j, v, e.val, rfl, hj, h1, hv, e, h2, e3⟩
      · exact absurd e2 (ieq_false (sp.2 j _ hij hget ys e1) hx)
def putW (es : List (A × A)) (x : List A) (v : A) : Option (List (A × A)) := match findW x es with
  | some (some (i, _)) => some (es.set i (.agg x, v))
  | some none => some (es ++ [(.agg x, v)])
  | none => none
section
variable {P : Program} {N : NN} {Q : Exit → Env → Heap → Prop} {T : Env} {H : Heap} {ops rest : List Oper} {L : Lay} {dst : Option Nat} {ty : TypeId} {pos : String} {after : Array Edge} {guard : Option (Nat × Bool)}
theorem AOp.lookupW {t kt et : TypeId} {x ix : Operand} {ok : Bool} {r : Nat} {es : List (A × A)} {key : List A} {ti ei : TI} {res : Option (Nat × A)} (hL : LayOk P L) (hx : ev T x = some (.map r)) (hm : (r, Blk.map es) ∈ H) (hi : ev T ix = some (.agg key))
    (ht : lay L t = some ti) (htd : ti.td = .map kt et) (hei : lay L et = some ei) (hkt : ktW P kt = true) (hkk : keyW P kt (.agg key) = true) (hke : (es.all fun e => keyW P kt e.1) = true) (hf : findW key es = some res) (hd : dstOk N dst = true)
    (kk : AOps P N ops rest Q (put dst (lookR ok ei res) T) H) : AOp P N ops { dst := dst, op := .lookup t x ix ok, type := ty, pos := pos, after := after, guard := guard } rest Q T H :=
  AOp.pure (fun fr w act s st => by
    have hu := ev_rep st hx
    generalize h1 : act.eval x = u at hu
    cases hu
    obtain ⟨key', us, l, e0, hus, hl⟩ := keyW_ok hkk
    cases e0
    have hv := keyW_val (P := P) (kt := kt) hus (ev_rep st hi)
    obtain ⟨e, clock, hg, hsz, hes⟩ := s.ok _ hm
    have K := ktW_ok hkt
    have hund := td_map (hL _ _ ht) htd
    obtain ⟨z, hz, hzr⟩ := zeroA_run (hL _ _ hei) w
    have hck := K.check w e.isEmpty hl
    have hget : (getObj r).run P w = .ok (.map e clock) w := by simp [getObj, Sem.run, hg]
    rcases findW_ok K hus hl (es := es) (ms := e.toList) (by simpa using hsz) (fun j hj => by
      obtain ⟨m, k1, k2, k3⟩ := hes j hj
      exact ⟨m, by simpa using k1, k2, k3⟩) hke hf with ⟨rfl, hfk⟩ | ⟨j, v1, v2, rfl, hj, hfk, hr, _⟩
    · cases ok with
      | true => exact ⟨.tuple #[z, .bool false], by simp [execOp, h1, hv, Instr.lookup, underlying, hund, hget, hck, hfk, hz], Rep.tup_of (.cons (hzr _ _) (.cons (.bool false) .nil))⟩
      | false => exact ⟨z, by simp [execOp, h1, hv, Instr.lookup, underlying, hund, hget, hck, hfk, hz], hzr _ _⟩
    · cases ok with
      | true => exact ⟨.tuple #[v2, .bool true], by simp [execOp, h1, hv, Instr.lookup, underlying, hund, hget, hck, hfk, hz], Rep.tup_of (.cons hr (.cons (.bool true) .nil))⟩
      | false => exact ⟨v2, by simp [execOp, h1, hv, Instr.lookup, underlying, hund, hget, hck, hfk, hz], hr⟩) hd kk
theorem AOp.mapUpdateW {t kt et : TypeId} {x ix y : Operand} {r : Nat} {es es' : List (A × A)} {key : List A} {v : A} {ti : TI} {H' : Heap} (hL : LayOk P L) (hx : ev T x = some (.map r)) (hi : ev T ix = some (.agg key)) (hy : ev T y = some v)
    (ht : lay L t = some ti) (htd : ti.td = .map kt et) (hkt : ktW P kt = true) (hkk : keyW P kt (.agg key) = true) (hke : (es.all fun e => keyW P kt e.1) = true) (hf : putW es key v = some es') (hat : At H r (.map es) (.map es') H') (hd : dstOk N dst = true)
    (kk : AOps P N ops rest Q (put dst (.tup []) T) H') : AOp P N ops { dst := dst, op := .mapUpdate t x ix y, type := ty, pos := pos, after := after, guard := guard } rest Q T H := by
  refine AOp.sem (R := fun v' K => v' = .tup [] ∧ K = H') (fun fr w act s st => ?_) hd ?_
  · have hu := ev_rep st hx
    generalize h1 : act.eval x = u at hu
    cases hu
    obtain ⟨key', us, l, e0, hus, hl⟩ := keyW_ok hkk
    cases e0
    have hvr := ev_rep st hi
    have hv := keyW_val (P := P) (kt := kt) hus hvr
    rw [hv] at hvr
    have hw := ev_rep st hy
    obtain ⟨e, clock, hg, hsz, hes⟩ := s.ok _ hat.mem
    have K := ktW_ok hkt
    have hund := td_map (hL _ _ ht) htd
    have hck := K.check w false hl
    have hget : (getObj r).run P w = .ok (.map e clock) w := by simp [getObj, Sem.run, hg]
    have hset : ∀ o, (setObj r o).run P w = .ok () { w with heap := w.heap.setIfInBounds r o } := fun o => by simp [setObj, Sem.run, hg]
    have hlt : r < w.heap.size := (Array.getElem?_eq_some_iff.1 hg).1
    unfold putW at hf
    have hent : ∀ j (hj : j < es.length), ∃ m, e.toList[j]? = some m ∧ Rep w (own fr H) es[j].1 m.key ∧ Rep w (own fr H) es[j].2 m.val := fun j hj => by
      obtain ⟨m, k1, k2, k3⟩ := hes j hj
      exact ⟨m, by simpa using k1, k2, k3⟩
    split at hf
    · rename_i j vv hj
      cases hf
      rcases findW_ok K hus hl (es := es) (ms := e.toList) (by simpa using hsz) hent hke hj with ⟨e1, _⟩ | ⟨j', v1, v2, e1, hjl, hfk, hr, m, k1, k2⟩
      · cases e1
      · cases e1
        have k1' : e[j]? = some m := by simpa using k1
        have hstay : (Instr.keyThatStays (((e[j]?).map (·.key)).getD (.agg us.toArray)) (.agg us.toArray)).run P w = .ok (.agg us.toArray) w := by
          rw [k1']; simp only [Option.map_some, Option.getD_some, k2]; exact K.stays w hl
        let o' : Obj := .map (e.modify j fun z => { z with key := .agg us.toArray, val := act.eval y }) clock
        have hne : ∀ c T f, o' ≠ Obj.cells c T f := fun c T f h => Obj.noConfusion h
        refine ⟨{ w with heap := w.heap.setIfInBounds r o' }, _, undef, H', .inr ⟨?_, rfl⟩, ⟨rfl, rfl⟩, s.putObj hat _ hne ?_, Rep.tup_of .nil, Ext.putObj hat _ hne⟩
        · simp [execOp, h1, hv, Instr.mapUpdate, underlying, hund, hget, hck, hfk, hset, o', -Array.getElem?_toList]
          have e1 : (Option.map (fun x => x.key) e[j]?).getD (.agg us.toArray) = ((e[j]?).map (·.key)).getD (.agg us.toArray) := rfl
          simp [e1, hstay, hset]
        · refine ⟨e.modify j fun z => { z with key := .agg us.toArray, val := act.eval y }, clock, by simp [hlt, o'], by simp [hsz], fun i hi => ?_⟩
          have hil : i < es.length := by simpa using hi
          have st' := (Ext.putObj (w := w) hat o' hne).stays (fr := fr)
          by_cases hij : i = j
          · subst hij
            refine ⟨{ m with key := .agg us.toArray, val := act.eval y }, ?_, ?_, ?_⟩
            · simp [Array.getElem?_modify, k1']
            · simp; exact hvr.mono st'
            · simp; exact hw.mono st'
          · obtain ⟨m2, l1, l2, l3⟩ := hes i hil
            refine ⟨m2, ?_, ?_, ?_⟩
            · rw [Array.getElem?_modify, if_neg (by omega)]; exact l1
            · rw [List.getElem_set_ne (by omega)]; exact l2.mono st'
            · rw [List.getElem_set_ne (by omega)]; exact l3.mono st'
    · rename_i hj
      cases hf
      rcases findW_ok K hus hl (es := es) (ms := e.toList) (by simpa using hsz) hent hke hj with ⟨_, hfk⟩ | ⟨j', v1, v2, e1, _⟩
      · let o' : Obj := .map (e.push { key := .agg us.toArray, val := act.eval y, born := clock }) (clock + 1)
        have hne : ∀ c T f, o' ≠ Obj.cells c T f := fun c T f h => Obj.noConfusion h
        refine ⟨{ w with heap := w.heap.setIfInBounds r o' }, _, undef, H', .inr ⟨?_, rfl⟩, ⟨rfl, rfl⟩, s.putObj hat _ hne ?_, Rep.tup_of .nil, Ext.putObj hat _ hne⟩
        · simp [execOp, h1, hv, Instr.mapUpdate, underlying, hund, hget, hck, hfk, hset, o']
        · refine ⟨e.push { key := .agg us.toArray, val := act.eval y, born := clock }, clock + 1, by simp [hlt, o'], by simp [hsz], fun i hi => ?_⟩
          have st' := (Ext.putObj (w := w) hat o' hne).stays (fr := fr)
          by_cases hij : i < es.length
          · obtain ⟨m2, l1, l2, l3⟩ := hes i hij
            refine ⟨m2, ?_, ?_, ?_⟩
            · rw [Array.getElem?_push_lt (by omega)]
              have := (Array.getElem?_eq_some_iff.1 l1)
              obtain ⟨hh, he⟩ := this
              simp [he]
            · rw [List.getElem_append_left hij]; exact l2.mono st'
            · rw [List.getElem_append_left hij]; exact l3.mono st'
          · have hie : i = es.length := by simp at hi; omega
            subst hie
            refine ⟨{ key := .agg us.toArray, val := act.eval y, born := clock }, by simp [← hsz], ?_, ?_⟩
            · simp; exact hvr.mono st'
            · simp; exact hw.mono st'
      · cases e1
    · cases hf
  · rintro v' H' ⟨rfl, rfl⟩
    exact kk
end
theorem keyW_ren {P : Program} {kt : TypeId} {ρ : Nat → Nat} {x : A} (h : keyW P kt x = true) : ren ρ x = x := by
  obtain ⟨xs, us, l, rfl, hu, _⟩ := keyW_ok h
  simp only [ren, ren_ints hu]
theorem ren_noneW {P : Program} {kt : TypeId} {ρ : Nat → Nat} {x : List A} : ∀ {es : List (A × A)}, (es.all fun e => keyW P kt e.1) = true → noneW x (es.map fun p => (ren ρ p.1, ren ρ p.2)) = noneW x es
  | [], _ => rfl
  | (k, v) :: es, h => by
    simp only [List.all_cons, Bool.and_eq_true] at h
    obtain ⟨ys, us, l, rfl, hu, _⟩ := keyW_ok h.1
    simp only [List.map_cons, ren, ren_ints hu, noneW, ren_noneW h.2]
theorem ren_findW {P : Program} {kt : TypeId} {ρ : Nat → Nat} {x : List A} : ∀ {es : List (A × A)} {r : Option (Nat × A)}, (es.all fun e => keyW P kt e.1) = true → findW x es = some r → findW x (es.map fun p => (ren ρ p.1, ren ρ p.2)) = some (r.map fun q => (q.1, ren ρ q.2))
  | [], r, _, h => by simp only [findW] at h; cases h; rfl
  | (k, v) :: es, r, hk, h => by
    simp only [List.all_cons, Bool.and_eq_true] at hk
    obtain ⟨ys, us, l, rfl, hu, _⟩ := keyW_ok hk.1
    simp only [findW] at h
    simp only [List.map_cons, ren, ren_ints hu, findW]
    split at h
    · rename_i hq
      split at h
      · rename_i hn
        cases h
        simp only [hq, ren_noneW hk.2, hn, Option.map_some]
      · cases h
    · rename_i hq
      split at h
      · rename_i hj
        cases h
        simp only [hq, ren_findW hk.2 hj, Option.map_some]
      · rename_i hj
        cases h
        simp only [hq, ren_findW hk.2 hj, Option.map_none]
      · cases h
theorem ren_putW {P : Program} {kt : TypeId} {ρ : Nat → Nat} {x : List A} {v : A} {es es' : List (A × A)} (hk : (es.all fun e => keyW P kt e.1) = true) (hx : keyW P kt (.agg x) = true) (h : putW es x v = some es') : putW (es.map fun p => (ren ρ p.1, ren ρ p.2)) x (ren ρ v) = some (es'.map fun p => (ren ρ p.1, ren ρ p.2)) := by
  have e := keyW_ren (ρ := ρ) hx
  unfold putW at h
  unfold putW
  split at h
  · rename_i hj
    cases h
    simp only [ren_findW hk hj, Option.map_some, List.map_set, e]
  · rename_i hj
    cases h
    simp only [ren_findW hk hj, Option.map_none, List.map_append, List.map_cons, List.map_nil, e]
  · cases h
theorem ren_allW {P : Program} {kt : TypeId} {ρ : Nat → Nat} {es : List (A × A)} (hk : (es.all fun e => keyW P kt e.1) = true) : ((es.map fun p => (ren ρ p.1, ren ρ p.2)).all fun e => keyW P kt e.1) = true := by
  simp only [List.all_eq_true, List.mem_map] at hk ⊢
  rintro _ ⟨p, hp, rfl⟩
  simp only
  rw [keyW_ren (hk p hp)]; exact hk p hp
def eEffW (P : Program) (L : Lay) (T : Tre A) (H : Tre Blk) : Op → Option Eff
  | .lookup t x ix ok => match evC T x, evC T ix with
    | some (.map r), some (.agg key) => match H.get r, lay L t with
      | some (.map es), some ⟨.map kt et, _, _, _⟩ => match lay L et with
        | some ei => match scopeL 0 ei.zero, ktW P kt, keyW P kt (.agg key), es.all fun e => keyW P kt e.1 with
          | true, true, true, true => match findW key es with
            | some res => some (.pure (lookR ok ei res))
            | none => none
          | _, _, _, _ => none
        | none => none
      | _, _ => none
    | _, _ => none
  | .mapUpdate t x ix y => match evC T x, evC T ix, evC T y with
    | some (.map r), some (.agg key), some v => match H.get r, lay L t with
      | some (.map es), some ⟨.map kt et, _, _, _⟩ => match ktW P kt, keyW P kt (.agg key), es.all fun e => keyW P kt e.1 with
        | true, true, true => match putW es key v with
          | some es' => some (.write (.tup []) r (.map es'))
          | none => none
        | _, _, _ => none
      | _, _ => none
    | _, _, _ => none
  | _ => none
theorem eEffW_ok {P : Program} {N : NN} {L : Lay} (hL : LayOk P L) {ρ : Nat → Nat} {n : Nat} {lo : Nat → Bool} {fz : Nat → Prop} {T : Tre A} {T' : Env} {H : Tre Blk} {H' : Heap} (hT : EnvR ρ T T') (hG : Good ρ n lo fz H H') {o : Oper} (hd : dstOk N o.dst = true)
    {e : Eff} (h : eEffW P L T H o.op = some e) : EffOk P N ρ H o T' H' e := by
  obtain ⟨dst, op, ty, pos, after, guard⟩ := o
  simp only at h hd
  unfold eEffW at h
  split at h
  · split at h
    · rename_i hx hi
      have hx := hT.ev hx
      have hi := hT.ev hi
      simp only [ren] at hx hi
      split at h
      · rename_i hr ht
        have hm := (hG.mem _ _ hr).2.2
        simp only [renB] at hm
        split at h
        · rename_i hei
          split at h
          · rename_i hz hkt hkk hke
            split at h
            · rename_i res hf
              cases h
              intro ops rest Q k
              rw [ren_lookR hz] at k
              have e := keyW_ren (ρ := ρ) hkk
              simp only [ren, A.agg.injEq] at e
              rw [e] at hi
              exact AOp.lookupW hL hx hm hi ht rfl hei hkt hkk (ren_allW hke) (ren_findW hke hf) hd k
            · cases h
          · cases h
        · cases h
      · cases h
    · cases h
  · split at h
    · rename_i hx hi hy
      have hx := hT.ev hx
      have hi := hT.ev hi
      have hy := hT.ev hy
      simp only [ren] at hx hi
      split at h
      · rename_i hr ht
        split at h
        · rename_i hkt hkk hke
          split at h
          · rename_i es' hf
            cases h
            refine ⟨_, hr, fun ops rest Q H'' hat k => ?_⟩
            simp only [renB] at hat
            simp only [ren, renL] at k
            have e := keyW_ren (ρ := ρ) hkk
            simp only [ren, A.agg.injEq] at e
            rw [e] at hi
            exact AOp.mapUpdateW hL hx hi hy ht rfl hkt hkk (ren_allW hke) (ren_putW hke hkk hf) hat hd k
          · cases h
        · cases h
      · cases h
    · cases h
  · cases h
def eEffX0 (P : Program) (L : Lay) (T : Tre A) (H : Tre Blk) (op : Op) : Option Eff := match eEff0 P L T H op with
  | some e => some e
  | none => match eEffW P L T H op with
    | some e => some e
    | none => eEff P L T H op
theorem eEffX0_ok {P : Program} {N : NN} {L : Lay} (hL : LayOk P L) {ρ : Nat → Nat} {n : Nat} {lo : Nat → Bool} {fz : Nat → Prop} {T : Tre A} {T' : Env} {H : Tre Blk} {H' : Heap} (hT : EnvR ρ T T') (hG : Good ρ n lo fz H H') {o : Oper} (hd : dstOk N o.dst = true)
    {e : Eff} (h : eEffX0 P L T H o.op = some e) : EffOk P N ρ H o T' H' e := by
  unfold eEffX0 at h
  split at h
  · rename_i he; cases h; exact eEff0_ok hL hT hG hd he
  · split at h
    · rename_i he; cases h; exact eEffW_ok hL hT hG hd he
    · exact eEff_ok hL hT hG hd h
/-- Operations that do what another one does. -/
def normOp : Op → Op
  | .insert t m k x => .mapUpdate t m k x
  | op => op
theorem normOp_exec (ev : Operand → Value) (o : Oper) : execOp ev { o with op := normOp o.op } = execOp ev o := by
  obtain ⟨dst, op, ty, pos, after, guard⟩ := o
  cases op <;> rfl
theorem AOp.congrOp {P : Program} {N : NN} {Q : Exit → Env → Heap → Prop} {T : Env} {H : Heap} {ops rest : List Oper} {o1 o2 : Oper} (hd : o1.dst = o2.dst) (he : ∀ ev, execOp ev o1 = execOp ev o2) (h : AOp P N ops o1 rest Q T H) : AOp P N ops o2 rest Q T H := by
  refine ⟨fun fr w a s st => ?_⟩
  have := h.out fr w a s st
  unfold Oper.wp Oper.upon at this ⊢
  rw [he, hd] at this
  exact this
theorem EffOk.congrOp {P : Program} {N : NN} {ρ : Nat → Nat} {H : Tre Blk} {o1 o2 : Oper} {T' : Env} {H' : Heap} {e : Eff} (hd : o1.dst = o2.dst) (he : ∀ ev, execOp ev o1 = execOp ev o2) (h : EffOk P N ρ H o1 T' H' e) : EffOk P N ρ H o2 T' H' e := by
  cases e with
  | pure v => intro ops rest Q k; exact AOp.congrOp hd he (h ops rest Q (by rw [hd]; exact k))
  | new m b => intro ops rest Q k; exact AOp.congrOp hd he (h ops rest Q (by rw [hd]; exact k))
  | write v i b' =>
    obtain ⟨b, h1, h2⟩ := h
    exact ⟨b, h1, fun ops rest Q H'' hat k => AOp.congrOp hd he (h2 ops rest Q H'' hat (by rw [hd]; exact k))⟩
  | swap m i b' =>
    obtain ⟨b, Hr, h1, h2, h3⟩ := h
    exact ⟨b, Hr, h1, h2, fun ops rest Q k => AOp.congrOp hd he (h3 ops rest Q (by rw [hd]; exact k))⟩
  | free v i =>
    obtain ⟨b, Hr, h1, h2, h3⟩ := h
    exact ⟨b, Hr, h1, h2, fun ops rest Q k => AOp.congrOp hd he (h3 ops rest Q (by rw [hd]; exact k))⟩
def eEffX (P : Program) (L : Lay) (T : Tre A) (H : Tre Blk) (op : Op) : Option Eff := eEffX0 P L T H (normOp op)
theorem eEffX_ok {P : Program} {N : NN} {L : Lay} (hL : LayOk P L) {ρ : Nat → Nat} {n : Nat} {lo : Nat → Bool} {fz : Nat → Prop} {T : Tre A} {T' : Env} {H : Tre Blk} {H' : Heap} (hT : EnvR ρ T T') (hG : Good ρ n lo fz H H') {o : Oper} (hd : dstOk N o.dst = true)
    {e : Eff} (h : eEffX P L T H o.op = some e) : EffOk P N ρ H o T' H' e :=
  EffOk.congrOp (o1 := { o with op := normOp o.op }) rfl (fun ev => normOp_exec ev o) (eEffX0_ok hL hT hG (o := { o with op := normOp o.op }) hd h)
end Go.Abs

namespace Go.Abs
open Go
set_option linter.unusedVariables false
set_option linter.unusedSimpArgs false
/-- Functions without a body: what they give. -/
abbrev Exts := FuncId → List A → Option A
def ExtOk (P : Program) (E : Exts) : Prop := ∀ f xs v, E f xs = some v → ∀ (ρ : Nat → Nat) (w : World) (o : Nat → Prop) (vs : List Value), RepL w o (renL ρ xs) vs → ∃ u, (callFunc f vs.toArray).run P w = .ok (.value u) w ∧ Rep w o (ren ρ v) u
abbrev CallC := (Nat → Bool) → FuncId → List A → Tre Blk → Nat → Option (A × Tre Blk × Nat)
def wantC (ops : List Oper) (T : Tre A) (o : Oper) : Option Bool :=
  match o.guard with
  | none => some true
  | some (j, b) => match (ops[j]?).bind (·.dst) with
    | none => none
    | some d => match T.get d with
      | some (.bool b') => some (b' == b)
      | some (.tup _) => some false
      | _ => none
def evOp (P : Program) (E : Exts) (L : Lay) (call : CallC) (lo : Nat → Bool) (T : Tre A) (H : Tre Blk) (n : Nat) : Op → Option (A × Tre Blk × Nat)
  | .call { callee := .value c, args := ⟨args⟩, argTypes := _ } => match evC T c with
    | some (.fn f first cap) => match evsC T args with
      | some xs => match E f (first ++ xs ++ cap) with
        | some v => match scope n v with
          | true => some (v, H, n)
          | false => none
        | none => call lo f (first ++ xs ++ cap) H n
      | none => none
    | _ => none
  | op => match sOpC L T op with
    | some v => match scope n v with
      | true => some (v, H, n)
      | false => none
    | none => match eEffX P L T H op with
      | some e => eApply lo H n e
      | none => none
def restrC (T : Tre A) : List Nat → Tre A
  | [] => .leaf
  | t :: ts => match T.get t with
    | some v => Tre.set 40 (restrC T ts) t (some v)
    | none => restrC T ts
/-- A word for an operation of a region. -/
def keyOf (o : Oper) : Option Nat := match o.dst with
  | some d => some d
  | none => match o.op with
    | .store _ (.tmp a) _ => some (100000 + a)
    | _ => none
def addK (o : Oper) (l : List Nat) : List Nat := match keyOf o with
  | some d => d :: l
  | none => l
/-- Which steps are late; ap: may an append, or a store, be early? -/
def lateGo (ap : Bool) (b : List Nat) : List Oper → Nat → Bool → Nat → Nat → List Nat
  | [], _, _, _, _ => []
  | o :: rest, i, seen, mask, rm => match isNew o || (ap && (isApp o || (isSt o && !Nat.beq (rm &&& b.getD i 0) rm))) with
    | true => match seen with
      | true => addK o (lateGo ap b rest (i + 1) true mask rm)
      | false => lateGo ap b rest (i + 1) false (mask ||| 2 ^ i) rm
    | false => match Nat.beq (cls o) 2 with
      | true => addK o (lateGo ap b rest (i + 1) true mask rm)
      | false => match Nat.beq (cls o) 1, seen || !Nat.beq ((b.getD i 0) &&& mask) 0 with
        | true, true => addK o (lateGo ap b rest (i + 1) seen mask rm)
        | true, false => lateGo ap b rest (i + 1) seen mask (rm ||| 2 ^ i)
        | _, _ => lateGo ap b rest (i + 1) seen mask rm
/-- Which blocks are made out of what the region found alone. -/
def uniGo (b : List Nat) : List Oper → Nat → Bool → Nat → List Nat
  | [], _, _, _ => []
  | o :: rest, i, seen, mask => match Nat.beq (cls o) 2 with
    | true => match isNew o, seen || !Nat.beq ((b.getD i 0) &&& mask) 0, o.dst with
      | true, false, some d => d :: uniGo b rest (i + 1) seen (mask ||| 2 ^ i)
      | _, _, _ => uniGo b rest (i + 1) (seen || !isEE o) (mask ||| 2 ^ i)
    | false => match Nat.beq (cls o) 1, !Nat.beq ((b.getD i 0) &&& mask) 0 with
      | true, true => uniGo b rest (i + 1) seen (mask ||| 2 ^ i)
      | _, _ => uniGo b rest (i + 1) seen mask
def memN (d : Nat) : List Nat → Bool
  | [] => false
  | x :: l => match Nat.beq x d with
    | true => true
    | false => memN d l
def lateIn (ds : List Nat) (o : Oper) : Bool := match keyOf o with
  | none => true
  | some d => memN d ds
def uniIn (ds : List Nat) (o : Oper) : Bool := match o.dst with
  | none => false
  | some d => memN d ds
def getW : List (Nat × (Mk × Blk)) → Nat → Option (Mk × Blk)
  | [], _ => none
  | (k, v) :: l, d => match Nat.beq k d with
    | true => some v
    | false => getW l d
def scopeT (n : Nat) (T : Tre A) : List Nat → Bool
  | [] => true
  | t :: ts => match T.get t with
    | some v => and (scope n v) (scopeT n T ts)
    | none => scopeT n T ts
def isCallV (o : Oper) : Bool := match o.op with
  | .call { callee := .value _, .. } => true
  | _ => false
inductive Stp where
  | fin (e : Exit)
  | go (cl : Bool) (T : Tre A) (H : Tre Blk) (n : Nat) (v : Option (Nat × A)) (w : Option (Nat × (Mk × Blk)))
def panStep (T : Tre A) (o : Oper) (last : Bool) : Option Stp := match last, o.guard, o.op with
  | true, none, .panic x => match evC T x with
    | some (.iface t v) => match datA v with
      | some u => some (.fin (.panic [{ v := .iface t u, recovered := false }]))
      | none => none
    | _ => none
  | _, _, _ => none
def uniStep (P : Program) (L : Lay) (hv : Oper → Bool) (o : Oper) (n0 : Nat) (cl : Bool) (T Tr : Tre A) (H : Tre Blk) (n : Nat) : Option Stp := match Nat.beq (clsH hv o) 2, cl, o.dst with
  | true, true, some d => match eEffX P L Tr .leaf o.op with
    | some (.new m b) => match scopeB n0 b with
      | true => some (.go true (putC (some d) (m.on n) T) (Tre.set 40 H n (some b)) (n + 1) none (some (d, (m, b))))
      | false => none
    | _ => none
  | _, _, _ => none
def earlyStep (P : Program) (E : Exts) (L : Lay) (call : CallC) (o : Oper) (sc : Bool) (H0 : Tre Blk) (n0 : Nat) (cl : Bool) (T Tr : Tre A) (H : Tre Blk) (n : Nat) : Option Stp := match cl, o.dst, sc with
  | true, some d, true => match isCallV o with
    | false => match eEffX P L Tr H0 o.op with
      | some (.pure v2) => match scope n0 v2 with
        | true => some (.go true (putC (some d) v2 T) H n (some (d, v2)) none)
        | false => none
      | _ => none
    | true => match evOp P E L call (fun i => Nat.ble n0 i) Tr H0 n0 o.op with
      | some (v, H1, _) => match deepC n0 H1 20 v with
        | some v2 => match scope n0 v2 with
          | true => some (.go true (putC (some d) v2 T) H n (some (d, v2)) none)
          | false => none
        | none => none
      | none => none
  | _, _, _ => none
def effStep (hv : Oper → Bool) (lo : Nat → Bool) (o : Oper) (late : Bool) (cons : Nat → Bool) (n0 : Nat) (cl : Bool) (T : Tre A) (H : Tre Blk) (n : Nat) (e : Eff) : Option Stp := match isEE o && !late with
  | false => match e with
    | .pure v => match scope n v, Nat.beq (clsH hv o) 0 with
      | true, false => some (.go cl (putC o.dst v T) H n none none)
      | _, _ => none
    | e => match Nat.beq (clsH hv o) 2 with
      | true => match eApply lo H n e with
        | some (v, H1, n1) => some (.go false (putC o.dst v T) H1 n1 none none)
        | none => none
      | false => none
  | true => match Nat.beq (clsH hv o) 2, cl, e with
    | true, true, .new m b => match scopeB n b with
      | true => some (.go true (putC o.dst (m.on n) T) (Tre.set 40 H n (some b)) (n + 1) none none)
      | false => none
    | true, true, .pure v => match scope n v with
      | true => some (.go true (putC o.dst v T) H n none none)
      | false => none
    | true, true, .swap m i b' => match scopeB n b', lo i, cons i || Nat.ble n0 i with
      | true, true, true => some (.go true (putC o.dst (m.on n) T) (Tre.set 40 (Tre.set 40 H i none) n (some b')) (n + 1) none none)
      | _, _, _ => none
    | true, true, .write v i b' => match scopeB n b', scope n v, lo i && (cons i || Nat.ble n0 i) with
      | true, true, true => some (.go true (putC o.dst v T) (Tre.set 40 H i (some b')) n none none)
      | _, _, _ => none
    | _, _, _ => none
def callStep (P : Program) (E : Exts) (L : Lay) (call : CallC) (o : Oper) (cl : Bool) (T Tr : Tre A) (H : Tre Blk) (n : Nat) : Option Stp := match evOp P E L call (fun i => Nat.ble n i) Tr H n o.op with
  | some (v, H1, _) => match deepC n H1 20 v with
    | some v2 => match scope n v2 with
      | true => some (.go cl (putC o.dst v2 T) H n none none)
      | false => none
    | none => none
  | none => none
def heavyStep (P : Program) (E : Exts) (L : Lay) (call : CallC) (lo : Nat → Bool) (o : Oper) (cons : Nat → Bool) (n0 : Nat) (cl : Bool) (T Tr : Tre A) (H : Tre Blk) (n : Nat) : Option Stp := match isCallV o, cl with
  | true, true => match evOp P E L call (fun i => and (lo i) (or (cons i) (Nat.ble n0 i))) Tr H n o.op with
    | some (v, H1, n1) => some (.go true (putC o.dst v T) H1 n1 none none)
    | none => none
  | _, _ => none
def eqC (P : Program) (L : Lay) (T : Tre A) : Op → Option A
  | .binOp op xt x y _ => match evC T x, evC T y with
    | some (.agg xs), some (.agg ys) => match eqAggC P L xt xs ys with
      | some b => match op with
        | .eql => some (.bool b)
        | .neq => some (.bool !b)
        | _ => none
      | none => none
    | _, _ => none
  | .call { callee := .builtin .cap, args := ⟨[x]⟩, argTypes := ⟨[t]⟩ } => match evC T x, lay L t with
    | some .nils, some ⟨.slice _, _, _, _⟩ => some (.int .i64 0)
    | _, _ => none
  | _ => none
theorem sOp_agg {L : Lay} {T : Env} {bop : BinOp} {xt yt : TypeId} {x y : Operand} {xs ys : List A} (hx : ev T x = some (.agg xs)) (hy : ev T y = some (.agg ys)) : sOp L T (.binOp bop xt x y yt) = none := by
  cases y with
  | const v => cases v <;> first | (simp only [sOp, hx, hy, nilOf]; done) | (simp [ev, ofConst] at hy; done) | (simp only [sOp, hx, hy, nilOf]; split <;> simp_all)
  | _ => first | (simp only [sOp, hx, hy, nilOf]; done) | (simp only [sOp, hx, hy, nilOf]; split <;> simp_all)
theorem eqC_ok {P : Program} {L : Lay} {ρ : Nat → Nat} {T : Tre A} {T' : Env} (hT : EnvR ρ T T') {op : Op} {v : A} (h : eqC P L T op = some v) : sOpX P L T' op = some (ren ρ v) := by
  unfold eqC at h
  split at h
  · split at h
    · rename_i hx hy
      have hx := hT.ev hx
      have hy := hT.ev hy
      simp only [ren] at hx hy
      split at h
      · rename_i b hb
        unfold eqAggC at hb
        split at hb
        · rename_i ht
          split at hb
          · rename_i hq
            have hb := ren_eqFieldsA ρ L _ _ _ _ hb
            split at h
            · cases h; exact sOpX_eq (eqTC_ok hq) (sOp_agg hx hy) hx hy ht rfl hb rfl
            · cases h; exact sOpX_eq (eqTC_ok hq) (sOp_agg hx hy) hx hy ht rfl hb rfl
            · cases h
          · cases hb
        · rename_i ht
          split at hb
          · rename_i hei
            split at hb
            · rename_i hq
              have hb := ren_eqFieldsA ρ L _ _ _ _ hb
              split at h
              · cases h; exact sOpX_eqA (eqGC_ok hq) (sOp_agg hx hy) hx hy ht rfl hei hb rfl
              · cases h; exact sOpX_eqA (eqGC_ok hq) (sOp_agg hx hy) hx hy ht rfl hei hb rfl
              · cases h
            · cases hb
          · cases hb
        · cases hb
      · cases h
    · cases h
  · split at h
    · rename_i hx ht
      cases h
      have hx := hT.ev hx
      simp only [ren] at hx
      exact sOpX_cap hx ht rfl
    · cases h
  · cases h
def lateStep (P : Program) (E : Exts) (L : Lay) (call : CallC) (hv : Oper → Bool) (lo : Nat → Bool) (o : Oper) (late : Bool) (cons : Nat → Bool) (n0 : Nat) (cl : Bool) (T Tr : Tre A) (H : Tre Blk) (n : Nat) : Option Stp := match sOpC L Tr o.op with
  | some v => match scope n v, isEE o with
    | true, false => some (.go cl (putC o.dst v T) H n none none)
    | _, _ => none
  | none => match eqC P L Tr o.op with
   | some v => match scope n v, isEE o with
    | true, false => some (.go cl (putC o.dst v T) H n none none)
    | _, _ => none
   | none => match isCallV o with
    | true => callStep P E L call o cl T Tr H n
    | false => match eEffX P L Tr H o.op with
      | some e => effStep hv lo o late cons n0 cl T H n e
      | none => none
def evStep (P : Program) (E : Exts) (N : Nat) (L : Lay) (call : CallC) (lo : Nat → Bool) (late uni hv : Oper → Bool) (ops : List Oper) (cons : Nat → Bool) (H0 : Tre Blk) (n0 : Nat) (o : Oper) (last cl : Bool) (T : Tre A) (H : Tre Blk) (n : Nat) : Option Stp := match dstOk ⟨N, [], []⟩ o.dst with
  | false => none
  | true => match wantC ops (restrC T (o.looksAt ops.toArray)) o with
    | none => none
    | some false => some (.go cl (putC o.dst (.tup []) T) H n none none)
    | some true => match isPan o with
      | true => panStep (restrC T (o.looksAt ops.toArray)) o last
      | false => match uni o with
        | true => uniStep P L hv o n0 cl T (restrC T (o.looksAt ops.toArray)) H n
        | false => match hv o with
         | true => heavyStep P E L call lo o cons n0 cl T (restrC T (o.looksAt ops.toArray)) H n
         | false => match Nat.beq (clsH hv o) 1 && !late o with
          | true => earlyStep P E L call o (scopeT n0 T (o.looksAt ops.toArray)) H0 n0 cl T (restrC T (o.looksAt ops.toArray)) H n
          | false => lateStep P E L call hv lo o (late o) cons n0 cl T (restrC T (o.looksAt ops.toArray)) H n
def addV (v : Option (Nat × A)) (V : Env) : Option Env := match v with
  | none => some V
  | some (d, x) => match get V d with
    | none => some ((d, x) :: V)
    | some _ => none
def addW (w : Option (Nat × (Mk × Blk))) (W : List (Nat × (Mk × Blk))) : Option (List (Nat × (Mk × Blk))) := match w with
  | none => some W
  | some (d, x) => match getW W d with
    | none => some ((d, x) :: W)
    | some _ => none
def evPlan (P : Program) (E : Exts) (N : Nat) (L : Lay) (call : CallC) (lo : Nat → Bool) (late uni hv : Oper → Bool) (ops : List Oper) (cons : Nat → Bool) (H0 : Tre Blk) (n0 : Nat) : List Oper → Bool → Tre A → Tre Blk → Nat → Option (Exit × Tre A × Tre Blk × Nat × Env × List (Nat × (Mk × Blk)))
  | [], _, T, H, n => some (.normal, T, H, n, [], [])
  | o :: rest, cl, T, H, n => match evStep P E N L call lo late uni hv ops cons H0 n0 o rest.isEmpty cl T H n with
    | none => none
    | some (.fin e) => some (e, T, H, n, [], [])
    | some (.go cl' T' H' n' v w) => match evPlan P E N L call lo late uni hv ops cons H0 n0 rest cl' T' H' n' with
      | none => none
      | some (e, T1, H1, n1, V, W) => match addV v V, addW w W with
        | some V', some W' => some (e, T1, H1, n1, V', W')
        | _, _ => none
/-- What the region found and leaves as it is: all but some blocks. -/
def baseC (lo : Nat → Bool) (n : Nat) : List Nat → Tre Blk → Option (Tre Blk)
  | [], H => some H
  | i :: l, H => match H.get i, lo i, Nat.blt i n with
    | some _, true, true => baseC lo n l (Tre.set 40 H i none)
    | _, _, _ => none
def Tre.filt {α : Type} (f : Nat → Bool) : Tre α → Tre α
  | .leaf => .leaf
  | .node l v r => .node (l.filt fun k => f (2 * k + 1)) (match f 0 with | true => v | false => none) (r.filt fun k => f (2 * k + 2))
theorem Tre.filt_get {α : Type} : ∀ {t : Tre α} {f : Nat → Bool} {k : Nat} {b : α}, (t.filt f).get k = some b → t.get k = some b ∧ f k = true
  | .leaf, f, k, b, h => by simp [Tre.filt, Tre.get] at h
  | .node l v r, f, k, b, h => by
    simp only [Tre.filt, Tre.get] at h
    split at h
    · rename_i hk
      have hk0 := Nat.eq_of_beq_eq_true hk
      subst hk0
      split at h
      · rename_i hf; exact ⟨by simp only [Tre.get, Nat.beq_refl]; exact h, hf⟩
      · cases h
    · rename_i hk
      split at h
      · rename_i hk2
        obtain ⟨h1, h2⟩ := Tre.filt_get h
        simp only [Tre.get, hk, hk2]
        have e : 2 * Nat.div k 2 + 1 = k := by
          simp only [nbeq, decide_eq_true_iff, decide_eq_false_iff_not, nmodE, ndivE] at *
          omega
        rw [e] at h2
        exact ⟨h1, h2⟩
      · rename_i hk2
        obtain ⟨h1, h2⟩ := Tre.filt_get h
        simp only [Tre.get, hk, hk2]
        have e : 2 * Nat.sub (Nat.div k 2) 1 + 2 = k := by
          simp only [nbeq, decide_eq_true_iff, decide_eq_false_iff_not, nmodE, ndivE, nsubE] at *
          omega
        rw [e] at h2
        exact ⟨h1, h2⟩
abbrev Res := Option (Exit × Tre A × Tre Blk × Nat)
def evLoop (step : Tre A → Tre Blk → Nat → Res) : Nat → Tre A → Tre Blk → Nat → Res
  | 0, _, _, _ => none
  | f + 1, T, H, n => match step T H n with
    | some (.normal, T1, H1, n1) => evLoop step f T1 H1 n1
    | r => r
def argsC : Nat → List A → Tre A
  | _, [] => .leaf
  | i, a :: l => Tre.set 40 (argsC (i + 1) l) i (some a)
def resV (L : Lay) (T : Tre A) (H : Tre Blk) : ResultVar → Option A
  | .tmp t => T.get t
  | .cell t ty => match T.get t with
    | some (.ptr r sz i o) => match H.get r with
      | some (.row _ sz' elems) => match Nat.beq sz sz' with
        | true => match elems[i]? with
          | some e => match lay L ty with
            | some ti => loadA ti e o
            | none => none
          | none => none
        | false => none
      | _ => none
    | _ => none
def resC (L : Lay) (T : Tre A) (H : Tre Blk) : List ResultVar → Option A
  | [] => some (.tup [])
  | [a] => resV L T H a
  | [a, b] => match resV L T H a, resV L T H b with
    | some x, some y => some (.tup [x, y])
    | _, _ => none
  | [a, b, c] => match resV L T H a, resV L T H b, resV L T H c with
    | some x, some y, some z => some (.tup [x, y, z])
    | _, _, _ => none
  | [a, b, c, d] => match resV L T H a, resV L T H b, resV L T H c, resV L T H d with
    | some x, some y, some z, some u => some (.tup [x, y, z, u])
    | _, _, _, _ => none
  | _ => none
structure Cfg (ρ : Nat → Nat) (n : Nat) (lo : Nat → Bool) (fz : Nat → Prop) (T : Tre A) (H : Tre Blk) (T' : Env) (H' : Heap) : Prop where
  r : EnvR ρ T T'
  s : EnvS n T
  g : Good ρ n lo fz H H'
theorem AOp.callExt {P : Program} {N : NN} {Q : Exit → Env → Heap → Prop} {T : Env} {H : Heap} {ops rest : List Oper} {dst : Option Nat} {callee : Operand} {args : List Operand} {ats : Array TypeId} {ty : TypeId} {pos : String} {after : Array Edge} {guard : Option (Nat × Bool)}
    {f : FuncId} {first cap xs : List A} {v : A} (hf : ev T callee = some (.fn f first cap)) (ha : evs T args = some xs) (he : ∀ (w : World) (o : Nat → Prop) (vs : List Value), RepL w o (first ++ xs ++ cap) vs → ∃ u, (callFunc f vs.toArray).run P w = .ok (.value u) w ∧ Rep w o v u)
    (hd : dstOk N dst = true) (kk : AOps P N ops rest Q (put dst v T) H) :
    AOp P N ops { dst := dst, op := .call { callee := .value callee, args := args.toArray, argTypes := ats }, type := ty, pos := pos, after := after, guard := guard } rest Q T H :=
  AOp.pure (fun fr w act s st => by
    obtain ⟨fs, cs, e1, r1, r2⟩ := (ev_rep st hf).fn_inv
    have r3 := evs_rep st ha
    obtain ⟨u, h1, h2⟩ := he w _ _ ((r1.append r3).append r2)
    have e2 : ((fs.toList ++ args.map act.eval) ++ cs.toList).toArray = fs ++ args.toArray.map act.eval ++ cs := by simp
    rw [e2] at h1
    refine ⟨u, ?_, h2⟩
    simp only [execOp, resolve, Deferred.ofValue, invoke, Sem.run_bind, Sem.run_pure, Result.andThen_ok, e1]
    exact h1) hd kk
section
variable {P : Program} {E : Exts} {N : NN} {L : Lay} {call : CallC} {ρ : Nat → Nat} {n : Nat} {lo : Nat → Bool} {fz : Nat → Prop} {T : Tre A} {H : Tre Blk} {T' : Env} {H' : Heap}
theorem evOp_ok (hL : LayOk P L) (hE : ExtOk P E) (hc : CallOk P call) (c : Cfg ρ n lo fz T H T' H') {o : Oper} (hd : dstOk N o.dst = true) {v : A} {H1 : Tre Blk} {n1 : Nat} (h : evOp P E L call lo T H n o.op = some (v, H1, n1))
    {ops rest : List Oper} {Q : Exit → Env → Heap → Prop} (k : ∀ r H1', Out ρ n lo fz H' v H1 n1 r H1' → AOps P N ops rest Q (put o.dst r T') H1') : AOp P N ops o rest Q T' H' := by
  obtain ⟨dst, op, ty, pos, after, guard⟩ := o
  simp only at h hd k
  unfold evOp at h
  split at h
  · split at h
    · rename_i hf
      have hf' := c.r.ev hf
      have sf := c.s.ev hf
      simp only [ren] at hf'
      simp only [scope, Bool.and_eq_true] at sf
      split at h
      · rename_i ha
        have ha' := c.r.evs ha
        have sa := c.s.evs ha
        split at h
        · rename_i v' hv
          split at h
          · rename_i hs
            cases h
            refine AOp.callExt hf' ha' (fun w o vs hr => hE _ _ _ hv ρ w o vs ?_) hd (k _ _ ⟨ρ, rfl, hs, c.g, Ltr.refl ..⟩)
            rw [renL_append, renL_append]; exact hr
          · cases h
        · have ht := hc _ _ _ _ _ _ _ _ h ρ fz H' (scopeL_append (scopeL_append sf.1 sa) sf.2) c.g
          simp only [renL_append] at ht
          refine AOp.callFn (F := []) hf' ha' hd (by simp) ht fun r H1' hr => ?_
          rw [List.append_nil]
          exact k r H1' hr
      · cases h
    · cases h
  · split at h
    · rename_i v' hv
      split at h
      · rename_i hs
        cases h
        exact AOp.simple hL (sOpC_ok c.r hv) hd (k _ _ ⟨ρ, rfl, hs, c.g, Ltr.refl ..⟩)
      · cases h
    · split at h
      · rename_i e he
        exact eApply_ok (eEffX_ok hL c.r c.g hd he) c.g h k
      · cases h
theorem Cfg.next {v : A} {H1 : Tre Blk} {n1 : Nat} {r : A} {H1' : Heap} (c : Cfg ρ n lo fz T H T' H') (h : Out ρ n lo fz H' v H1 n1 r H1') (d : Option Nat) : ∃ ρ1, Cfg ρ1 n1 lo fz (putC d v T) H1 (put d r T') H1' ∧ Ltr ρ n fz H' ρ1 n1 H1' := by
  obtain ⟨ρ1, rfl, hs, g, l⟩ := h
  exact ⟨ρ1, ⟨(c.r.later c.s l.agree).put d v, (c.s.mono l.le).put d hs, g⟩, l⟩
theorem restrC_get {T : Tre A} : ∀ {ts : List Nat} {t : Nat} {x : A}, (restrC T ts).get t = some x → T.get t = some x ∧ t ∈ ts
  | [], t, x, h => by simp [restrC, Tre.get] at h
  | u :: ts, t, x, h => by
    simp only [restrC] at h
    split at h
    · rename_i v hv
      rcases Tre.get_set _ _ _ _ _ _ h with ⟨h1, h2⟩ | ⟨h1, h2⟩
      · subst h1; cases h2; exact ⟨hv, List.mem_cons_self ..⟩
      · obtain ⟨k1, k2⟩ := restrC_get h2
        exact ⟨k1, List.mem_cons_of_mem _ k2⟩
    · obtain ⟨k1, k2⟩ := restrC_get h
      exact ⟨k1, List.mem_cons_of_mem _ k2⟩
theorem get_restr {T' : Env} {t : Nat} {y : A} (h : get T' t = some y) : ∀ {ts : List Nat}, t ∈ ts → get (restr T' ts) t = some y
  | [], hm => by cases hm
  | u :: ts, hm => by
    simp only [restr]
    by_cases e : u = t
    · subst e; rw [h]; simp only [get_put, if_true]
    · have hm : t ∈ ts := by
        rcases List.mem_cons.1 hm with rfl | hm
        · exact absurd rfl e
        · exact hm
      split
      · rw [get_put, if_neg e]; exact get_restr h hm
      · exact get_restr h hm
theorem Cfg.restr (c : Cfg ρ n lo fz T H T' H') (ts : List Nat) : Cfg ρ n lo fz (restrC T ts) H (Go.Abs.restr T' ts) H' :=
  ⟨fun t x hx => by obtain ⟨k1, k2⟩ := restrC_get hx; exact get_restr (c.r t x k1) k2, fun t x hx => c.s t x (restrC_get hx).1, c.g⟩
theorem wantC_ok {ops : List Oper} {o : Oper} (hT : EnvR ρ T T') {b : Bool} (h : wantC ops T o = some b) : wantA ops.toArray T' o = some b := by
  unfold wantC at h
  unfold wantA
  split at h
  · rename_i hg; rw [hg]; exact h
  · rename_i j b hg
    rw [hg]
    simp only [List.getElem?_toArray]
    split at h
    · cases h
    · rename_i d hdj
      rw [hdj]
      simp only
      split at h
      · rename_i b' hb
        have hb := hT d _ hb
        simp only [ren] at hb
        rw [hb]; exact h
      · rename_i l hb
        have hb := hT d _ hb
        simp only [ren] at hb
        rw [hb]; exact h
      · cases h
theorem perm_of_sub {α : Type} : ∀ {l m : List α}, l.Nodup → (∀ x ∈ l, x ∈ m) → ∃ G, m.Perm (G ++ l)
  | [], m, _, _ => ⟨m, by simp⟩
  | a :: l, m, hn, h => by
    obtain ⟨m', hm⟩ := mem_perm (h a (List.mem_cons_self ..))
    obtain ⟨h1, h2⟩ := List.nodup_cons.1 hn
    obtain ⟨G, hG⟩ := perm_of_sub h2 (m := m') fun x hx => by
      rcases List.mem_cons.1 (hm.mem_iff.1 (h x (List.mem_cons_of_mem _ hx))) with e | e
      · subst e; exact absurd hx h1
      · exact e
    exact ⟨G, hm.trans ((hG.cons a).trans List.perm_middle.symm)⟩
theorem nodup_of_keys {H : Heap} (h : (keys H).Nodup) : H.Nodup := List.Pairwise.of_map _ (fun a b hab e => hab (by rw [e])) h
theorem scopeT_ok {n : Nat} {T : Tre A} : ∀ {ts : List Nat}, scopeT n T ts = true → ∀ t x, t ∈ ts → T.get t = some x → scope n x = true
  | [], _, t, x, hm, _ => by cases hm
  | u :: ts, h, t, x, hm, hx => by
    simp only [scopeT] at h
    split at h
    · rename_i v hv
      simp only [Bool.and_eq_true] at h
      rcases List.mem_cons.1 hm with rfl | hm
      · rw [hx] at hv; cases hv; exact h.1
      · exact scopeT_ok h.2 t x hm hx
    · rename_i hv
      rcases List.mem_cons.1 hm with rfl | hm
      · rw [hx] at hv; cases hv
      · exact scopeT_ok h t x hm hx
/-- A call (or a read) that leaves memory as it is, its result told deep. -/
theorem evOp_quiet (hL : LayOk P L) (hE : ExtOk P E) (hc : CallOk P call) (c : Cfg ρ n lo fz T H T' H') {o : Oper} (hd : dstOk N o.dst = true) {v v2 : A} {H1 : Tre Blk} {n1 : Nat} (h : evOp P E L call (fun i => Nat.ble n i) T H n o.op = some (v, H1, n1))
    (hdp : deepC n H1 20 v = some v2) (hs : scope n v2 = true) : AOp P N [] o [] (Qn o T' fun r K => r = ren ρ v2 ∧ K = H') T' H' := by
  have cq : Cfg ρ n (fun i => Nat.ble n i) (fun k => k ∈ keys H') T H T' H' := ⟨c.r, c.s, ⟨c.g.mem, c.g.inj, c.g.nodup, fun i hi hn => absurd hi (by have := Nat.le_of_ble_eq_true hn; omega), fun i hi => Nat.ble_eq_true_of_le hi, fun k hk => hk⟩⟩
  refine evOp_ok hL hE hc cq hd h fun r H1' hr => ?_
  obtain ⟨ρ1, rfl, hs1, g1, l1⟩ := hr
  obtain ⟨G, hG⟩ := perm_of_sub (nodup_of_keys c.g.nodup) (m := H1') fun p hp => l1.keep p hp (keys_mem hp)
  have e2 : ren ρ1 v2 = ren ρ v2 := ren_congr l1.agree v2 hs
  refine AOps.conv (r2 := ren ρ v2) hG (fun fr w u s hr => ?_) (AOps.nil (Qn_n ⟨rfl, rfl⟩))
  rw [← e2]
  exact deep_rep g1 (fun k hk => hk) s 20 v v2 u hdp hr
mutual
theorem datA_ren (ρ : Nat → Nat) : ∀ (v : A) (u : Value), datA v = some u → datA (ren ρ v) = some u
  | .int k n, u, h => by simpa only [ren] using h
  | .bool b, u, h => by simpa only [ren] using h
  | .str s, u, h => by simpa only [ren] using h
  | .agg l, u, h => by
    simp only [datA] at h
    split at h
    · rename_i vs hvs
      simp only [ren, datA, datL_ren ρ l vs hvs]; exact h
    · cases h
  | .iface t x, u, h => by
    simp only [datA] at h
    split at h
    · rename_i u' hu
      simp only [ren, datA, datA_ren ρ x _ hu]; exact h
    · cases h
  | .nilp, _, h | .ptr .., _, h | .dp _, _, h | .nils, _, h | .ds _, _, h | .os .., _, h | .nilm, _, h | .abs _ _, _, h | .map _, _, h | .nilf, _, h | .fn .., _, h | .nili, _, h | .tup _, _, h => by simp only [datA] at h; cases h
theorem datL_ren (ρ : Nat → Nat) : ∀ (l : List A) (us : List Value), datA.datL l = some us → datA.datL (renL ρ l) = some us
  | [], us, h => by simpa only [renL] using h
  | a :: l, us, h => by
    simp only [datA.datL] at h
    split at h
    · rename_i v1 vs1 h1 h2
      simp only [renL, datA.datL, datA_ren ρ a _ h1, datL_ren ρ l _ h2]; exact h
    · cases h
end
theorem eApply_neR {P : Program} {N : NN} {ρ : Nat → Nat} {n : Nat} {lo : Nat → Bool} {fz : Nat → Prop} {H : Tre Blk} {H' : Heap} {o : Oper} {T' : Env} {e : Eff} (he : EffOk P N ρ H o T' H' e) (g : Good ρ n lo fz H H') {v : A} {H1 : Tre Blk} {n1 : Nat} (h : eApply lo H n e = some (v, H1, n1)) : NeR (Out ρ n lo fz H' v H1 n1) H' := by
  intro l
  cases e with
  | pure x =>
    simp only [eApply] at h
    split at h
    · rename_i hs
      cases h
      exact ⟨_, _, ⟨ρ, rfl, hs, g, Ltr.refl ..⟩, g.nodup, fun k hk _ => hk⟩
    · cases h
  | new m b =>
    simp only [eApply] at h
    split at h
    · rename_i hs
      cases h
      obtain ⟨r, hr⟩ := fresh (l ++ keys H')
      have hr1 : r ∉ l := fun e => hr (List.mem_append.2 (.inl e))
      have hr2 : r ∉ keys H' := fun e => hr (List.mem_append.2 (.inr e))
      have gn := g.new hr2 hs
      refine ⟨_, _, ⟨upd ρ n r, rfl, m.scope n, gn, fun i hi => upd_lt hi, Nat.le_succ _, fun p hp _ => List.mem_cons_of_mem _ hp⟩, gn.nodup, fun k hk hl => ?_⟩
      rcases List.mem_cons.1 hk with e | e
      · have e1 : k = _ := e
        simp only at e1
        rw [e1] at hl; exact absurd hl hr1
      · exact e
    · cases h
  | write x i b' =>
    simp only [eApply] at h
    split at h
    · rename_i hb hs hl
      cases h
      obtain ⟨b, hi, he⟩ := he
      obtain ⟨H'', hat⟩ := At.of_mem (renB ρ b') (g.mem _ _ hi).2.2
      refine ⟨_, _, ⟨ρ, rfl, hs, g.write hi hb hat, fun _ _ => rfl, Nat.le_refl _, fun p hp hf => hat.other hp fun e => ?_⟩, (g.write hi hb hat).nodup, fun k hk _ => by rw [hat.keys] at hk; exact hk⟩
      rw [e] at hf
      exact g.fz i (g.mem _ _ hi).1 hl hf
    · cases h
  | swap m i b' =>
    simp only [eApply] at h
    split at h
    · rename_i hb hl
      cases h
      obtain ⟨b, Hr, hi, hp, he⟩ := he
      obtain ⟨r, hr⟩ := fresh (l ++ keys Hr)
      have hr1 : r ∉ l := fun e => hr (List.mem_append.2 (.inl e))
      have hr2 : r ∉ keys Hr := fun e => hr (List.mem_append.2 (.inr e))
      have gs := g.swap hi hl hb hp hr2
      refine ⟨_, _, ⟨upd ρ n r, rfl, m.scope n, gs, fun i hi => upd_lt hi, Nat.le_succ _, fun p hp' hf => ?_⟩, gs.nodup, fun k hk hkl => ?_⟩
      · rcases List.mem_cons.1 (hp.mem_iff.1 hp') with e | e
        · rw [e] at hf; exact absurd hf (g.fz i (g.mem _ _ hi).1 hl)
        · exact List.mem_cons_of_mem _ e
      · rcases List.mem_cons.1 hk with e | e
        · have e1 : k = _ := e
          simp only at e1
          rw [e1] at hkl; exact absurd hkl hr1
        · exact (hp.map (·.1)).mem_iff.2 (List.mem_cons_of_mem _ e)
    · cases h
  | free x i =>
    simp only [eApply] at h
    split at h
    · rename_i hs hl
      cases h
      obtain ⟨b, Hr, hi, hp, he⟩ := he
      have gf := g.free hi hl hp
      refine ⟨_, _, ⟨ρ, rfl, hs, gf, fun _ _ => rfl, Nat.le_refl _, fun p hp' hf => ?_⟩, gf.nodup, fun k hk _ => (hp.map (·.1)).mem_iff.2 (List.mem_cons_of_mem _ hk)⟩
      rcases List.mem_cons.1 (hp.mem_iff.1 hp') with e | e
      · rw [e] at hf; exact absurd hf (g.fz i (g.mem _ _ hi).1 hl)
      · exact e
    · cases h
theorem getW_put {l : List (Nat × (Mk × Blk))} {d d' : Nat} {v : Mk × Blk} : getW ((d, v) :: l) d' = if d = d' then some v else getW l d' := by
  simp only [getW]
  by_cases h : d = d'
  · subst h; simp
  · have : Nat.beq d d' = false := by
      cases hb : Nat.beq d d'
      · rfl
      · exact absurd (Nat.eq_of_beq_eq_true hb) h
    simp only [this, if_neg h]
theorem memN_mem {d : Nat} : ∀ {l : List Nat}, memN d l = true → d ∈ l
  | [], h => by cases h
  | x :: l, h => by
    simp only [memN] at h
    split at h
    · rename_i e; rw [Nat.eq_of_beq_eq_true e]; exact List.mem_cons_self ..
    · exact List.mem_cons_of_mem _ (memN_mem h)
/-- A block that is none of B's goes: B stays. -/
theorem keep_base {H' B G Hr : Heap} {p : Nat × Blk} (hn : (keys H').Nodup) (hG : H'.Perm (G ++ B)) (hp : H'.Perm (p :: Hr)) (hb : p.1 ∉ keys B) : ∃ G', Hr.Perm (G' ++ B) := by
  have hm : p ∈ G ++ B := hG.mem_iff.1 (hp.mem_iff.2 (List.mem_cons_self ..))
  rcases List.mem_append.1 hm with hm | hm
  · obtain ⟨G', hG'⟩ := mem_perm hm
    refine ⟨G', ?_⟩
    have : (p :: Hr).Perm (p :: (G' ++ B)) := hp.symm.trans (hG.trans (hG'.append_right B))
    exact List.Perm.cons_inv this
  · exact absurd (keys_mem hm) hb
theorem baseC_ok {ρ : Nat → Nat} {n : Nat} {lo : Nat → Bool} {fz : Nat → Prop} : ∀ {cons : List Nat} {H : Tre Blk} {H' : Heap} {H0 : Tre Blk}, Good ρ n lo fz H H' → baseC lo n cons H = some H0 → ∃ B G, Good ρ n lo fz H0 B ∧ H'.Perm (G ++ B) ∧ ∀ i ∈ cons, i < n ∧ ρ i ∉ keys B
  | [], H, H', H0, g, h => by
    simp only [baseC] at h
    cases h
    exact ⟨H', [], g, by simp, fun i hi => by cases hi⟩
  | i :: l, H, H', H0, g, h => by
    simp only [baseC] at h
    split at h
    · rename_i b hi hlo hlt
      obtain ⟨Hr, hp⟩ := mem_perm (g.mem _ _ hi).2.2
      have gf := g.free hi hlo hp
      obtain ⟨B, G, h1, h2, h3⟩ := baseC_ok gf h
      refine ⟨B, (ρ i, renB ρ b) :: G, h1, hp.trans (h2.cons _), fun j hj => ?_⟩
      rcases List.mem_cons.1 hj with rfl | hj
      · refine ⟨by simpa [Nat.blt_eq] using hlt, fun e => ?_⟩
        have hnd : (keys ((ρ j, renB ρ b) :: Hr)).Nodup := (hp.map _).nodup_iff.1 g.nodup
        refine (List.nodup_cons.1 hnd).1 ?_
        exact (h2.map (·.1)).mem_iff.2 (by simp only [keys, List.map_append, List.mem_append]; exact .inr e)
      · exact h3 j hj
    · cases h
/-- What some places of a tree bear stays apart: the rest is a base. -/
theorem base_filt {ρ : Nat → Nat} {n : Nat} {lo : Nat → Bool} {fz : Nat → Prop} {H : Tre Blk} {H' : Heap} (g : Good ρ n lo fz H H') (cons : Nat → Bool) (hc : ∀ i, cons i = true → i < n ∧ (H.get i).isSome = true) :
    ∃ B G, Good ρ n lo fz (H.filt fun i => !(lo i && cons i)) B ∧ H'.Perm (G ++ B) ∧ ∀ i, lo i = true → cons i = true → i < n ∧ ρ i ∉ keys B := by
  classical
  have S0 : ∀ (S : Nat → Prop), (∀ k, S k ↔ ∃ j, lo j = true ∧ cons j = true ∧ ρ j = k) → ∃ B G, Good ρ n lo fz (H.filt fun i => !(lo i && cons i)) B ∧ H'.Perm (G ++ B) ∧ ∀ i, lo i = true → cons i = true → i < n ∧ ρ i ∉ keys B := by
    intro S hS
    refine ⟨H'.filter (fun p => !decide (S p.1)), H'.filter (fun p => decide (S p.1)), ⟨fun i b hi => ?_, fun i j b c hi hj => ?_, ?_, g.fz, g.nw, fun k hk => ?_⟩, (List.filter_append_perm _ _).symm, fun i hl hi => ⟨(hc i hi).1, fun hm => ?_⟩⟩
    · obtain ⟨h1, h2⟩ := Tre.filt_get hi
      obtain ⟨k1, k2, k3⟩ := g.mem i b h1
      refine ⟨k1, k2, List.mem_filter.2 ⟨k3, ?_⟩⟩
      simp only [Bool.not_eq_true', decide_eq_false_iff_not]
      intro hs
      obtain ⟨j, hl, hj, e⟩ := (hS _).1 hs
      obtain ⟨c, hjc⟩ := Option.isSome_iff_exists.1 (hc j hj).2
      have := g.inj j i c b hjc h1 e
      subst this
      simp [hl, hj] at h2
    · exact g.inj i j b c (Tre.filt_get hi).1 (Tre.filt_get hj).1
    · exact g.nodup.sublist ((List.filter_sublist).map _)
    · obtain ⟨p, hp, rfl⟩ := List.mem_map.1 (g.fzk k hk)
      refine List.mem_map.2 ⟨p, List.mem_filter.2 ⟨hp, ?_⟩, rfl⟩
      simp only [Bool.not_eq_true', decide_eq_false_iff_not]
      intro hs
      obtain ⟨j, hl, hj, e⟩ := (hS _).1 hs
      exact g.fz j (hc j hj).1 hl (by rw [e]; exact hk)
    · obtain ⟨p, hp, e⟩ := List.mem_map.1 hm
      have := (List.mem_filter.1 hp).2
      simp only [Bool.not_eq_true', decide_eq_false_iff_not] at this
      exact this ((hS _).2 ⟨i, hl, hi, e.symm⟩)
  exact S0 _ fun k => Iff.rfl
theorem addV_ok {v : Option (Nat × A)} {V V' : Env} (h : addV v V = some V') : (∀ d x, get V d = some x → get V' d = some x) ∧ ∀ d x, v = some (d, x) → get V' d = some x := by
  unfold addV at h
  split at h
  · cases h; exact ⟨fun _ _ h => h, fun _ _ h => by cases h⟩
  · rename_i d x
    split at h
    · rename_i hV
      cases h
      refine ⟨fun d' y hy => ?_, fun d' y hy => by cases hy; rw [get_put, if_pos rfl]⟩
      rw [get_put, if_neg]
      · exact hy
      · intro e; rw [e, hy] at hV; cases hV
    · cases h
theorem addW_ok {v : Option (Nat × (Mk × Blk))} {V V' : List (Nat × (Mk × Blk))} (h : addW v V = some V') : (∀ d x, getW V d = some x → getW V' d = some x) ∧ ∀ d x, v = some (d, x) → getW V' d = some x := by
  unfold addW at h
  split at h
  · cases h; exact ⟨fun _ _ h => h, fun _ _ h => by cases h⟩
  · rename_i d x
    split at h
    · rename_i hV
      cases h
      refine ⟨fun d' y hy => ?_, fun d' y hy => by cases hy; rw [getW_put, if_pos rfl]⟩
      rw [getW_put, if_neg]
      · exact hy
      · intro e; rw [e, hy] at hV; cases hV
    · cases h
/-- One step of a plan, and that the rest holds behind it. -/
theorem evStep_ok (hL : LayOk P L) (hE : ExtOk P E) (hc : CallOk P call) {late uni hv : Oper → Bool} {ops : List Oper} {cons : Nat → Bool} {Q : Exit → Env → Heap → Prop} {ρ0 : Nat → Nat} {n0 : Nat} {H0 : Tre Blk} {B : Heap} (g0 : Good ρ0 n0 lo fz H0 B) (hcons : ∀ i, lo i = true → cons i = true → i < n0 ∧ ρ0 i ∉ keys B)
    {o : Oper} {rest : List Oper} {cl : Bool} {ρ : Nat → Nat} {n : Nat} {T : Tre A} {H : Tre Blk} {T' : Env} {H' : Heap} {st : Stp}
    (c : Cfg ρ n lo fz T H T' H') (hag : ∀ i, i < n0 → ρ i = ρ0 i) (hn0 : n0 ≤ n) (hcl : cl = true → (∃ G, H'.Perm (G ++ B)) ∧ ∀ i, n0 ≤ i → i < n → ρ i ∉ keys B)
    (h : evStep P E N.n L call lo late uni hv ops cons H0 n0 o rest.isEmpty cl T H n = some st) {bv : Nat → A} {nv : Nat → (Nat → A) × Blk}
    (k : match st with
      | .fin e => Q e T' H'
      | .go cl1 T1 H1 n1 v w => (∀ d x, v = some (d, x) → bv d = ren ρ0 x) ∧ (∀ d m b, w = some (d, (m, b)) → nv d = (m.on, renB ρ0 b)) ∧
        ∀ ρ1 T1' H1', Cfg ρ1 n1 lo fz T1 H1 T1' H1' → Ltr ρ n fz H' ρ1 n1 H1' → (∀ i, i < n0 → ρ1 i = ρ0 i) → n0 ≤ n1 → (cl1 = true → (∃ G, H1'.Perm (G ++ B)) ∧ ∀ i, n0 ≤ i → i < n1 → ρ1 i ∉ keys B) → Plan2 P N L ops.toArray late uni hv bv nv B Q rest T1' H1') :
    Plan2 P N L ops.toArray late uni hv bv nv B Q (o :: rest) T' H' := by
  unfold evStep at h
  have cr := c.restr (o.looksAt ops.toArray)
  split at h
  · cases h
  rename_i hd
  have hd : dstOk N o.dst = true := hd
  split at h
  · cases h
  · rename_i hw
    cases h
    obtain ⟨_, _, k⟩ := k
    have c1 : Cfg ρ n lo fz (putC o.dst (.tup []) T) H (put o.dst (.tup []) T') H' := ⟨by have := c.r.put o.dst (.tup []); simpa only [ren, renL] using this, c.s.put o.dst (by rfl), c.g⟩
    exact ⟨hd, .inr (.inl ⟨wantC_ok cr.r hw, k _ _ _ c1 (Ltr.refl ..) hag hn0 hcl⟩)⟩
  rename_i hw
  have hw := wantC_ok cr.r hw
  split at h
  · -- a panic
    rename_i hpan
    unfold panStep at h
    split at h
    · rename_i x hlast hg hop
      split at h
      · rename_i t v hx
        have hx2 := cr.r.ev hx
        simp only [ren] at hx2
        split at h
        · rename_i u hu
          cases h
          exact ⟨hd, .inr (.inr (.inr (.inr (.inr (.inl ⟨hpan, by cases rest <;> simp_all, hg, x, t, _, u, hop, hx2, datA_ren ρ _ _ hu, T', H', fun _ _ h => h, List.Perm.refl _, k⟩)))))⟩
        · cases h
      · cases h
    · cases h
  rename_i hpan
  split at h
  · -- a block, whatever else
    rename_i hun
    unfold uniStep at h
    split at h
    · rename_i d hc2 hdst _
      split at h
      · rename_i m b he
        split at h
        · rename_i hsb
          cases h
          obtain ⟨_, kw, k⟩ := k
          obtain ⟨⟨G, hG⟩, hfr⟩ := hcl rfl
          have hb0 : renB ρ b = renB ρ0 b := renB_congr hag b hsb
          have gl : Good ρ n lo (fun _ => False) .leaf [] := ⟨fun i b h => by simp [Tre.get] at h, fun i j b c h => by simp [Tre.get] at h, List.nodup_nil, fun i _ _ h => h, c.g.nw, fun k h => h.elim⟩
          have hef := eEffX_ok (N := N) hL cr.r gl hd he
          have hnd := kw d m b rfl
          refine ⟨hd, .inr (.inr (.inr (.inr (.inr (.inr ⟨⟨hun, Nat.eq_of_beq_eq_true hc2, G, hG⟩, hw, m.on, renB ρ0 b, by rw [hdst, Option.map_some, hnd], ?_, fun r0 hr0 => ?_⟩)))))⟩
          · exact hef [] [] _ fun r0 _ => AOps.nil (Qn_n ⟨r0, rfl, by rw [hb0]⟩)
          · have hsb' := scopeB_mono hn0 b hsb
            rw [← hb0]
            have c1 : Cfg (upd ρ n r0) (n + 1) lo fz (putC (some d) (m.on n) T) (Tre.set 40 H n (some b)) (put o.dst (m.on r0) T') ((r0, renB ρ b) :: H') := by
              refine ⟨?_, (c.s.mono (Nat.le_succ n)).put _ (m.scope n), c.g.new hr0 hsb'⟩
              have := (c.r.later c.s (fun i hi => (upd_lt hi : upd ρ n r0 i = ρ i))).put (some d) (m.on n)
              rw [Mk.ren, upd_at] at this
              rw [hdst]; exact this
            refine k _ _ _ c1 ⟨fun i hi => upd_lt hi, Nat.le_succ _, fun p hp _ => List.mem_cons_of_mem _ hp⟩ (fun i hi => (upd_lt (by omega)).trans (hag i hi)) (by omega) (fun _ => ⟨⟨(r0, renB ρ b) :: G, hG.cons _⟩, fun i h0 h1 => ?_⟩)
            by_cases hi : i = n
            · subst hi; rw [upd_at]
              exact fun e => hr0 ((hG.map (·.1)).mem_iff.2 (by simp only [keys, List.map_append, List.mem_append]; exact .inr e))
            · rw [upd_lt (by omega)]; exact hfr i h0 (by omega)
        · cases h
      · cases h
    · cases h
  rename_i hun
  split at h
  · -- a call that turns memory
    rename_i hhv
    unfold heavyStep at h
    split at h
    · rename_i hcv _
      split at h
      · rename_i v H2 n2 ho
        cases h
        obtain ⟨_, _, k⟩ := k
        obtain ⟨⟨G, hG⟩, hfr⟩ := hcl rfl
        have hBH : ∀ k, k ∈ keys B → k ∈ keys H' := fun k hk => (hG.map (·.1)).mem_iff.2 (by simp only [keys, List.map_append, List.mem_append]; exact .inr hk)
        have hop : ∃ cc args ats, o.op = .call { callee := .value cc, args := args, argTypes := ats } := by
          unfold isCallV at hcv
          split at hcv
          · rename_i hq; exact ⟨_, _, _, hq⟩
          · cases hcv
        obtain ⟨cc, args, ats, hop⟩ := hop
        have hnb : ∀ i, i < n → lo i = true → or (cons i) (Nat.ble n0 i) = true → ρ i ∉ keys B := by
          intro i hi hlo hco
          rcases Bool.or_eq_true _ _ |>.mp hco with hq | hq
          · obtain ⟨k1, k2⟩ := hcons i hlo hq
            rw [hag i k1]; exact k2
          · exact hfr i (Nat.le_of_ble_eq_true hq) hi
        have g2 : Good ρ n (fun i => and (lo i) (or (cons i) (Nat.ble n0 i))) (fun k => fz k ∨ k ∈ keys B) H H' := by
          refine ⟨c.g.mem, c.g.inj, c.g.nodup, fun i hi hl => ?_, fun i hi => ?_, fun k hk => ?_⟩
          · have hl := (Bool.and_eq_true _ _).mp hl
            rintro (hz | hz)
            · exact c.g.fz i hi hl.1 hz
            · exact hnb i hi hl.1 hl.2 hz
          · rw [c.g.nw i hi, show Nat.ble n0 i = true from Nat.ble_eq_true_of_le (by omega), Bool.or_true]; rfl
          · rcases hk with hk | hk
            · exact c.g.fzk k hk
            · exact hBH k hk
        have cr2 : Cfg ρ n (fun i => and (lo i) (or (cons i) (Nat.ble n0 i))) (fun k => fz k ∨ k ∈ keys B) (restrC T (o.looksAt ops.toArray)) H (restr T' (o.looksAt ops.toArray)) H' := ⟨cr.r, cr.s, g2⟩
        refine ⟨hd, .inr (.inr (.inr (.inl ⟨⟨by simp only [clsH, hhv], hun⟩, hw, Out ρ n (fun i => and (lo i) (or (cons i) (Nat.ble n0 i))) (fun k => fz k ∨ k ∈ keys B) H' v H2 n2, ⟨(fun e => by rw [hhv] at e; cases e), evOp_ok hL hE hc cr2 hd ho fun r H1' hr => AOps.nil (Qn_n hr), fun _ _ => ⟨⟨G, hG⟩, fun r H1' hr => ?_⟩⟩, fun r H1' hr => ?_⟩)))⟩
        · obtain ⟨ρ1, rfl, hs1, g1, l1⟩ := hr
          have hndB : B.Nodup := by
            have : ((G ++ B).map (fun p : Nat × Blk => p.1)).Nodup := (List.Perm.nodup_iff (List.Perm.map (fun p : Nat × Blk => p.1) hG)).1 c.g.nodup
            rw [List.map_append] at this
            exact nodup_of_keys (List.nodup_append.1 this).2.1
          exact perm_of_sub hndB fun p hp => l1.keep p (hG.mem_iff.2 (List.mem_append.2 (.inr hp))) (.inr (keys_mem hp))
        · obtain ⟨ρ1, rfl, hs1, g1, l1⟩ := hr
          have l2 : Ltr ρ n fz H' ρ1 n2 H1' := ⟨l1.agree, l1.le, fun p hp hf => l1.keep p hp (.inl hf)⟩
          have hwr : ∀ i, n0 ≤ i → lo i = true → and (lo i) (or (cons i) (Nat.ble n0 i)) = true := fun i hi hl => by
            rw [hl, show Nat.ble n0 i = true from Nat.ble_eq_true_of_le hi, Bool.or_true]; rfl
          have g3 : Good ρ1 n2 lo fz H2 H1' := by
            refine ⟨g1.mem, g1.inj, g1.nodup, fun i hi hl hz => ?_, fun i hi => c.g.nw i (by have := l1.le; omega), fun k hk => g1.fzk k (.inl hk)⟩
            by_cases hin : i < n
            · rw [l1.agree i hin] at hz; exact c.g.fz i hin hl hz
            · exact g1.fz i hi (hwr i (by omega) hl) (.inl hz)
          have hout : Out ρ n lo fz H' v H2 n2 (ren ρ1 v) H1' := ⟨ρ1, rfl, hs1, g3, l2⟩
          obtain ⟨ρ2, c1, l3⟩ := c.next hout o.dst
          have hndB : B.Nodup := by
            have : ((G ++ B).map (fun p : Nat × Blk => p.1)).Nodup := (List.Perm.nodup_iff (List.Perm.map (fun p : Nat × Blk => p.1) hG)).1 c.g.nodup
            rw [List.map_append] at this
            exact nodup_of_keys (List.nodup_append.1 this).2.1
          have c2 : Cfg ρ1 n2 lo fz (putC o.dst v T) H2 (put o.dst (ren ρ1 v) T') H1' := ⟨(c.r.later c.s l1.agree).put o.dst v, (c.s.mono l1.le).put o.dst hs1, g3⟩
          refine k _ _ _ c2 l2 (fun i hi => (l1.agree i (by omega)).trans (hag i hi)) (by have := l1.le; omega) fun _ => ⟨perm_of_sub hndB fun p hp => l1.keep p (hG.mem_iff.2 (List.mem_append.2 (.inr hp))) (.inr (keys_mem hp)), fun i h0 h1 hz => ?_⟩
          by_cases hin : i < n
          · rw [l1.agree i hin] at hz; exact hfr i h0 hin hz
          · exact g1.fz i h1 (hwr i h0 (c.g.nw i (by omega))) (.inr hz)
      · cases h
    · cases h
  rename_i hhv
  split at h
  · -- early
    rename_i hearly
    simp only [Bool.and_eq_true, Bool.not_eq_true'] at hearly
    have hcls := Nat.eq_of_beq_eq_true hearly.1
    unfold earlyStep at h
    split at h
    · rename_i d hdst hsc _
      have hsT : EnvS n0 (restrC T (o.looksAt ops.toArray)) := fun t x hx => by
        obtain ⟨k1, k2⟩ := restrC_get hx
        exact scopeT_ok hsc t x k2 k1
      have cb : Cfg ρ0 n0 lo fz (restrC T (o.looksAt ops.toArray)) H0 (restr T' (o.looksAt ops.toArray)) B :=
        ⟨fun t x hx => by rw [ren_congr (fun i hi => (hag i hi).symm) x (hsT t x hx)]; exact cr.r t x hx, hsT, g0⟩
      split at h
      · split at h
        · rename_i v2 he
          split at h
          · rename_i hs
            cases h
            obtain ⟨kv, _, k⟩ := k
            have hef := eEffX_ok (N := N) hL cb.r cb.g hd he
            have e2 : ren ρ v2 = ren ρ0 v2 := ren_congr hag v2 hs
            have c1 : Cfg ρ n lo fz (putC (some d) v2 T) H (put o.dst (ren ρ0 v2) T') H' := ⟨by rw [← e2, hdst]; exact c.r.put (some d) v2, c.s.put _ (scope_mono hn0 v2 hs), c.g⟩
            exact ⟨hd, .inr (.inr (.inr (.inr (.inl ⟨⟨hcls, hun, (hcl rfl).1⟩, hw, ren ρ0 v2, by rw [hdst, Option.map_some, kv d v2 rfl], hef [] [] _ (AOps.nil (Qn_n ⟨rfl, rfl⟩)), k _ _ _ c1 (Ltr.refl ..) hag hn0 hcl⟩))))⟩
          · cases h
        · cases h
      · split at h
        · rename_i v H2 n2 ho
          split at h
          · rename_i v2 hdp
            split at h
            · rename_i hs
              cases h
              obtain ⟨kv, _, k⟩ := k
              have e2 : ren ρ v2 = ren ρ0 v2 := ren_congr hag v2 hs
              have c1 : Cfg ρ n lo fz (putC (some d) v2 T) H (put o.dst (ren ρ0 v2) T') H' := ⟨by rw [← e2, hdst]; exact c.r.put (some d) v2, c.s.put _ (scope_mono hn0 v2 hs), c.g⟩
              have hq := evOp_quiet (N := N) hL hE hc cb hd ho hdp hs
              exact ⟨hd, .inr (.inr (.inr (.inr (.inl ⟨⟨hcls, hun, (hcl rfl).1⟩, hw, ren ρ0 v2, by rw [hdst, Option.map_some, kv d v2 rfl], hq, k _ _ _ c1 (Ltr.refl ..) hag hn0 hcl⟩))))⟩
            · cases h
          · cases h
        · cases h
    · cases h
  rename_i hearly
  have hlate : clsH hv o = 1 → late o = true := fun e => by
    rw [e] at hearly
    simpa using hearly
  unfold lateStep at h
  split at h
  · rename_i v hv
    split at h
    · rename_i hs hee
      cases h
      obtain ⟨_, _, k⟩ := k
      have c1 : Cfg ρ n lo fz (putC o.dst v T) H (put o.dst (ren ρ v) T') H' := ⟨c.r.put o.dst v, c.s.put o.dst hs, c.g⟩
      exact ⟨hd, .inl ⟨⟨hlate, hee, hun⟩, hw, _, sOpX_of (sOpC_ok cr.r hv), k _ _ _ c1 (Ltr.refl ..) hag hn0 hcl⟩⟩
    · cases h
  split at h
  · rename_i v hv
    split at h
    · rename_i hs hee
      cases h
      obtain ⟨_, _, k⟩ := k
      have c1 : Cfg ρ n lo fz (putC o.dst v T) H (put o.dst (ren ρ v) T') H' := ⟨c.r.put o.dst v, c.s.put o.dst hs, c.g⟩
      exact ⟨hd, .inl ⟨⟨hlate, hee, hun⟩, hw, _, eqC_ok cr.r hv, k _ _ _ c1 (Ltr.refl ..) hag hn0 hcl⟩⟩
    · cases h
  split at h
  · rename_i hcv
    unfold callStep at h
    split at h
    · rename_i v H2 n2 ho
      split at h
      · rename_i v2 hdp
        split at h
        · rename_i hs
          cases h
          obtain ⟨_, _, k⟩ := k
          have c1 : Cfg ρ n lo fz (putC o.dst v2 T) H (put o.dst (ren ρ v2) T') H' := ⟨c.r.put o.dst v2, c.s.put o.dst hs, c.g⟩
          have hop : ∃ cc args ats, o.op = .call { callee := .value cc, args := args, argTypes := ats } := by
            unfold isCallV at hcv
            split at hcv
            · rename_i hq; exact ⟨_, _, _, hq⟩
            · cases hcv
          obtain ⟨cc, args, ats, hop⟩ := hop
          have hcl1 : clsH hv o = 1 := by simp only [clsH, hhv, cls, hop]
          have hnw : isEE o = false := by simp only [isEE, isNew, isApp, isSt, hop, Bool.or_false]
          exact ⟨hd, .inr (.inr (.inl ⟨⟨by rw [hcl1]; simp, hlate, (fun e => by rw [hnw] at e; cases e), hun⟩, hw, _, evOp_quiet (N := N) hL hE hc cr hd ho hdp hs, k _ _ _ c1 (Ltr.refl ..) hag hn0 hcl⟩))⟩
        · cases h
      · cases h
    · cases h
  split at h
  · rename_i e5 he
    have hef := eEffX_ok (N := N) hL cr.r c.g hd he
    unfold effStep at h
    split at h
    · rename_i hel
      have hel' : isEE o = true → late o = true := fun e => by rw [e] at hel; simpa using hel
      split at h
      · rename_i v
        split at h
        · rename_i hs hcl0
          cases h
          obtain ⟨_, _, k⟩ := k
          have c1 : Cfg ρ n lo fz (putC o.dst v T) H (put o.dst (ren ρ v) T') H' := ⟨c.r.put o.dst v, c.s.put o.dst hs, c.g⟩
          exact ⟨hd, .inr (.inr (.inl ⟨⟨(fun e => by rw [e] at hcl0; cases hcl0), hlate, hel', hun⟩, hw, _, hef [] [] _ (AOps.nil (Qn_n ⟨rfl, rfl⟩)), k _ _ _ c1 (Ltr.refl ..) hag hn0 hcl⟩))⟩
        · cases h
      · rename_i hnp
        split at h
        · rename_i hc2
          split at h
          · rename_i v H2 n2 ha
            cases h
            obtain ⟨_, _, k⟩ := k
            refine ⟨hd, .inr (.inr (.inr (.inl ⟨⟨Nat.eq_of_beq_eq_true hc2, hun⟩, hw, Out ρ n lo fz H' v H2 n2, ⟨fun _ => eApply_neR hef c.g ha, eApply_ok hef c.g ha fun r H1' hr => AOps.nil (Qn_n hr), fun hi hl => ?_⟩, fun r H1' hr => ?_⟩)))⟩
            · rw [hhv, Bool.or_false] at hi; have := hel' hi; rw [hl] at this; cases this
            · obtain ⟨ρ1, c1, l1⟩ := c.next hr o.dst
              exact k _ _ _ c1 l1 (fun i hi => (l1.agree i (by omega)).trans (hag i hi)) (by have := l1.le; omega) (fun e => by cases e)
          · cases h
        · cases h
    · rename_i hel
      split at h
      · rename_i m b hc2 _
        split at h
        · rename_i hsb
          cases h
          obtain ⟨_, _, k⟩ := k
          obtain ⟨⟨G, hG⟩, hfr⟩ := hcl rfl
          have hsub : ∀ k, k ∈ keys B → k ∈ keys H' := fun k hk => (hG.map (·.1)).mem_iff.2 (by simp only [keys, List.map_append, List.mem_append]; exact .inr hk)
          refine ⟨hd, .inr (.inr (.inr (.inl ⟨⟨Nat.eq_of_beq_eq_true hc2, hun⟩, hw, fun r H1' => ∃ r0, r0 ∉ keys H' ∧ r = m.on r0 ∧ H1' = (r0, renB ρ b) :: H', ⟨?_, hef [] [] _ fun r0 hr0 => AOps.nil (Qn_n ⟨r0, hr0, rfl, rfl⟩), fun _ _ => ⟨⟨G, hG⟩, ?_⟩⟩, ?_⟩)))⟩
          · intro _ l
            obtain ⟨r0, hr0⟩ := fresh (l ++ keys H')
            have hr1 : r0 ∉ l := fun e => hr0 (List.mem_append.2 (.inl e))
            have hr2 : r0 ∉ keys H' := fun e => hr0 (List.mem_append.2 (.inr e))
            refine ⟨_, _, ⟨r0, hr2, rfl, rfl⟩, List.nodup_cons.2 ⟨hr2, c.g.nodup⟩, fun k hk hkl => ?_⟩
            rcases List.mem_cons.1 hk with e | e
            · have e1 : k = _ := e
              simp only at e1
              rw [e1] at hkl; exact absurd hkl hr1
            · exact e
          · rintro r H1' ⟨r0, hr0, rfl, rfl⟩
            exact ⟨(r0, renB ρ b) :: G, hG.cons _⟩
          · rintro r H1' ⟨r0, hr0, rfl, rfl⟩
            have c1 : Cfg (upd ρ n r0) (n + 1) lo fz (putC o.dst (m.on n) T) (Tre.set 40 H n (some b)) (put o.dst (m.on r0) T') ((r0, renB ρ b) :: H') := by
              refine ⟨?_, (c.s.mono (Nat.le_succ n)).put _ (m.scope n), c.g.new hr0 hsb⟩
              have := (c.r.later c.s (fun i hi => (upd_lt hi : upd ρ n r0 i = ρ i))).put o.dst (m.on n)
              rw [Mk.ren, upd_at] at this
              exact this
            refine k _ _ _ c1 ⟨fun i hi => upd_lt hi, Nat.le_succ _, fun p hp _ => List.mem_cons_of_mem _ hp⟩ (fun i hi => (upd_lt (by omega)).trans (hag i hi)) (by omega) (fun _ => ⟨⟨(r0, renB ρ b) :: G, hG.cons _⟩, fun i h0 h1 => ?_⟩)
            by_cases hi : i = n
            · subst hi; rw [upd_at]; exact fun e => hr0 (hsub _ e)
            · rw [upd_lt (by omega)]; exact hfr i h0 (by omega)
        · cases h
      · rename_i v hc2 _
        split at h
        · rename_i hs
          cases h
          obtain ⟨_, _, k⟩ := k
          obtain ⟨⟨G, hG⟩, hfr⟩ := hcl rfl
          have c1 : Cfg ρ n lo fz (putC o.dst v T) H (put o.dst (ren ρ v) T') H' := ⟨c.r.put o.dst v, c.s.put o.dst hs, c.g⟩
          refine ⟨hd, .inr (.inr (.inr (.inl ⟨⟨Nat.eq_of_beq_eq_true hc2, hun⟩, hw, fun r H1' => r = ren ρ v ∧ H1' = H', ⟨fun _ l => ⟨_, _, ⟨rfl, rfl⟩, c.g.nodup, fun k hk _ => hk⟩, hef [] [] _ (AOps.nil (Qn_n ⟨rfl, rfl⟩)), fun _ _ => ⟨⟨G, hG⟩, ?_⟩⟩, ?_⟩)))⟩
          · rintro r H1' ⟨rfl, rfl⟩; exact ⟨G, hG⟩
          · rintro r H1' ⟨rfl, rfl⟩
            exact k _ _ _ c1 (Ltr.refl ..) hag hn0 (fun _ => ⟨⟨G, hG⟩, hfr⟩)
        · cases h
      · rename_i m i b' hc2 _
        split at h
        · rename_i hsb hlo hco
          cases h
          obtain ⟨_, _, k⟩ := k
          obtain ⟨⟨G, hG⟩, hfr⟩ := hcl rfl
          obtain ⟨b, Hr, hi, hp, hef⟩ := hef
          have hib : ρ i ∉ keys B := by
            rcases Bool.or_eq_true _ _ |>.mp hco with hq | hq
            · obtain ⟨k1, k2⟩ := hcons i hlo hq
              rw [hag i k1]; exact k2
            · exact hfr i (Nat.le_of_ble_eq_true hq) (c.g.mem _ _ hi).1
          obtain ⟨Gr, hGr⟩ := keep_base c.g.nodup hG hp hib
          have hsub : ∀ k, k ∈ keys B → k ∈ keys Hr := fun k hk => (hGr.map (·.1)).mem_iff.2 (by simp only [keys, List.map_append, List.mem_append]; exact .inr hk)
          have hlo' := hlo
          refine ⟨hd, .inr (.inr (.inr (.inl ⟨⟨Nat.eq_of_beq_eq_true hc2, hun⟩, hw, fun r H1' => ∃ r0, r0 ∉ keys Hr ∧ r = m.on r0 ∧ H1' = (r0, renB ρ b') :: Hr, ⟨?_, hef [] [] _ fun r0 hr0 => AOps.nil (Qn_n ⟨r0, hr0, rfl, rfl⟩), fun _ _ => ⟨⟨G, hG⟩, ?_⟩⟩, ?_⟩)))⟩
          · intro _ l
            obtain ⟨r0, hr0⟩ := fresh (l ++ keys Hr)
            have hr1 : r0 ∉ l := fun e => hr0 (List.mem_append.2 (.inl e))
            have hr2 : r0 ∉ keys Hr := fun e => hr0 (List.mem_append.2 (.inr e))
            have hnd : (keys ((ρ i, renB ρ b) :: Hr)).Nodup := (hp.map _).nodup_iff.1 c.g.nodup
            refine ⟨_, _, ⟨r0, hr2, rfl, rfl⟩, List.nodup_cons.2 ⟨hr2, (List.nodup_cons.1 hnd).2⟩, fun k hk hkl => ?_⟩
            rcases List.mem_cons.1 hk with e | e
            · have e1 : k = _ := e
              simp only at e1
              rw [e1] at hkl; exact absurd hkl hr1
            · exact (hp.map (·.1)).mem_iff.2 (List.mem_cons_of_mem _ e)
          · rintro r H1' ⟨r0, hr0, rfl, rfl⟩
            exact ⟨(r0, renB ρ b') :: Gr, hGr.cons _⟩
          · rintro r H1' ⟨r0, hr0, rfl, rfl⟩
            have gs := c.g.swap hi hlo' hsb hp hr0
            have c1 : Cfg (upd ρ n r0) (n + 1) lo fz (putC o.dst (m.on n) T) (Tre.set 40 (Tre.set 40 H i none) n (some b')) (put o.dst (m.on r0) T') ((r0, renB ρ b') :: Hr) := by
              refine ⟨?_, (c.s.mono (Nat.le_succ n)).put _ (m.scope n), gs⟩
              have := (c.r.later c.s (fun i hi => (upd_lt hi : upd ρ n r0 i = ρ i))).put o.dst (m.on n)
              rw [Mk.ren, upd_at] at this
              exact this
            refine k _ _ _ c1 ⟨fun i hi => upd_lt hi, Nat.le_succ _, fun p hp' hf => by
              rcases List.mem_cons.1 (hp.mem_iff.1 hp') with e | e
              · rw [e] at hf; exact absurd hf (c.g.fz i (c.g.mem _ _ hi).1 hlo')
              · exact List.mem_cons_of_mem _ e⟩ (fun i hi => (upd_lt (by omega)).trans (hag i hi)) (by omega) (fun _ => ⟨⟨(r0, renB ρ b') :: Gr, hGr.cons _⟩, fun j h0 h1 => ?_⟩)
            by_cases hi : j = n
            · subst hi; rw [upd_at]; exact fun e => hr0 (hsub _ e)
            · rw [upd_lt (by omega)]; exact hfr j h0 (by omega)
        · cases h
      · rename_i v i b' hc2 _
        split at h
        · rename_i hsb hsv hco
          have hco := (Bool.and_eq_true _ _).mp hco
          cases h
          obtain ⟨_, _, k⟩ := k
          obtain ⟨⟨G, hG⟩, hfr⟩ := hcl rfl
          obtain ⟨b, hi, hef⟩ := hef
          have hib : ρ i ∉ keys B := by
            rcases Bool.or_eq_true _ _ |>.mp hco.2 with hq | hq
            · obtain ⟨k1, k2⟩ := hcons i hco.1 hq
              rw [hag i k1]; exact k2
            · exact hfr i (Nat.le_of_ble_eq_true hq) (c.g.mem _ _ hi).1
          have pres : ∀ H'', At H' (ρ i) (renB ρ b) (renB ρ b') H'' → ∃ G', H''.Perm (G' ++ B) := by
            intro H'' hat
            have hndB : B.Nodup := by
              have : ((G ++ B).map (fun p : Nat × Blk => p.1)).Nodup := (List.Perm.nodup_iff (List.Perm.map (fun p : Nat × Blk => p.1) hG)).1 c.g.nodup
              rw [List.map_append] at this
              exact nodup_of_keys (List.nodup_append.1 this).2.1
            exact perm_of_sub hndB fun p hp => hat.other (hG.mem_iff.2 (List.mem_append.2 (.inr hp))) fun e => hib (by rw [← e]; exact keys_mem hp)
          refine ⟨hd, .inr (.inr (.inr (.inl ⟨⟨Nat.eq_of_beq_eq_true hc2, hun⟩, hw, fun r H1' => r = ren ρ v ∧ At H' (ρ i) (renB ρ b) (renB ρ b') H1', ⟨?_, ?_, fun _ _ => ⟨⟨G, hG⟩, ?_⟩⟩, ?_⟩)))⟩
          · intro _ l
            obtain ⟨H'', hat⟩ := At.of_mem (renB ρ b') (c.g.mem _ _ hi).2.2
            exact ⟨_, H'', ⟨rfl, hat⟩, (c.g.write hi hsb hat).nodup, fun k hk _ => by rw [hat.keys] at hk; exact hk⟩
          · obtain ⟨H'', hat⟩ := At.of_mem (renB ρ b') (c.g.mem _ _ hi).2.2
            exact hef [] [] _ H'' hat (AOps.nil (Qn_n ⟨rfl, hat⟩))
          · rintro r H1' ⟨rfl, hat⟩; exact pres H1' hat
          · rintro r H1' ⟨rfl, hat⟩
            have gw := c.g.write hi hsb hat
            have c1 : Cfg ρ n lo fz (putC o.dst v T) (Tre.set 40 H i (some b')) (put o.dst (ren ρ v) T') H1' := ⟨c.r.put o.dst v, c.s.put o.dst hsv, gw⟩
            exact k _ _ _ c1 ⟨fun _ _ => rfl, Nat.le_refl _, fun p hp hf => hat.other hp fun e => by rw [e] at hf; exact c.g.fz i (c.g.mem _ _ hi).1 hco.1 hf⟩ hag hn0 (fun _ => ⟨pres H1' hat, hfr⟩)
        · cases h
      · cases h
  · cases h
theorem evPlan_ok (hL : LayOk P L) (hE : ExtOk P E) (hc : CallOk P call) {late uni hv : Oper → Bool} {ops : List Oper} {cons : Nat → Bool} {Q : Exit → Env → Heap → Prop} {e : Exit} {T1 : Tre A} {H1 : Tre Blk} {n1 : Nat} {ρ0 : Nat → Nat} {n0 : Nat} {H0 : Tre Blk} {B : Heap} (g0 : Good ρ0 n0 lo fz H0 B) (hcons : ∀ i, lo i = true → cons i = true → i < n0 ∧ ρ0 i ∉ keys B) :
    ∀ (rest : List Oper) {cl : Bool} {ρ : Nat → Nat} {n : Nat} {T : Tre A} {H : Tre Blk} {T' : Env} {H' : Heap} {V : Env} {W : List (Nat × (Mk × Blk))},
    Cfg ρ n lo fz T H T' H' → (∀ i, i < n0 → ρ i = ρ0 i) → n0 ≤ n → (cl = true → (∃ G, H'.Perm (G ++ B)) ∧ ∀ i, n0 ≤ i → i < n → ρ i ∉ keys B) → evPlan P E N.n L call lo late uni hv ops cons H0 n0 rest cl T H n = some (e, T1, H1, n1, V, W) →
    (∀ ρ1 T1' H1', Cfg ρ1 n1 lo fz T1 H1 T1' H1' → Ltr ρ n fz H' ρ1 n1 H1' → Q e T1' H1') → ∀ (bv : Nat → A) (nv : Nat → (Nat → A) × Blk), (∀ d x, get V d = some x → bv d = ren ρ0 x) → (∀ d m b, getW W d = some (m, b) → nv d = (m.on, renB ρ0 b)) → Plan2 P N L ops.toArray late uni hv bv nv B Q rest T' H'
  | [], cl, ρ, n, T, H, T', H', V, W, c, hag, hn0, hcl, h, k, bv, nv, hbv, hnv => by
    simp only [evPlan] at h
    cases h
    exact ⟨T', H', fun _ _ h => h, List.Perm.refl _, k _ _ _ c (Ltr.refl ..)⟩
  | o :: rest, cl, ρ, n, T, H, T', H', V, W, c, hag, hn0, hcl, h, k, bv, nv, hbv, hnv => by
    simp only [evPlan] at h
    split at h
    · cases h
    · rename_i e' hst
      cases h
      exact evStep_ok hL hE hc g0 hcons c hag hn0 hcl hst (k _ _ _ c (Ltr.refl ..))
    · rename_i cl1 T2 H2 n2 v w hst
      split at h
      · cases h
      · rename_i e' T3 H3 n3 V3 W3 hrest
        split at h
        · rename_i V4 W4 hV hW
          cases h
          obtain ⟨hV1, hV2⟩ := addV_ok hV
          obtain ⟨hW1, hW2⟩ := addW_ok hW
          refine evStep_ok hL hE hc g0 hcons c hag hn0 hcl hst ⟨fun d x hx => hbv d x (hV2 d x hx), fun d m b hx => hnv d m b (hW2 d _ hx), fun ρ1 T1' H1' c1 l1 ha1 hn1 hc1 => ?_⟩
          exact evPlan_ok hL hE hc g0 hcons rest c1 ha1 hn1 hc1 hrest (fun ρ2 T2' H2' c2 l2 => k _ _ _ c2 (l1.trans l2)) bv nv (fun d x hx => hbv d x (hV1 d x hx)) (fun d m b hx => hnv d m b (hW1 d _ hx))
        · cases h
end
end Go.Abs

namespace Go.Abs
open Go
set_option linter.unusedVariables false
set_option linter.unusedSimpArgs false
section
variable {P : Program} {E : Exts} {N : NN} {L : Lay} {call : CallC} {lo : Nat → Bool} {fuel : Nat} {fz : Nat → Prop}
theorem evLoop_ok {c : Code} {Q : Exit → Env → Heap → Prop} {e : Exit} {T1 : Tre A} {H1 : Tre Blk} {n1 : Nat} {step : Tre A → Tre Blk → Nat → Res}
    (hs : ∀ {Q : Exit → Env → Heap → Prop} {ρ : Nat → Nat} {n : Nat} {T : Tre A} {H : Tre Blk} {T' : Env} {H' : Heap} {e : Exit} {T1 : Tre A} {H1 : Tre Blk} {n1 : Nat}, Cfg ρ n lo fz T H T' H' → step T H n = some (e, T1, H1, n1) →
      (∀ ρ1 T1' H1', Cfg ρ1 n1 lo fz T1 H1 T1' H1' → Ltr ρ n fz H' ρ1 n1 H1' → Q e T1' H1') → AWp P N c Q T' H') :
    ∀ (f : Nat) {ρ : Nat → Nat} {n : Nat} {T : Tre A} {H : Tre Blk} {T' : Env} {H' : Heap}, Cfg ρ n lo fz T H T' H' → evLoop step f T H n = some (e, T1, H1, n1) →
    (∀ ρ1 T1' H1', Cfg ρ1 n1 lo fz T1 H1 T1' H1' → Ltr ρ n fz H' ρ1 n1 H1' → Q e T1' H1') → AWp P N c (seqQ (AIn P N c Q) Q) T' H'
  | 0, ρ, n, T, H, T', H', cf, h, k => by simp [evLoop] at h
  | f + 1, ρ, n, T, H, T', H', cf, h, k => by
    simp only [evLoop] at h
    split at h
    · rename_i T2 H2 n2 hst
      refine hs cf hst fun ρ1 T1' H1' c1 l1 => seqQ_n ?_
      exact AIn.round (evLoop_ok hs f c1 h fun ρ2 T2' H2' c2 l2 => k _ _ _ c2 (l1.trans l2))
    · rename_i hne
      refine hs cf h fun ρ1 T1' H1' c1 l1 => ?_
      have hq := k ρ1 T1' H1' c1 l1
      cases e with
      | normal => exact absurd h (hne T1 H1 n1)
      | _ => exact hq
theorem argsC_ok {ρ : Nat → Nat} : ∀ {l : List A} {i t : Nat} {x : A}, (argsC i l).get t = some x → get (argEnv i (renL ρ l)) t = some (ren ρ x)
  | [], i, t, x, h => by simp [argsC, Tre.get] at h
  | a :: l, i, t, x, h => by
    simp only [argsC] at h
    simp only [renL, argEnv, get_put]
    rcases Tre.get_set _ _ _ _ _ _ h with ⟨h1, h2⟩ | ⟨h1, h2⟩
    · cases h2; rw [if_pos h1.symm]
    · rw [if_neg (fun e => h1 e.symm)]; exact argsC_ok h2
theorem argsC_scope {n : Nat} : ∀ {l : List A} {i t : Nat} {x : A}, scopeL n l = true → (argsC i l).get t = some x → scope n x = true
  | [], i, t, x, _, h => by simp [argsC, Tre.get] at h
  | a :: l, i, t, x, s, h => by
    simp only [argsC] at h
    simp only [scopeL, Bool.and_eq_true] at s
    rcases Tre.get_set _ _ _ _ _ _ h with ⟨h1, h2⟩ | ⟨h1, h2⟩
    · cases h2; exact s.1
    · exact argsC_scope s.2 h2
def resOne (tmps : Array Value) : ResultVar → Sem Value
  | .tmp t => Pure.pure (tmps.getD t undef)
  | .cell a t => do loadVar t (← asAddr (tmps.getD a undef))
theorem resV_ok (hL : LayOk P L) {ρ : Nat → Nat} {n : Nat} {T : Tre A} {H : Tre Blk} {T' : Env} {H' : Heap} (c : Cfg ρ n lo fz T H T' H') {rv : ResultVar} {v : A} (h : resV L T H rv = some v) {fr : Nat → Prop} {w : World} {a : Act} (s : Sim fr H' w) (st : St N w (own fr H') T' a) :
    ∃ u, (resOne a.tmps rv).run P w = .ok u w ∧ Rep w (own fr H') (ren ρ v) u := by
  unfold resV at h
  split at h
  · rename_i t
    exact ⟨_, by simp only [resOne, Sem.run_pure], getD_of_get st (c.r _ _ h)⟩
  · rename_i t ty
    split at h
    · rename_i h1
      have h1 := c.r _ _ h1
      simp only [ren] at h1
      split at h
      · rename_i hrow
        have hm := (c.g.mem _ _ hrow).2.2
        simp only [renB] at hm
        split at h
        · rename_i hsz
          have hsz := Nat.eq_of_beq_eq_true hsz
          subst hsz
          split at h
          · rename_i he
            split at h
            · rename_i ti ht
              have hu := getD_of_get st h1
              generalize h1' : a.tmps.getD t undef = u at hu
              cases hu
              obtain ⟨vs, h2, h3, _, _⟩ := s.elem hm (by rw [renLL_get, he]; rfl)
              obtain ⟨z, hz, hr⟩ := loadVar_run (hL _ _ ht) h2 (h3.drop _) (by rw [ren_loadA, h]; rfl)
              rw [add_plain] at hz
              refine ⟨z, ?_, hr⟩
              simp only [resOne, h1', asAddr, Sem.run_bind, Sem.run_pure, Result.andThen_ok, hz]
            · cases h
          · cases h
        · cases h
      · cases h
    · cases h
theorem resC_ok (hL : LayOk P L) {fn : Func} {ρ : Nat → Nat} {n : Nat} {T : Tre A} {H : Tre Blk} {T' : Env} {H' : Heap} (c : Cfg ρ n lo fz T H T' H') {v : A} (h : resC L T H fn.results.toList = some v) : ResOk P fn N T' H' (ren ρ v) := by
  intro fr w a s st
  have hdef : results fn a.tmps = (do
    let vs ← fn.results.mapM (resOne a.tmps)
    Pure.pure (if h : vs.size = 1 then vs[0] else .tuple vs)) := by
    unfold results
    congr 2
  rw [hdef]
  unfold resC at h
  split at h
  · rename_i hr
    cases h
    have hr : fn.results = #[] := Array.toList_inj.1 (by simpa using hr)
    exact ⟨.tuple #[], by simp [hr], Rep.tup_of .nil⟩
  · rename_i x hr
    have hr : fn.results = #[x] := Array.toList_inj.1 (by simpa using hr)
    obtain ⟨u, h1, h2⟩ := resV_ok (N := N) hL c h s st
    exact ⟨u, by simp [hr, h1], h2⟩
  · rename_i x y hr
    have hr : fn.results = #[x, y] := Array.toList_inj.1 (by simpa using hr)
    split at h
    · rename_i hx hy
      cases h
      obtain ⟨u1, h1, r1⟩ := resV_ok (N := N) hL c hx s st
      obtain ⟨u2, h2, r2⟩ := resV_ok (N := N) hL c hy s st
      exact ⟨.tuple #[u1, u2], by simp [hr, h1, h2], by simp only [ren, renL]; exact Rep.tup_of (.cons r1 (.cons r2 .nil))⟩
    · cases h
  · rename_i x y z hr
    have hr : fn.results = #[x, y, z] := Array.toList_inj.1 (by simpa using hr)
    split at h
    · rename_i hx hy hz
      cases h
      obtain ⟨u1, h1, r1⟩ := resV_ok (N := N) hL c hx s st
      obtain ⟨u2, h2, r2⟩ := resV_ok (N := N) hL c hy s st
      obtain ⟨u3, h3, r3⟩ := resV_ok (N := N) hL c hz s st
      exact ⟨.tuple #[u1, u2, u3], by simp [hr, h1, h2, h3], by simp only [ren, renL]; exact Rep.tup_of (.cons r1 (.cons r2 (.cons r3 .nil)))⟩
    · cases h
  · rename_i x y z q hr
    have hr : fn.results = #[x, y, z, q] := Array.toList_inj.1 (by simpa using hr)
    split at h
    · rename_i hx hy hz hq
      cases h
      obtain ⟨u1, h1, r1⟩ := resV_ok (N := N) hL c hx s st
      obtain ⟨u2, h2, r2⟩ := resV_ok (N := N) hL c hy s st
      obtain ⟨u3, h3, r3⟩ := resV_ok (N := N) hL c hz s st
      obtain ⟨u4, h4, r4⟩ := resV_ok (N := N) hL c hq s st
      exact ⟨.tuple #[u1, u2, u3, u4], by simp [hr, h1, h2, h3, h4], by simp only [ren, renL]; exact Rep.tup_of (.cons r1 (.cons r2 (.cons r3 (.cons r4 .nil))))⟩
    · cases h
  · cases h
end
end Go.Abs

namespace Go.Abs
open Go
set_option linter.unusedVariables false
set_option linter.unusedSimpArgs false
/-! Calls that may panic. -/
inductive Fin where
  | ret (v : A)
  | pan (u : Value)
def FinOk (w : World) (o : Nat → Prop) : Fin → Ending → Prop
  | .ret r, e => ∃ v, e = .returned v ∧ Rep w o r v
  | .pan u, e => e = .panicked [{ v := u, recovered := false }]
structure TrF (P : Program) (f : FuncId) (args : List A) (H : Heap) (R : Fin → Heap → Prop) : Prop where
  can : Callable P f
  run : ∀ (fr : Nat → Prop) (w : World) (vs : List Value), Sim fr H w → RepL w (own fr H) args vs →
    Calls P f vs.toArray w fun e w' => ∃ x H', R x H' ∧ FinOk w' (own fr H') x e ∧ Sim fr H' w' ∧ Ext H w H' w'
section
variable {P : Program} {N : NN} {Q : Exit → Env → Heap → Prop} {T : Env} {H : Heap}
theorem TrF.mono {f : FuncId} {args : List A} {R R' : Fin → Heap → Prop} (h : TrF P f args H R) (hr : ∀ x H', R x H' → R' x H') : TrF P f args H R' :=
  ⟨h.can, fun fr w vs s a => (h.run fr w vs s a).mono fun _ _ ⟨x, H', hR, rest⟩ => ⟨x, H', hr _ _ hR, rest⟩⟩
theorem Tr.toF {f : FuncId} {args : List A} {R : A → Heap → Prop} (h : Tr P f args H R) : TrF P f args H fun x H' => ∃ r, x = .ret r ∧ R r H' :=
  ⟨h.can, fun fr w vs s a => (h.run fr w vs s a).mono fun _ _ ⟨r, H', v, he, hR, s', hv, x⟩ => ⟨.ret r, H', ⟨r, rfl, hR⟩, ⟨v, he, hv⟩, s', x⟩⟩
theorem TrF.toTr {f : FuncId} {args : List A} {R : A → Heap → Prop} (h : TrF P f args H fun x H' => ∃ r, x = .ret r ∧ R r H') : Tr P f args H R :=
  ⟨h.can, fun fr w vs s a => (h.run fr w vs s a).mono fun _ _ ⟨x, H', ⟨r, hx, hR⟩, hf, s', xx⟩ => by
    subst hx
    obtain ⟨v, he, hv⟩ := hf
    exact ⟨r, H', v, he, hR, s', hv, xx⟩⟩
theorem TrF.frame {f : FuncId} {args : List A} {R : Fin → Heap → Prop} (F : Heap) (h : TrF P f args H R) : TrF P f args (H ++ F) fun r H' => ∃ H0, R r H0 ∧ H' = H0 ++ F := by
  refine ⟨h.can, fun fr w vs s as => ?_⟩
  rw [own_app] at as
  refine (h.run _ w vs s.split as).mono ?_
  rintro e w' ⟨x, H', hR, hf, s', xx⟩
  refine ⟨x, H' ++ F, ⟨H', hR, rfl⟩, ?_, s.join s' xx, xx.frame⟩
  rw [own_app]; exact hf
theorem AOp.callF {ops rest : List Oper} {dst : Option Nat} {callee : Operand} {args : List Operand} {ats : Array TypeId} {ty : TypeId} {pos : String} {after : Array Edge} {guard : Option (Nat × Bool)}
    {f : FuncId} {first cap as : List A} {Hc F : Heap} {R : Fin → Heap → Prop} (hf : ev T callee = some (.fn f first cap)) (ha : evs T args = some as) (hd : dstOk N dst = true)
    (hH : H.Perm (Hc ++ F)) (ht : TrF P f (first ++ as ++ cap) Hc R) (k : ∀ r H', R (.ret r) H' → AOps P N ops rest Q (put dst r T) (H' ++ F))
    (kp : ∀ u H', R (.pan u) H' → Q (.panic [{ v := u, recovered := false }]) T (H' ++ F)) :
    AOp P N ops { dst := dst, op := .call { callee := .value callee, args := args.toArray, argTypes := ats }, type := ty, pos := pos, after := after, guard := guard } rest Q T H := by
  refine ⟨fun fr w a s st => ?_⟩
  have s1 := s.perm hH
  have e1 : own fr H = own fr (Hc ++ F) := own_perm hH
  rw [e1] at st
  obtain ⟨fs, cs, hv, r1, r2⟩ := (ev_rep st hf).fn_inv
  have r3 := evs_rep st ha
  have hargs := (r1.append r3).append r2
  have hcall := (ht.frame F).run fr w _ s1 hargs
  unfold Oper.wp execOp
  simp only [resolve, Deferred.ofValue, hv, Sem.run_bind, Sem.run_pure, Result.andThen_ok, invoke, run_callFunc ht.can, Oper.upon_enter]
  have e2 : ((fs.toList ++ args.map a.eval) ++ cs.toList).toArray = fs ++ args.toArray.map a.eval ++ cs := by simp
  rw [e2] at hcall
  refine hcall.mono ?_
  rintro e w' ⟨y, H', ⟨H0, hR, rfl⟩, hfin, s', x⟩
  have x' : Ext H w (H0 ++ F) w' := x.perm hH
  cases y with
  | ret r =>
    obtain ⟨v, rfl, hr⟩ := hfin
    exact AOps.ext x' ((k r H0 hR).out fr w' (a.put dst v) s' ((st.mono x.stays).put hd hr))
  | pan u =>
    obtain rfl : e = _ := hfin
    exact ⟨T, H0 ++ F, kp u H0 hR, s', st.mono x.stays, x'⟩
def bodyQF (P : Program) (fn : Func) (N : NN) (R : Fin → Heap → Prop) : Exit → Env → Heap → Prop
  | .ret, T, H | .normal, T, H => ∃ r, ResOk P fn N T H r ∧ R (.ret r) H
  | .panic ch, T, H => ∃ u, ch = [{ v := u, recovered := false }] ∧ R (.pan u) H
  | _, _, _ => False
theorem args_st {N : Nat} {fn : Func} {args : List A} (hN : args.length + (fn.ntmps - args.length) = N) {w : World} {o : Nat → Prop} {vs : List Value} (as : RepL w o args vs) : St ⟨N, [], []⟩ w o (argEnv 0 args) { tmps := vs.toArray ++ Array.replicate (fn.ntmps - vs.toArray.size) undef, defers := [] } := by
  refine ⟨?_, rfl, GOk.nil, fun t x hx => ?_⟩
  · simp [as.length, hN]
  · obtain ⟨_, h2⟩ := get_argEnv args 0 t x hx
    obtain ⟨v, hv, hr⟩ := as.get t x (by simpa using h2)
    refine ⟨v, ?_, hr⟩
    have hlt : t < vs.length := (List.getElem?_eq_some_iff.1 hv).1
    rw [Array.getElem?_append_left (by simpa using hlt)]
    simpa using hv
theorem TrF.of_body {N : Nat} {f : FuncId} {fn : Func} {c : Code} {args : List A} {R : Fin → Heap → Prop} (hf : P.funcs[f]? = some fn) (hb : fn.body = some c) (hn : (fn.name == "runtime.NumGoroutine") = false)
    (hN : args.length + (fn.ntmps - args.length) = N) (h : AWp P ⟨N, [], []⟩ c (bodyQF P fn ⟨N, [], []⟩ R) (argEnv 0 args) H) : TrF P f args H R := by
  refine ⟨⟨fn, hf, by simp [hb], hn⟩, fun fr w vs s as => ?_⟩
  refine calls_of_wp hf hb (wp_mono (h.out fr w _ s (args_st hN as)) ?_)
  rintro e a w' ⟨T', H', q, s', st', x'⟩
  cases e with
  | normal =>
    obtain ⟨r, hr, hR⟩ := q
    obtain ⟨v, h1, h2⟩ := hr fr w' a s' st'
    exact ⟨st'.defers, v, h1, .ret r, H', hR, ⟨v, rfl, h2⟩, s', x'⟩
  | ret =>
    obtain ⟨r, hr, hR⟩ := q
    obtain ⟨v, h1, h2⟩ := hr fr w' a s' st'
    exact ⟨st'.defers, v, h1, .ret r, H', hR, ⟨v, rfl, h2⟩, s', x'⟩
  | panic ch =>
    obtain ⟨u, rfl, hR⟩ := q
    exact ⟨st'.defers, .pan u, H', hR, rfl, s', x'⟩
  | _ => exact q.elim
end
end Go.Abs

namespace Go.Abs
open Go
set_option linter.unusedVariables false
set_option linter.unusedSimpArgs false

/-! Functions that read variables which nobody writes. -/
structure TrG (G : List (Nat × List A)) (P : Program) (f : FuncId) (args : List A) (H : Heap) (R : A → Heap → Prop) : Prop where
  can : Callable P f
  run : ∀ (fr : Nat → Prop) (w : World) (vs : List Value), Sim fr H w → GOk G w (own fr H) → RepL w (own fr H) args vs →
    Calls P f vs.toArray w fun e w' => ∃ r H' v, e = .returned v ∧ R r H' ∧ Sim fr H' w' ∧ Rep w' (own fr H') r v ∧ Ext H w H' w'
section
variable {G : List (Nat × List A)} {P : Program} {f : FuncId} {args : List A} {H : Heap} {R : A → Heap → Prop}
theorem Tr.g (h : Tr P f args H R) : TrG G P f args H R := ⟨h.can, fun fr w vs s _ a => h.run fr w vs s a⟩
theorem TrG.mono {R' : A → Heap → Prop} (h : TrG G P f args H R) (hr : ∀ r H', R r H' → R' r H') : TrG G P f args H R' :=
  ⟨h.can, fun fr w vs s g a => (h.run fr w vs s g a).mono fun _ _ ⟨r, H', v, he, hR, rest⟩ => ⟨r, H', v, he, hr _ _ hR, rest⟩⟩
theorem TrG.frame (F : Heap) (h : TrG G P f args H R) : TrG G P f args (H ++ F) fun r H' => ∃ H0, R r H0 ∧ H' = H0 ++ F := by
  refine ⟨h.can, fun fr w vs s g as => ?_⟩
  rw [own_app] at as g
  refine (h.run _ w vs s.split g as).mono ?_
  rintro e w' ⟨r, H', v, rfl, hR, s', hr, x⟩
  exact ⟨r, H' ++ F, v, rfl, ⟨H', hR, rfl⟩, s.join s' x, by rw [own_app]; exact hr, x.frame⟩
theorem TrG.of_body {N : Nat} {fn : Func} {c : Code} (hf : P.funcs[f]? = some fn) (hb : fn.body = some c) (hn : (fn.name == "runtime.NumGoroutine") = false)
    (hN : args.length + (fn.ntmps - args.length) = N) (h : AWp P ⟨N, [], G⟩ c (bodyQ P fn ⟨N, [], G⟩ R) (argEnv 0 args) H) : TrG G P f args H R := by
  refine ⟨⟨fn, hf, by simp [hb], hn⟩, fun fr w vs s g as => ?_⟩
  have st := args_st hN as
  refine calls_of_wp hf hb (wp_mono (h.out fr w _ s ⟨st.size, st.defers, g, st.at_⟩) ?_)
  rintro e a w' ⟨T', H', q, s', st', x'⟩
  cases e with
  | normal =>
    obtain ⟨r, hr, hR⟩ := q
    obtain ⟨v, h1, h2⟩ := hr fr w' a s' st'
    exact ⟨st'.defers, v, h1, r, H', v, rfl, hR, s', h2, x'⟩
  | ret =>
    obtain ⟨r, hr, hR⟩ := q
    obtain ⟨v, h1, h2⟩ := hr fr w' a s' st'
    exact ⟨st'.defers, v, h1, r, H', v, rfl, hR, s', h2, x'⟩
  | _ => exact q.elim
def PTrG (G : List (Nat × List A)) (P : Program) (f : FuncId) (args : List A) (v : A) : Prop := TrG G P f args [] fun r _ => r = v
theorem PTr.g {v : A} (h : PTr P f args v) : PTrG G P f args v := Tr.g h
theorem PTrG.of_body {N : Nat} {fn : Func} {c : Code} {v : A} (hf : P.funcs[f]? = some fn) (hb : fn.body = some c) (hn : (fn.name == "runtime.NumGoroutine") = false)
    (hN : args.length + (fn.ntmps - args.length) = N) (h : AWp P ⟨N, [], G⟩ c (bodyQ P fn ⟨N, [], G⟩ fun r _ => r = v) (argEnv 0 args) []) : PTrG G P f args v := TrG.of_body hf hb hn hN h
theorem PTrG.sub {args' : List A} {v : A} (h : PTrG G P f args v) (hs : ∀ (w : World) (o : Nat → Prop) (vs : List Value), RepL w o args' vs → RepL w o args vs) : PTrG G P f args' v :=
  ⟨h.can, fun fr w vs s g a => h.run fr w vs s g (hs w _ vs a)⟩
variable {N : NN} {Q : Exit → Env → Heap → Prop} {T : Env} {ops rest : List Oper} {dst : Option Nat} {ty : TypeId} {pos : String} {after : Array Edge} {guard : Option (Nat × Bool)}
theorem AOp.callG {callee : Operand} {l : List Operand} {ats : Array TypeId} {first cap as : List A} {Hc F : Heap} (hf : ev T callee = some (.fn f first cap)) (ha : evs T l = some as) (hd : dstOk N dst = true)
    (hH : H.Perm (Hc ++ F)) (ht : TrG N.g P f (first ++ as ++ cap) Hc R) (k : ∀ r H', R r H' → AOps P N ops rest Q (put dst r T) (H' ++ F)) :
    AOp P N ops { dst := dst, op := .call { callee := .value callee, args := l.toArray, argTypes := ats }, type := ty, pos := pos, after := after, guard := guard } rest Q T H := by
  refine ⟨fun fr w a s st => ?_⟩
  have s1 := s.perm hH
  have e1 : own fr H = own fr (Hc ++ F) := own_perm hH
  rw [e1] at st
  obtain ⟨fs, cs, hv, r1, r2⟩ := (ev_rep st hf).fn_inv
  have r3 := evs_rep st ha
  have hargs := (r1.append r3).append r2
  have hcall := (ht.frame F).run fr w _ s1 st.glob hargs
  unfold Oper.wp execOp
  simp only [resolve, Deferred.ofValue, hv, Sem.run_bind, Sem.run_pure, Result.andThen_ok, invoke, run_callFunc ht.can, Oper.upon_enter]
  have e2 : ((fs.toList ++ l.map a.eval) ++ cs.toList).toArray = fs ++ l.toArray.map a.eval ++ cs := by simp
  rw [e2] at hcall
  refine hcall.mono ?_
  rintro e w' ⟨r, H', v, rfl, ⟨H0, hR, rfl⟩, s', hr, x⟩
  have x' : Ext H w (H0 ++ F) w' := x.perm hH
  exact AOps.ext x' ((k r H0 hR).out fr w' (a.put dst v) s' ((st.mono x.stays).put hd hr))
theorem AOp.callPG {callee : Operand} {l : List Operand} {ats : Array TypeId} {first cap as : List A} {v : A} (hf : ev T callee = some (.fn f first cap)) (ha : evs T l = some as) (hd : dstOk N dst = true)
    (ht : PTrG N.g P f (first ++ as ++ cap) v) (k : AOps P N ops rest Q (put dst v T) H) :
    AOp P N ops { dst := dst, op := .call { callee := .value callee, args := l.toArray, argTypes := ats }, type := ty, pos := pos, after := after, guard := guard } rest Q T H :=
  AOp.callG hf ha hd (List.Perm.refl ([] ++ H)) ht fun r H' h1 => by subst h1; exact AOps.dropL H' k
/-- A function that leaves what was there as it was. -/
theorem PTrG.of_below {f : FuncId} {args : List A} {r : A} (hc : Callable P f) (h : ∀ (w : World) (o : Nat → Prop) (vs : List Value), GOk G w o → RepL w o args vs → ∃ v, (∀ w' o', Rep w' o' r v) ∧ Calls P f vs.toArray w fun e w' => e = .returned v ∧ Go.RowKit.Below w.heap.size w w') : PTrG G P f args r := by
  refine ⟨hc, fun fr w vs s g a => ?_⟩
  obtain ⟨v, hv, hcall⟩ := h w _ vs g a
  refine hcall.mono ?_
  rintro e w' ⟨rfl, b⟩
  have hsame : ∀ k, k < w.heap.size → w'.heap[k]? = w.heap[k]? := b.block
  exact ⟨r, [], v, rfl, rfl, ⟨List.nodup_nil, fun r hr => (by cases hr), fun k hk => Nat.lt_of_lt_of_le (s.old k hk) b.size, fun p hp => (by cases hp)⟩, hv _ _,
    ⟨b.os, b.tape, b.output, b.size, fun k hk _ => hsame k hk, fun k hk => (by cases hk), fun k hk c T f hh => ⟨c, f, by rw [← hsame k hk]; exact hh, rfl⟩⟩⟩
theorem GOk.cell {g : List (Nat × List A)} {w : World} {o : Nat → Prop} (h : GOk g w o) {b : Nat} {cells : List A} (hm : (b, cells) ∈ g) (j : Nat) (hj : j < cells.length) : ∃ v, w.cell? ⟨b, j, none⟩ = some v ∧ Rep w o cells[j] v := by
  have hr := h _ hm
  cases hr with
  | dp _ _ vs hc hh =>
    refine ⟨vs j, ?_, hh j hj⟩
    have := (hc j hj).2
    rw [add_plain] at this
    simpa using this
end
end Go.Abs

namespace Go.Abs
open Go
set_option linter.unusedVariables false
set_option linter.unusedSimpArgs false

/-! Where a walk stands: what is before it, and what is behind that; all steps that need no choice, reckoned. -/
inductive Fr where
  | seq (y : Code)
  | block (id : Nat)
inductive Foc where
  | code (c : Code)
  | ops (all rest : List Oper)
  | pl (ops : Array Oper) (rest : List Oper)
  | ex (e : Exit)
def kQ (P : Program) (N : NN) : List Fr → (Exit → Env → Heap → Prop) → Exit → Env → Heap → Prop
  | [], Q => Q
  | .seq y :: k, Q => seqQ (AWp P N y (kQ P N k Q)) (kQ P N k Q)
  | .block id :: k, Q => blockQ id (kQ P N k Q)
def ACd (P : Program) (N : NN) (L : Lay) (f : Foc) (k : List Fr) (Q : Exit → Env → Heap → Prop) (T : Env) (H : Heap) : Prop :=
  match f with
  | .code c => AWp P N c (kQ P N k Q) T H
  | .ops all rest => AOps P N all rest (kQ P N k Q) T H
  | .pl ops rest => Pl P N L ops (kQ P N k Q .normal) rest T H
  | .ex e => kQ P N k Q e T H
/-- The same, as a shut box. -/
structure AC (P : Program) (N : NN) (L : Lay) (f : Foc) (k : List Fr) (Q : Exit → Env → Heap → Prop) (T : Env) (H : Heap) : Prop where
  out : ACd P N L f k Q T H
abbrev Pos := Foc × List Fr × Env
noncomputable def stOp (L : Lay) (all rest : List Oper) (o : Oper) (k : List Fr) (T : Env) : Option Pos :=
  match sOp L T o.op with
  | some v => some (.ops all rest, k, put o.dst v T)
  | none => none
noncomputable def stOps (L : Lay) (all rest : List Oper) (o : Oper) (k : List Fr) (T : Env) : Option Pos :=
  match o.guard with
  | none => stOp L all rest o k T
  | some (j, b) => match (all[j]?).bind (·.dst) with
    | some d => match get T d with
      | some (.bool b') => match Bool.xor b b' with
        | true => some (.ops all rest, k, put o.dst (.tup []) T)
        | false => stOp L all rest o k T
      | some (.tup _) => some (.ops all rest, k, put o.dst (.tup []) T)
      | _ => none
    | none => none
noncomputable def stPl (L : Lay) (ops : Array Oper) (rest : List Oper) (o : Oper) (k : List Fr) (T : Env) : Option Pos :=
  match wantA ops (restr T (o.looksAt ops)) o with
  | some true => match sOp L (restr T (o.looksAt ops)) o.op with
    | some v => some (.pl ops rest, k, put o.dst v T)
    | none => none
  | some false => some (.pl ops rest, k, put o.dst (.tup []) T)
  | none => none
def stEx (e : Exit) : List Fr → Env → Option Pos
  | .seq y :: k, T => match e with
    | .normal => some (.code y, k, T)
    | _ => some (.ex e, k, T)
  | .block id :: k, T => match e with
    | .exit id' => match Nat.beq id' id with
      | true => some (.ex .normal, k, T)
      | false => some (.ex (.exit id'), k, T)
    | _ => some (.ex e, k, T)
  | [], _ => none
def stCode (bl : Bool) (c : Code) (k : List Fr) (T : Env) : Option Pos :=
  match c with
  | .seq x y => some (.code x, .seq y :: k, T)
  | .region _ ops d => match d with
    | false => some (.ops ops.toList ops.toList, k, T)
    | true => none
  | .skip => some (.ex .normal, k, T)
  | .exit id => some (.ex (.exit id), k, T)
  | .ret => some (.ex .ret, k, T)
  | .block id c => match bl with
    | true => some (.code c, .block id :: k, T)
    | false => none
  | .cond c x y => match ev T c with
    | some (.bool b) => match b with
      | true => some (.code x, k, T)
      | false => some (.code y, k, T)
    | _ => none
  | _ => none
noncomputable def st1 (L : Lay) (N : NN) (bl : Bool) (f : Foc) (k : List Fr) (T : Env) : Option Pos :=
  match f with
  | .code c => stCode bl c k T
  | .ops all l => match l with
    | [] => some (.ex .normal, k, T)
    | o :: rest => match dstOk N o.dst with
      | true => stOps L all rest o k T
      | false => none
  | .pl ops l => match l with
    | [] => some (.ex .normal, k, T)
    | o :: rest => match dstOk N o.dst with
      | true => stPl L ops rest o k T
      | false => none
  | .ex e => stEx e k T
/-- Steps of the text's form alone. -/
def stCtl (bl : Bool) (f : Foc) (k : List Fr) (T : Env) : Option Pos :=
  match f with
  | .code c => match c with
    | .cond _ _ _ => none
    | _ => stCode bl c k T
  | .ops _ l => match l with
    | [] => some (.ex .normal, k, T)
    | _ :: _ => none
  | .pl _ l => match l with
    | [] => some (.ex .normal, k, T)
    | _ :: _ => none
  | .ex e => stEx e k T
/-- Some steps at once. -/
noncomputable def stN (L : Lay) (N : NN) (bl : Bool) : Nat → Foc → List Fr → Env → Option Pos
  | 0, f, k, T => some (f, k, T)
  | n + 1, f, k, T => match st1 L N bl f k T with
    | some (f', k', T') => stN L N bl n f' k' T'
    | none => none
section
variable {P : Program} {N : NN} {L : Lay} {Q : Exit → Env → Heap → Prop} {H : Heap}
theorem stOp_ok (hL : LayOk P L) {all rest : List Oper} {o : Oper} {k k' : List Fr} {f' : Foc} {T T' : Env} (hd : dstOk N o.dst = true) (h : stOp L all rest o k T = some (f', k', T')) (c : ACd P N L f' k' Q T' H) : AOp P N all o rest (kQ P N k Q) T H := by
  unfold stOp at h
  split at h
  · rename_i v hv
    cases h
    exact AOp.simple hL hv hd c
  · cases h
theorem stOps_ok (hL : LayOk P L) {all rest : List Oper} {o : Oper} {k k' : List Fr} {f' : Foc} {T T' : Env} (hd : dstOk N o.dst = true) (h : stOps L all rest o k T = some (f', k', T')) (c : ACd P N L f' k' Q T' H) : AOps P N all (o :: rest) (kQ P N k Q) T H := by
  unfold stOps at h
  split at h
  · rename_i hg
    exact AOps.plain hg (stOp_ok hL hd h c)
  · rename_i j b hg
    split at h
    · rename_i d hj
      split at h
      · rename_i b' ht
        split at h
        · rename_i hx
          cases h
          exact AOps.unwanted hg hj ht hx hd c
        · rename_i hx
          have e : b' = b := by cases b <;> cases b' <;> first | rfl | cases hx
          subst e
          exact AOps.wanted hg hj ht hd (stOp_ok hL hd h c)
      · rename_i l ht
        cases h
        exact AOps.unwantedU hg hj ht hd c
      · cases h
    · cases h
theorem stPl_ok {ops : Array Oper} {rest : List Oper} {o : Oper} {k k' : List Fr} {f' : Foc} {T T' : Env} (hd : dstOk N o.dst = true) (h : stPl L ops rest o k T = some (f', k', T')) (c : ACd P N L f' k' Q T' H) : Pl P N L ops (kQ P N k Q .normal) (o :: rest) T H := by
  unfold stPl at h
  split at h
  · rename_i hw
    split at h
    · rename_i v hv
      cases h
      exact ⟨Plan.pure hd hw hv c.out⟩
    · cases h
  · rename_i hw
    cases h
    exact ⟨Plan.skip hd hw c.out⟩
  · cases h
theorem stEx_ok {e : Exit} {k k' : List Fr} {f' : Foc} {T T' : Env} (h : stEx e k T = some (f', k', T')) (c : ACd P N L f' k' Q T' H) : kQ P N k Q e T H := by
  unfold stEx at h
  split at h
  · cases e <;> cases h <;> exact c
  · rename_i id k0 T0
    cases e with
    | exit id' =>
      simp only at h
      split at h
      · rename_i hb
        cases h
        exact blockQ_e hb c
      · rename_i hb
        cases h
        exact blockQ_o hb c
    | _ => cases h; exact c
  · cases h
theorem stCode_ok {bl : Bool} {x : Code} {k k' : List Fr} {f' : Foc} {T T' : Env} (h : stCode bl x k T = some (f', k', T')) (c : ACd P N L f' k' Q T' H) : AWp P N x (kQ P N k Q) T H := by
  unfold stCode at h
  split at h
  · cases h; exact AWp.seq c
  · rename_i id ops d
    split at h
    · cases h
      have : AWp P N (.region id ops.toList.toArray false) (kQ P N k Q) T H := AWp.region c
      simpa using this
    · cases h
  · cases h; exact AWp.skip c
  · cases h; exact AWp.exit c
  · cases h; exact AWp.ret c
  · split at h
    · cases h; exact AWp.block c
    · cases h
  · split at h
    · rename_i b hb
      split at h
      · cases h; exact AWp.condT hb c
      · cases h; exact AWp.condF hb c
    · cases h
  · cases h
theorem st1_ok (hL : LayOk P L) {bl : Bool} {f f' : Foc} {k k' : List Fr} {T T' : Env} (h : st1 L N bl f k T = some (f', k', T')) (c : ACd P N L f' k' Q T' H) : ACd P N L f k Q T H := by
  unfold st1 at h
  split at h
  · exact stCode_ok h c
  · split at h
    · cases h; exact AOps.nil c
    · split at h
      · rename_i hd
        exact stOps_ok hL hd h c
      · cases h
  · split at h
    · cases h; exact Pl.nil c
    · split at h
      · rename_i hd
        exact stPl_ok hd h c
      · cases h
  · exact stEx_ok h c
theorem AC.ctl {bl : Bool} {f f' : Foc} {k k' : List Fr} {T T' : Env} (h : stCtl bl f k T = some (f', k', T')) (c : AC P N L f' k' Q T' H) : AC P N L f k Q T H := by
  obtain ⟨c⟩ := c
  refine ⟨?_⟩
  unfold stCtl at h
  split at h
  · split at h
    · cases h
    · exact stCode_ok h c
  · split at h
    · cases h; exact AOps.nil c
    · cases h
  · split at h
    · cases h; exact Pl.nil c
    · cases h
  · exact stEx_ok h c
theorem AC.g (n : Nat) (hL : LayOk P L) {f f' : Foc} {k k' : List Fr} {T T' : Env} (h : stN L N true n f k T = some (f', k', T')) (c : AC P N L f' k' Q T' H) : AC P N L f k Q T H := by
  induction n generalizing f k T with
  | zero => cases h; exact c
  | succ n ih =>
    unfold stN at h
    split at h
    · rename_i f1 k1 T1 h1
      exact ⟨st1_ok hL h1 (ih h).out⟩
    · cases h
/-! To and fro. -/
variable {T : Env} {k : List Fr}
theorem AC.gate {f : Foc} (h : AC P N L f k Q T H) : AC P N L f k Q T H := h
theorem AC.ent {c : Code} (h : AC P N L (.code c) k Q T H) : AWp P N c (kQ P N k Q) T H := h.out
theorem AC.ent0 {c : Code} (h : AC P N L (.code c) [] Q T H) : AWp P N c Q T H := h.out
theorem AC.back {all rest : List Oper} (h : AC P N L (.ops all rest) k Q T H) : AOps P N all rest (kQ P N k Q) T H := h.out
theorem AC.back0 {all rest : List Oper} (h : AC P N L (.ops all rest) [] Q T H) : AOps P N all rest Q T H := h.out
theorem AC.backP {ops : Array Oper} {rest : List Oper} (h : AC P N L (.pl ops rest) k Q T H) : Pl P N L ops (kQ P N k Q .normal) rest T H := h.out
theorem AC.exi {e : Exit} (h : AC P N L (.ex e) k Q T H) : kQ P N k Q e T H := h.out
theorem AC.nilE {e : Exit} (h : Q e T H) : AC P N L (.ex e) [] Q T H := ⟨h⟩
theorem AC.toOps {all rest : List Oper} (h : AOps P N all rest (kQ P N k Q) T H) : AC P N L (.ops all rest) k Q T H := ⟨h⟩
theorem AC.toPl {ops : Array Oper} {rest : List Oper} (h : Pl P N L ops (kQ P N k Q .normal) rest T H) : AC P N L (.pl ops rest) k Q T H := ⟨h⟩
theorem AC.toCode {c : Code} (h : AWp P N c (kQ P N k Q) T H) : AC P N L (.code c) k Q T H := ⟨h⟩
theorem AC.toEx {e : Exit} (h : kQ P N k Q e T H) : AC P N L (.ex e) k Q T H := ⟨h⟩
theorem AC.pln {all rest : List Oper} {dst : Option Nat} {op : Op} {ty : TypeId} {pos : String} {after : Array Edge} (h : AOp P N all { dst := dst, op := op, type := ty, pos := pos, after := after, guard := none } rest (kQ P N k Q) T H) : AC P N L (.ops all ({ dst := dst, op := op, type := ty, pos := pos, after := after, guard := none } :: rest)) k Q T H := ⟨AOps.pln h⟩
theorem AC.wtd {all rest : List Oper} {dst : Option Nat} {op : Op} {ty : TypeId} {pos : String} {after : Array Edge} {j d : Nat} {b : Bool} (hdj : (all[j]?).bind (·.dst) = some d) (ht : get T d = some (.bool b)) (hd : dstOk N dst = true) (h : AOp P N all { dst := dst, op := op, type := ty, pos := pos, after := after, guard := some (j, b) } rest (kQ P N k Q) T H) : AC P N L (.ops all ({ dst := dst, op := op, type := ty, pos := pos, after := after, guard := some (j, b) } :: rest)) k Q T H := ⟨AOps.wtd hdj ht hd h⟩
theorem AC.drawn {ops : List Oper} {id : Nat} (hL : LayOk P L) (hm : P.follows .mixedOrders = true) (hc : chk ops = true) (h : AC P N L (.pl ops.toArray ops) k Q T H) : AC P N L (.code (.region id ops.toArray true)) k Q T H := ⟨AWp.drawn hL hm hc h.out⟩
theorem AC.sim {all rest : List Oper} {dst : Option Nat} {op : Op} {ty : TypeId} {pos : String} {after : Array Edge} {v : A} (hL : LayOk P L) (h : sOp L T op = some v) (hd : dstOk N dst = true) (c : AC P N L (.ops all rest) k Q (put dst v T) H) : AC P N L (.ops all ({ dst := dst, op := op, type := ty, pos := pos, after := after, guard := none } :: rest)) k Q T H := ⟨AOps.sim hL h hd c.out⟩
theorem AC.simW {all rest : List Oper} {dst : Option Nat} {op : Op} {ty : TypeId} {pos : String} {after : Array Edge} {v : A} {j d : Nat} {b : Bool} (hL : LayOk P L) (hdj : (all[j]?).bind (·.dst) = some d) (ht : get T d = some (.bool b)) (h : sOp L T op = some v) (hd : dstOk N dst = true) (c : AC P N L (.ops all rest) k Q (put dst v T) H) : AC P N L (.ops all ({ dst := dst, op := op, type := ty, pos := pos, after := after, guard := some (j, b) } :: rest)) k Q T H := ⟨AOps.simW hL hdj ht h hd c.out⟩
theorem AC.condT {t : Operand} {x y : Code} (hc : ev T t = some (.bool true)) (h : AC P N L (.code x) k Q T H) : AC P N L (.code (.cond t x y)) k Q T H := ⟨AWp.condT hc h.out⟩
theorem AC.condF {t : Operand} {x y : Code} (hc : ev T t = some (.bool false)) (h : AC P N L (.code y) k Q T H) : AC P N L (.code (.cond t x y)) k Q T H := ⟨AWp.condF hc h.out⟩
theorem AC.unw {all rest : List Oper} {dst : Option Nat} {op : Op} {ty : TypeId} {pos : String} {after : Array Edge} {j d : Nat} {b b' : Bool} (hdj : (all[j]?).bind (·.dst) = some d) (ht : get T d = some (.bool b')) (hb : Bool.xor b b' = true) (hd : dstOk N dst = true) (h : AC P N L (.ops all rest) k Q (put dst (.tup []) T) H) : AC P N L (.ops all ({ dst := dst, op := op, type := ty, pos := pos, after := after, guard := some (j, b) } :: rest)) k Q T H := ⟨AOps.unw hdj ht hb hd h.out⟩
theorem AC.unwU {all rest : List Oper} {dst : Option Nat} {op : Op} {ty : TypeId} {pos : String} {after : Array Edge} {j d : Nat} {b : Bool} {l : List A} (hdj : (all[j]?).bind (·.dst) = some d) (ht : get T d = some (.tup l)) (hd : dstOk N dst = true) (h : AC P N L (.ops all rest) k Q (put dst (.tup []) T) H) : AC P N L (.ops all ({ dst := dst, op := op, type := ty, pos := pos, after := after, guard := some (j, b) } :: rest)) k Q T H := ⟨AOps.unwU hdj ht hd h.out⟩
theorem AC.gateO {all rest : List Oper} {o : Oper} (h : AC P N L (.ops all (o :: rest)) k Q T H) : AC P N L (.ops all (o :: rest)) k Q T H := h
theorem AC.gateP {ops : Array Oper} {rest : List Oper} {o : Oper} (h : AC P N L (.pl ops (o :: rest)) k Q T H) : AC P N L (.pl ops (o :: rest)) k Q T H := h
end
end Go.Abs

namespace Go.Abs
open Go
set_option linter.unusedVariables false
set_option linter.unusedSimpArgs false
section
variable {P : Program} {N : NN} {Q : Exit → Env → Heap → Prop} {T : Env} {H : Heap} {ops rest : List Oper} {L : Lay} {dst : Option Nat} {ty : TypeId} {pos : String} {after : Array Edge} {guard : Option (Nat × Bool)}
/-- One element behind a growing slice. -/
theorem AOp.pushM {α : Type} (f : α → List A) (g : Option Nat) (l : List α) (a : α) (pre : Heap) {t e : TypeId} {x y : Operand} {rb : Nat} {ti ei : TI} (hL : LayOk P L) (hg : g = none → l = []) (hx : ev T x = some (outV ei.size g l.length))
    (hH : H = (rb, .row e ei.size [f a]) :: (pre ++ outH e ei.size g (l.map f))) (hy : ev T y = some (.os rb ei.size 0 1))
    (ht : lay L t = some ti) (he : ti.td = .slice e) (hei : lay L e = some ei) (hpos : Nat.ble 1 ei.size = true) (hnl : (f a).length = ei.size) (hnf : allLeaf (f a) = true)
    (hb : l.length ≤ 100000000) (hb2 : Nat.ble ei.bytes 10000 = true) (hd : dstOk N dst = true)
    (k : ∀ r', AOps P N ops rest Q (put dst (outV ei.size (some r') (l ++ [a]).length) T) (pre ++ outH e ei.size (some r') ((l ++ [a]).map f))) :
    AOp P N ops { dst := dst, op := .call { callee := .builtin .append, args := [x, y].toArray, argTypes := [t, t].toArray }, type := ty, pos := pos, after := after, guard := guard } rest Q T H := by
  have hbb := Nat.le_of_ble_eq_true hb2
  have hm : (l.length + 1) * ei.bytes ≤ 140737488355328 := by
    calc (l.length + 1) * ei.bytes ≤ 100000001 * 10000 := Nat.mul_le_mul (by omega) hbb
      _ ≤ 140737488355328 := by decide
  refine AOp.appendG (g := g) (elems := l.map f) (news := [f a]) (pre := (rb, .row e ei.size [f a]) :: pre) hL (by rw [List.length_map]; exact hx) (fun h => by rw [hg h]; rfl) (by rw [hH]; rfl) hy (by rw [hH]; exact RowOf.os (off := 0) (len := 1) List.mem_cons_self (Nat.le_refl _)) ht he hei hpos
    (fun c hc => by rw [List.mem_singleton.1 hc]; exact hnl) (fun c hc => by rw [List.mem_singleton.1 hc]; exact hnf) (by simp only [List.length_map, List.length_singleton, maxLen]; omega) (by simp only [List.length_map, List.length_singleton]; exact hm) hd fun g' hg' => ?_
  cases g' with
  | none => have := hg' rfl; simp at this
  | some r' =>
    have h := k r'
    have e1 : (l.map f ++ [f a]).length = (l ++ [a]).length := by simp
    have e2 : (l ++ [a]).map f = l.map f ++ [f a] := by simp
    rw [e1, ← e2]
    exact AOps.dropL [_] h
theorem AWp.freezeM {α : Type} {f : α → List A} {g : Option Nat} {l : List α} {pre : Heap} {c : Code} {t e sz : Nat} (ht : get T t = some (outV sz g l.length)) (hH : H = pre ++ outH e sz g (l.map f)) (hg : g = none → l = []) (k : AWp P N c Q ((t, .ds (l.map f)) :: T) pre) : AWp P N c Q T H :=
  AWp.freezeG (g := g) (elems := l.map f) (by rw [List.length_map]; exact ht) (fun h => by rw [hg h]; rfl) hH k
theorem AOps.freezeM {α : Type} {f : α → List A} {g : Option Nat} {l : List α} {pre : Heap} {t e sz : Nat} (ht : get T t = some (outV sz g l.length)) (hH : H = pre ++ outH e sz g (l.map f)) (hg : g = none → l = []) (k : AOps P N ops rest Q ((t, .ds (l.map f)) :: T) pre) : AOps P N ops rest Q T H :=
  AOps.freezeG (g := g) (elems := l.map f) (by rw [List.length_map]; exact ht) (fun h => by rw [hg h]; rfl) hH k
end
end Go.Abs

namespace Go.Abs
open Go
set_option linter.unusedVariables false
set_option linter.unusedSimpArgs false
section
variable {P : Program} {N : NN} {Q : Exit → Env → Heap → Prop} {T : Env} {H : Heap} {ops rest : List Oper} {L : Lay} {dst : Option Nat} {ty : TypeId} {pos : String} {after : Array Edge} {guard : Option (Nat × Bool)}
theorem repL_bytes {w : World} {o : Nat → Prop} : ∀ {s : List UInt8} {vs : List Value}, RepL w o (s.map byteC).flatten vs → vs = (s.map fun b => (b.toNat : Int)).map (Value.int .u8)
  | [], vs, h => by cases h; rfl
  | b :: s, vs, h => by
    simp only [List.map_cons, List.flatten_cons, byteC, List.cons_append, List.nil_append] at h
    cases h with
    | cons h1 h2 =>
      cases h1
      rw [repL_bytes h2]; rfl
theorem nums_str (s : List UInt8) : strOfNums (s.map fun b => (b.toNat : Int)) = ⟨s.toArray⟩ := by
  unfold strOfNums
  congr 1
  rw [List.map_map]
  congr 1
  conv => rhs; rw [← List.map_id s]
  refine List.map_congr_left fun b _ => ?_
  simp
theorem AOp.ofBytes {src dt e : TypeId} {x : Operand} {xv : A} {s : List UInt8} {j ji ei : TI} (hL : LayOk P L) (hx : ev T x = some xv) (hr : RowOf H xv (s.map byteC) ∨ (xv = .nils ∧ s = [])) (hj : lay L src = some j) (ht : j.td = .slice e) (hei : lay L e = some ei) (het : ei.td = .int .u8)
    (hji : lay L dt = some ji) (hjt : ji.td = .string) (hd : dstOk N dst = true)
    (kk : AOps P N ops rest Q (put dst (.str s) T) H) : AOp P N ops { dst := dst, op := .convert src dt x, type := ty, pos := pos, after := after, guard := guard } rest Q T H :=
  AOp.pure (fun fr w act sm st => by
    have hu := ev_rep st hx
    have hsl := td_slice (hL _ _ hj) ht
    obtain ⟨d2, he1, he2⟩ := (hL _ _ hei).und
    have he : d2 = .int .u8 := by rw [het] at he2; cases d2 <;> simp [tdOf] at he2; subst he2; rfl
    subst he
    have hst := td_string (hL _ _ hji) hjt
    generalize h1 : act.eval x = u at hu
    have hnil : ∀ l c, s = [] → (convert src dt (.slice none l c)).run P w = .ok (.string ⟨s.toArray⟩) w := by
      intro l c hs
      subst hs
      exact run_convert_bytes_nil w src e hsl he1 l c dt hst
    rcases hr with hr | ⟨rfl, hs⟩
    · rcases hr.lies sm hu with ⟨h2, rfl⟩ | ⟨a, cap, sz, vs, rfl, hc1, hc2, hlies⟩
      · have hs : s = [] := by simpa using h2
        subst hs
        exact ⟨.string ⟨[].toArray⟩, by simp only [execOp, h1, Sem.run_bind, hnil _ _ rfl, Result.andThen_ok, Sem.run_pure], Rep.str [] (by simp)⟩
      · have hlen : (s.map byteC).length = s.length := by simp
        rw [hlen] at hc1 h1
        have hvs := repL_bytes hlies.rep
        have hl : (loadCells a s.length).run P w = .ok ((s.map fun b => (b.toNat : Int)).map (Value.int .u8)).toArray w := by
          have := run_loadCells_list (P := P) w a vs (fun j v hj => hlies.at_ j v hj)
          rw [hvs] at this
          simpa using this
        have hrun : (convert src dt (.slice (some a) s.length cap)).run P w = .ok (.string ⟨s.toArray⟩) w := by
          rw [run_convert_bytes_string w src dt e _ s.length cap hsl he1 hst, run_bytesToString w a s.length cap _ hl, foldl_push_bytes]
          have := nums_str s
          simp only [strOfNums] at this
          rw [ByteArray.mk.injEq] at this
          rw [this]
          simp [ByteArray.empty, ByteArray.emptyWithCapacity]
          rfl
        exact ⟨.string ⟨s.toArray⟩, by simp only [execOp, h1, Sem.run_bind, hrun, Result.andThen_ok, Sem.run_pure], Rep.str s (Nat.le_trans hc1 hc2)⟩
    · cases hu
      subst hs
      exact ⟨.string ⟨[].toArray⟩, by simp only [execOp, h1, Sem.run_bind, hnil _ _ rfl, Result.andThen_ok, Sem.run_pure], Rep.str [] (by simp)⟩) hd kk
theorem AOp.ofBytesG {src dt e : TypeId} {x : Operand} (g : Option Nat) (s : List UInt8) (pre : Heap) {j ji ei : TI} (hL : LayOk P L) (hg : g = none → s = []) (hx : ev T x = some (outV 1 g s.length)) (hH : H = pre ++ outH e 1 g (s.map byteC)) (hj : lay L src = some j) (ht : j.td = .slice e) (hei : lay L e = some ei) (het : ei.td = .int .u8)
    (hji : lay L dt = some ji) (hjt : ji.td = .string) (hd : dstOk N dst = true)
    (kk : AOps P N ops rest Q (put dst (.str s) T) H) : AOp P N ops { dst := dst, op := .convert src dt x, type := ty, pos := pos, after := after, guard := guard } rest Q T H := by
  refine AOp.ofBytes hL hx ?_ hj ht hei het hji hjt hd kk
  cases g with
  | none => exact .inr ⟨rfl, hg rfl⟩
  | some r =>
    left
    have hm : (r, Blk.row e 1 (s.map byteC)) ∈ H := by rw [hH]; exact List.mem_append_right _ List.mem_cons_self
    have h := RowOf.os (H := H) (sz := 1) (off := 0) (len := s.length) hm (by simp)
    rw [List.drop_zero, List.take_of_length_le (by simp)] at h
    exact h
end
end Go.Abs

namespace Go.Abs
open Go
set_option linter.unusedVariables false
/-! Some elements onto a growing slice, also where the order is drawn. -/
section
variable {P : Program} {N : NN} {Q : Exit → Env → Heap → Prop} {T : Env} {H : Heap} {ops rest : List Oper} {L : Lay} {dst : Option Nat} {ty : TypeId} {pos : String} {after : Array Edge} {guard : Option (Nat × Bool)}
theorem AOp.pushL {α : Type} (f : α → List A) (g : Option Nat) (l news : List α) (pre : Heap) {t e : TypeId} {x y : Operand} {rb : Nat} {ti ei : TI} (hL : LayOk P L) (hg : g = none → l = []) (hx : ev T x = some (outV ei.size g l.length))
    (hH : H = (rb, .row e ei.size (news.map f)) :: (pre ++ outH e ei.size g (l.map f))) (hy : ev T y = some (.os rb ei.size 0 news.length)) (hne : news ≠ [])
    (ht : lay L t = some ti) (he : ti.td = .slice e) (hei : lay L e = some ei) (hpos : Nat.ble 1 ei.size = true) (hnl : ∀ a ∈ news, (f a).length = ei.size) (hnf : ∀ a ∈ news, allLeaf (f a) = true)
    (hb : l.length + news.length ≤ 100000000) (hb2 : Nat.ble ei.bytes 10000 = true) (hd : dstOk N dst = true)
    (k : ∀ r', r' ∉ keys pre → AOps P N ops rest Q (put dst (outV ei.size (some r') (l ++ news).length) T) (pre ++ outH e ei.size (some r') ((l ++ news).map f))) :
    AOp P N ops { dst := dst, op := .call { callee := .builtin .append, args := [x, y].toArray, argTypes := [t, t].toArray }, type := ty, pos := pos, after := after, guard := guard } rest Q T H := by
  have hbb := Nat.le_of_ble_eq_true hb2
  have hrow : RowOf H (.os rb ei.size 0 news.length) (news.map f) := by
    have := RowOf.os (H := H) (r := rb) (Te := e) (sz := ei.size) (off := 0) (len := news.length) (elems := news.map f) (by rw [hH]; exact List.mem_cons_self) (by simp)
    rw [List.drop_zero, List.take_of_length_le (by simp)] at this
    exact this
  have hnl' : ∀ i (hi : i < (news.map f).length), (news.map f)[i].length = ei.size := fun i hi => by
    rw [List.getElem_map]; exact hnl _ (List.getElem_mem _)
  have hnf' : ∀ c ∈ news.map f, allLeaf c = true := fun c hc => by
    obtain ⟨a, ha, rfl⟩ := List.mem_map.1 hc
    exact hnf a ha
  have hmul : ∀ n : Nat, n ≤ 100000000 → n * ei.bytes ≤ 140737488355328 := fun n hn => by
    have := Nat.mul_le_mul hn hbb
    omega
  cases g with
  | none =>
    have := hg rfl
    subst this
    simp only [outV] at hx
    refine AOp.appendNil (news := news.map f) (Hr := pre) hL hx hy ht he hei hpos hrow (.inr ⟨_, by rw [hH]; simp only [outH, List.append_nil]; exact List.Perm.refl _⟩) hnl' hnf' (by simpa using hne) (by rw [List.length_map]; unfold maxLen; simp at hb; omega) (by rw [List.length_map]; exact hmul _ (by simpa using hb)) hd fun r hr => ?_
    have := k r hr
    simp only [outV, outH, List.nil_append] at this
    rw [List.length_map]
    exact AOps.perm (List.perm_append_comm (l₁ := [_])) this
  | some r =>
    simp only [outV] at hx
    simp only [outH] at hH k
    refine AOp.append (all := l.map f) (news := news.map f) (H1 := (rb, .row e ei.size (news.map f)) :: pre) (Hr := pre) hL hx hy ht he hei hpos (by rw [hH, ← List.cons_append]; exact List.perm_append_comm (l₂ := [_])) (by rw [List.length_map]; exact Nat.le_refl _) hrow (.inr ⟨_, List.Perm.refl _⟩) hnl' hnf' (by rw [List.length_map]; unfold maxLen; omega) (by rw [List.length_map]; exact hmul _ hb) hd fun r' hr' => ?_
    have := k r' hr'
    simp only [outV, List.length_append, List.map_append] at this
    rw [List.length_map, ← List.length_map (f := f) (as := l), List.take_length]
    refine AOps.perm (List.perm_append_comm (l₁ := [_])) ?_
    rw [List.length_map]
    exact this
end
section
variable {P : Program} {N : NN} {Q : Env → Heap → Prop} {T : Env} {H : Heap} {ops : Array Oper} {rest : List Oper} {L : Lay} {dst : Option Nat} {ty : TypeId} {pos : String} {after : Array Edge}
theorem Pl.pushL {α : Type} (f : α → List A) (g : Option Nat) (l news : List α) (pre : Heap) {t e : TypeId} {x y : Operand} {rb : Nat} {ti ei : TI} (hL : LayOk P L) (hg : g = none → l = [])
    (hx : ev (restr T (({ dst := dst, op := .call { callee := .builtin .append, args := [x, y].toArray, argTypes := [t, t].toArray }, type := ty, pos := pos, after := after, guard := none } : Oper).looksAt ops)) x = some (outV ei.size g l.length))
    (hH : H = (rb, .row e ei.size (news.map f)) :: (pre ++ outH e ei.size g (l.map f)))
    (hy : ev (restr T (({ dst := dst, op := .call { callee := .builtin .append, args := [x, y].toArray, argTypes := [t, t].toArray }, type := ty, pos := pos, after := after, guard := none } : Oper).looksAt ops)) y = some (.os rb ei.size 0 news.length)) (hne : news ≠ [])
    (ht : lay L t = some ti) (he : ti.td = .slice e) (hei : lay L e = some ei) (hpos : Nat.ble 1 ei.size = true) (hnl : ∀ a ∈ news, (f a).length = ei.size) (hnf : ∀ a ∈ news, allLeaf (f a) = true)
    (hb : l.length + news.length ≤ 100000000) (hb2 : Nat.ble ei.bytes 10000 = true) (hd : dstOk N dst = true)
    (k : ∀ r', r' ∉ keys pre → Pl P N L ops Q rest (put dst (outV ei.size (some r') (l ++ news).length) T) (pre ++ outH e ei.size (some r') ((l ++ news).map f))) :
    Pl P N L ops Q ({ dst := dst, op := .call { callee := .builtin .append, args := [x, y].toArray, argTypes := [t, t].toArray }, type := ty, pos := pos, after := after, guard := none } :: rest) T H :=
  Pl.effN (Hx := pre) hd rfl rfl (AOp.pushL f g l news pre hL hg hx hH hy hne ht he hei hpos hnl hnf hb hb2 hd fun r' hr' => AOps.nil (Qn_n ⟨r', hr', rfl, rfl⟩)) k
end
end Go.Abs

namespace Go.Abs
open Go
set_option linter.unusedVariables false
set_option linter.unusedSimpArgs false
/-! Functions without a body. -/
def extC (same ixb : List Nat) : Exts := fun f xs => match memN f same, xs with
  | true, [v] => some v
  | _, _ => match memN f ixb, xs with
    | true, [.str s, .int .u8 c] => match decide (inR .i64 (Lib.indexByte s c.toNat.toUInt8)) with
      | true => some (.int .i64 (Lib.indexByte s c.toNat.toUInt8))
      | false => none
    | _, _ => none
def ExtFn (P : Program) (f : FuncId) (e : Array Value → Sem Value) : Prop := ∃ fn, P.funcs[f]? = some fn ∧ (fn.name == "runtime.NumGoroutine") = false ∧ fn.body.isNone = true ∧ Extern.findNext fn = none ∧ Extern.find fn = some e
theorem memN_iff {d : Nat} : ∀ {l : List Nat}, memN d l = true → d ∈ l
  | [], h => by cases h
  | x :: l, h => by
    simp only [memN] at h
    split at h
    · rename_i e; rw [Nat.eq_of_beq_eq_true e]; exact List.mem_cons_self ..
    · exact List.mem_cons_of_mem _ (memN_iff h)
theorem extC_ok {P : Program} {same ixb : List Nat} (h1 : ∀ f ∈ same, ExtFn P f Extern.AbiNoEscape.same) (h2 : ∀ f ∈ ixb, ExtFn P f Extern.BytealgIndexByte.indexByte) : ExtOk P (extC same ixb) := by
  intro f xs v h ρ w o vs hr
  unfold extC at h
  split at h
  · rename_i hm
    cases h
    obtain ⟨fn, k1, k2, k3, k4, k5⟩ := h1 f (memN_iff hm)
    simp only [renL] at hr
    cases hr with
    | cons ha ht =>
      cases ht
      refine ⟨_, ?_, ha⟩
      rw [run_callFunc_extern k1 k2 k3 k4 k5]
      simp [Lib.run_noEscape]
  · split at h
    · rename_i hm hne
      split at h
      · rename_i hin
        have hin := of_decide_eq_true hin
        cases h
        obtain ⟨fn, k1, k2, k3, k4, k5⟩ := h2 f (memN_iff hm)
        simp only [renL, ren] at hr
        cases hr with
        | cons ha ht =>
          cases ht with
          | cons hb ht =>
            cases ht
            cases ha
            cases hb
            refine ⟨_, ?_, .int _ _ hin⟩
            rw [run_callFunc_extern k1 k2 k3 k4 k5]
            simp [Lib.run_indexByteString]
      · cases h
    · cases h
end Go.Abs

namespace Go.Abs
open Go
set_option linter.unusedVariables false
set_option linter.unusedSimpArgs false
/-! Functions without a body that look at memory: those of sort.Slice. -/
section
variable {P : Program} {fr : Nat → Prop} {H : Heap} {w : World}
theorem store_row {t : TypeId} {ti : TI} (hL : TIOk P t ti) (s : Sim fr H w) {r Te sz k : Nat} {elems : List (List A)} {e e' : List A} {H' : Heap} {v : Value} (hat : At H r (.row Te sz elems) (.row Te sz (elems.set k e')) H') (he : elems[k]? = some e)
    (hr : Rep w (own fr H) (.agg e') v) (hl : allLeaf e' = true) (hsz : ti.size = sz) (hle : e'.length = sz) :
    ∃ w', (storeVar t ⟨r, k * sz, none⟩ v).run P w = .ok () w' ∧ Sim fr H' w' ∧ Ext H w H' w' := by
  obtain ⟨_, _, _, hlen⟩ := s.elem hat.mem he
  have st : St ⟨2, [], []⟩ w (own fr H) [(0, .ptr r sz k 0), (1, .agg e')] { tmps := #[.pointer (some ⟨r, k * sz + 0, none⟩), v], defers := [] } := by
    refine ⟨rfl, rfl, GOk.nil, fun t x hx => ?_⟩
    simp only [get] at hx
    split at hx
    · rename_i h0
      have h0 := Nat.eq_of_beq_eq_true h0
      subst h0
      cases hx
      exact ⟨_, rfl, .ptr ..⟩
    · split at hx
      · rename_i h1
        have h1 := Nat.eq_of_beq_eq_true h1
        subst h1
        cases hx
        exact ⟨_, rfl, hr⟩
      · cases hx
  obtain ⟨w', v1, v', H1, hrun, ⟨rfl, rfl⟩, s', _, x'⟩ := store_sem (dst := none) (ty := 0) (pos := "") (after := #[]) (guard := none) (x := .tmp 0) (y := .tmp 1) (v := .agg e') (cells := e') hL rfl rfl rfl (.inr ⟨_, rfl⟩) hl (by rw [hle, hsz]) hat he (by
    unfold splice
    obtain ⟨_, _, _, _, hlen⟩ := s.elem hat.mem he
    have hb : Nat.ble (0 + e'.length) e.length = true := Nat.ble_eq_true_of_le (by omega)
    rw [hb]
    simp [hlen, hle, List.drop_eq_nil_of_le]) fr w _ s st
  refine ⟨w', ?_, s', x'⟩
  simp only [execOp, Instr.storeAt, Instr.sureAddr, Act.eval, Sem.run_bind, Sem.run_pure, Result.andThen_ok] at hrun
  have e0 : (#[Value.pointer (some ⟨r, k * sz, none⟩), v] : Array Value).getD 0 undef = .pointer (some ⟨r, k * sz, none⟩) := rfl
  have e1 : (#[Value.pointer (some ⟨r, k * sz, none⟩), v] : Array Value).getD 1 undef = v := rfl
  simp only [Nat.add_zero] at hrun
  simp only [e0, e1, Sem.run_bind, Sem.run_pure, Result.andThen_ok] at hrun
  cases hs : (storeVar t ⟨r, k * sz, none⟩ v).run P w with
  | ok u w1 =>
    rw [hs] at hrun
    simp only [Result.andThen_ok, Sem.run_pure] at hrun
    rcases hrun with hrun | ⟨hrun, _⟩
    · cases hrun
    · cases hrun; rfl
  | halt h w1 =>
    rw [hs] at hrun
    rcases hrun with hrun | ⟨hrun, _⟩ <;> cases hrun
theorem At.uniq {H H1 H2 : Heap} {r : Nat} {b b1 : Blk} (h1 : At H r b b1 H1) (h2 : At H r b b1 H2) (hn : (Go.Abs.keys H).Nodup) : H1 = H2 := by
  induction h1 generalizing H2 with
  | here =>
    cases h2 with
    | here => rfl
    | there h2 =>
      have := h2.mem
      exact absurd (List.mem_map.2 ⟨_, this, rfl⟩) (List.nodup_cons.1 hn).1
  | there h1 ih =>
    cases h2 with
    | here => exact absurd (List.mem_map.2 ⟨_, h1.mem, rfl⟩) (List.nodup_cons.1 hn).1
    | there h2 => rw [ih h2 (List.nodup_cons.1 hn).2]
theorem At.trans {H H1 H2 : Heap} {r : Nat} {b b1 b2 : Blk} (h1 : At H r b b1 H1) (h2 : At H1 r b1 b2 H2) (hn : (Go.Abs.keys H).Nodup) : At H r b b2 H2 := by
  induction h1 generalizing H2 with
  | here =>
    cases h2 with
    | here => exact .here
    | there h2 => exact absurd (List.mem_map.2 ⟨_, h2.mem, rfl⟩) (List.nodup_cons.1 hn).1
  | there h1 ih =>
    cases h2 with
    | here =>
      have hk := h1.keys
      exact absurd (List.mem_map.2 ⟨_, h1.mem, rfl⟩) (List.nodup_cons.1 hn).1
    | there h2 => exact .there (ih h2 (List.nodup_cons.1 hn).2)
theorem At.some' {H H1 : Heap} {r : Nat} {b b1 : Blk} (b2 : Blk) (h : At H r b b1 H1) : ∃ K, At H r b b2 K := by
  induction h with
  | here => exact ⟨_, .here⟩
  | there _ ih => obtain ⟨K2, h2⟩ := ih; exact ⟨_, .there h2⟩
theorem At.then' {H H1 : Heap} {r : Nat} {b b1 : Blk} (b2 : Blk) (h : At H r b b1 H1) : ∃ K, At H1 r b1 b2 K := by
  induction h with
  | here => exact ⟨_, .here⟩
  | there _ ih => obtain ⟨K2, h2⟩ := ih; exact ⟨_, .there h2⟩
/-- Two elements of a row change places. -/
theorem swap_row {t : TypeId} {ti : TI} (hL : TIOk P t ti) (hagg : ti.td.isAgg = true) (s : Sim fr H w) {r Te sz off n i j : Nat} {elems : List (List A)} {a b : List A} {H' : Heap} (hi : i < n) (hj : j < n)
    (hat : At H r (.row Te sz elems) (.row Te sz ((elems.set (off + i) b).set (off + j) a)) H') (ha : elems[off + i]? = some a) (hb : elems[off + j]? = some b) (hsz : ti.size = sz) (c : Nat) :
    ∃ w', (Extern.ReflectliteSwapper.swap false #[.int .i64 i, .int .i64 j, .slice (some ⟨r, off * sz, none⟩) n c, typeHandle P t]).run P w = .ok (.tuple #[]) w' ∧ Sim fr H' w' ∧ Ext H w H' w' := by
  obtain ⟨va, ra, ca, la, hla⟩ := s.elem hat.mem ha
  obtain ⟨vb, rb, cb, lb, hlb⟩ := s.elem hat.mem hb
  have load : ∀ {e : List A} {vs : List Value} {k : Nat}, RepL w (own fr H) e vs → CellsAt w ⟨r, k * sz, none⟩ vs → e.length = sz → ∃ z, (loadVar t ⟨r, k * sz, none⟩).run P w = .ok z w ∧ Rep w (own fr H) (.agg e) z := by
    intro e vs k hr hc hl
    have := loadVar_run (P := P) hL (a := ⟨r, k * sz, none⟩) (o := 0) (v := .agg e) hr (by simpa [add_plain] using hc) (by
      unfold loadA
      have hb : Nat.ble (0 + ti.size) e.length = true := Nat.ble_eq_true_of_le (by omega)
      rw [hagg, hb]
      simp [List.take_of_length_le (show e.length ≤ ti.size by omega)])
    simpa [add_plain] using this
  obtain ⟨za, hza, hra⟩ := load ra ca hla
  obtain ⟨zb, hzb, hrb⟩ := load rb cb hlb
  have hn := s.nodup
  obtain ⟨H1, hat1⟩ := hat.some' (.row Te sz (elems.set (off + i) b))
  obtain ⟨w1, hs1, s1, x1⟩ := store_row hL s hat1 ha hrb lb hsz hlb
  obtain ⟨H2, hat2⟩ := hat1.then' (.row Te sz ((elems.set (off + i) b).set (off + j) a))
  have hbj : ∃ e, (elems.set (off + i) b)[off + j]? = some e := by
    have hlt := (List.getElem?_eq_some_iff.1 hb).1
    exact ⟨_, List.getElem?_eq_getElem (by simpa using hlt)⟩
  obtain ⟨e2, he2⟩ := hbj
  obtain ⟨w2, hs2, s2, x2⟩ := store_row hL s1 hat2 he2 (hra.mono x1.stays) la hsz hla
  have e3 : H2 = H' := At.uniq (hat1.trans hat2 hn) hat hn
  subst e3
  refine ⟨w2, ?_, s2, x1.trans x2⟩
  have hio : ((i : Nat) : Int) < n := by omega
  have hjo : ((j : Nat) : Int) < n := by omega
  rw [Lib.rl_swap]
  have hexch : (Extern.ReflectliteSwapper.exchange t ⟨r, off * sz, none⟩ i j).run P w = .ok (.tuple #[]) w2 := by
    have a1 : (⟨r, off * sz, none⟩ : Addr).add (i * ti.size) = ⟨r, (off + i) * sz, none⟩ := by rw [add_plain, hsz, Nat.add_mul]
    have a2 : (⟨r, off * sz, none⟩ : Addr).add (j * ti.size) = ⟨r, (off + j) * sz, none⟩ := by rw [add_plain, hsz, Nat.add_mul]
    unfold Extern.ReflectliteSwapper.exchange
    simp only [Sem.run_bind, sizeOf_run hL, Result.andThen_ok, a1, a2, hza, hzb, hs1, hs2, Sem.run_pure]
  have hh : (Extern.Rtype.ofHandle (typeHandle P t)).run P w = .ok t w := by simp [Extern.Rtype.ofHandle, handleType, typeHandle, Result.andThen]
  have c1 : ¬ (((i : Nat) : Int) < 0) := by omega
  have c2 : ¬ (((j : Nat) : Int) < 0) := by omega
  have c3 : ¬ (((i : Nat) : Int) ≥ n) := by omega
  have c4 : ¬ (((j : Nat) : Int) ≥ n) := by omega
  simp only [Bool.false_eq_true, if_false, c1, c2, c3, c4, decide_false, Bool.or_false, Sem.run_bind, hh, Result.andThen_ok, Int.toNat_natCast, hexch]
end

abbrev ExtsM := FuncId → List A → Tre Blk → Option Eff
def ExtSem (P : Program) (f : FuncId) (xs : List A) (H : Heap) (R : A → Heap → Prop) : Prop :=
  ∀ (fr : Nat → Prop) (w : World) (vs : List Value), Sim fr H w → RepL w (own fr H) xs vs → ∃ u w' v H1, (callFunc f vs.toArray).run P w = .ok (.value u) w' ∧ R v H1 ∧ Sim fr H1 w' ∧ Rep w' (own fr H1) v u ∧ Ext H w H1 w'
def EffM (P : Program) (ρ : Nat → Nat) (H : Tre Blk) (f : FuncId) (xs : List A) (H' : Heap) : Eff → Prop
  | .pure v => ExtSem P f (renL ρ xs) H' fun r K => r = ren ρ v ∧ K = H'
  | .write v i b' => ∃ b, H.get i = some b ∧ ∀ H'', At H' (ρ i) (renB ρ b) (renB ρ b') H'' → ExtSem P f (renL ρ xs) H' fun r K => r = ren ρ v ∧ K = H''
  | _ => False
def ExtMOk (P : Program) (M : ExtsM) : Prop := ∀ f xs H e, M f xs H = some e → ∀ (ρ : Nat → Nat) (n : Nat) (lo : Nat → Bool) (fz : Nat → Prop) (H' : Heap), Good ρ n lo fz H H' → EffM P ρ H f xs H' e
def noM : ExtsM := fun _ _ _ => none
theorem noM_ok {P : Program} : ExtMOk P noM := fun _ _ _ _ h => by cases h
theorem AOp.callM {P : Program} {N : NN} {Q : Exit → Env → Heap → Prop} {T : Env} {H : Heap} {ops rest : List Oper} {dst : Option Nat} {callee : Operand} {args : List Operand} {ats : Array TypeId} {ty : TypeId} {pos : String} {after : Array Edge} {guard : Option (Nat × Bool)}
    {f : FuncId} {first cap xs : List A} {R : A → Heap → Prop} (hf : ev T callee = some (.fn f first cap)) (ha : evs T args = some xs) (he : ExtSem P f (first ++ xs ++ cap) H R)
    (hd : dstOk N dst = true) (kk : ∀ v H1, R v H1 → AOps P N ops rest Q (put dst v T) H1) :
    AOp P N ops { dst := dst, op := .call { callee := .value callee, args := args.toArray, argTypes := ats }, type := ty, pos := pos, after := after, guard := guard } rest Q T H :=
  AOp.sem (R := R) (fun fr w act s st => by
    obtain ⟨fs, cs, e1, r1, r2⟩ := (ev_rep st hf).fn_inv
    have r3 := evs_rep st ha
    obtain ⟨u, w', v, H1, h1, h2, h3, h4, h5⟩ := he fr w _ s ((r1.append r3).append r2)
    have e2 : ((fs.toList ++ args.map act.eval) ++ cs.toList).toArray = fs ++ args.toArray.map act.eval ++ cs := by simp
    rw [e2] at h1
    refine ⟨w', v, u, H1, .inl ?_, h2, h3, h4, h5⟩
    simp only [execOp, resolve, Deferred.ofValue, invoke, Sem.run_bind, Sem.run_pure, Result.andThen_ok, e1]
    exact h1) hd kk
theorem EffM.ok {P : Program} {N : NN} {ρ : Nat → Nat} {H : Tre Blk} {T' : Env} {H' : Heap} {dst : Option Nat} {callee : Operand} {args : List Operand} {ats : Array TypeId} {ty : TypeId} {pos : String} {after : Array Edge} {guard : Option (Nat × Bool)}
    {f : FuncId} {xs first as cap : List A} (hf : ev T' callee = some (.fn f first cap)) (ha : evs T' args = some as) (hxs : first ++ as ++ cap = renL ρ xs) (hd : dstOk N dst = true) {e : Eff} (h : EffM P ρ H f xs H' e) :
    EffOk P N ρ H { dst := dst, op := .call { callee := .value callee, args := args.toArray, argTypes := ats }, type := ty, pos := pos, after := after, guard := guard } T' H' e := by
  cases e with
  | pure v =>
    intro ops rest Q k
    simp only [EffM] at h
    rw [← hxs] at h
    exact AOp.callM hf ha h hd fun r K ⟨e1, e2⟩ => by subst e1; subst e2; exact k
  | write v i b' =>
    obtain ⟨b, hi, h⟩ := h
    refine ⟨b, hi, fun ops rest Q H'' hat k => ?_⟩
    have h := h H'' hat
    rw [← hxs] at h
    exact AOp.callM hf ha h hd fun r K ⟨e1, e2⟩ => by subst e1; subst e2; exact k
  | new m b => exact h.elim
  | swap m i b => exact h.elim
  | free v i => exact h.elim
/-- What is asked of a program and a slice's type for sort.Slice. -/
structure SortS (P : Program) (L : Lay) (t e : TypeId) (g vo sw ln s1 s2 s9 : Nat) where
  i : TypeInfo
  ie : TypeInfo
  ei : TI
  ke : Nat
  hg : P.globals.size = g
  hi : P.info? t = some i
  hd : i.desc = .slice e
  hpk : P.packed t = false
  hie : P.info? e = some ie
  hke : ∀ w, (Extern.Rtype.kind e).run P w = .ok ke w
  hk9 : ∀ n, 2 ≤ n → Lib.swapperK n ie ke = 9
  hei : lay L e = some ei
  hagg : ei.td.isAgg = true
  f1 : P.funcs.findIdx? (·.name == "internal/reflectlite" ++ ".Swapper$" ++ toString 1) = some s1
  f2 : P.funcs.findIdx? (·.name == "internal/reflectlite" ++ ".Swapper$" ++ toString 2) = some s2
  f9 : P.funcs.findIdx? (·.name == "internal/reflectlite" ++ ".Swapper$" ++ toString 9) = some s9
  xv : ExtFn P vo fun args => Extern.ReflectliteValue.unpack (args.getD 0 (.tuple #[]))
  xs : ExtFn P sw (Extern.ReflectliteSwapper.swapper "internal/reflectlite" (Extern.ReflectliteValue.valueError "Swapper"))
  xl : ExtFn P ln (Extern.ReflectliteValue.method (Extern.ReflectliteValue.valueError "reflectlite.Value.Len" 0) Extern.ReflectliteValue.len)
  x9 : ExtFn P s9 (Extern.ReflectliteSwapper.swap false)
def sliceLen : A → Option Nat
  | .os _ _ _ n => some n
  | .nils => some 0
  | .ds l => some l.length
  | _ => none
def extS (L : Lay) (t e g vo sw ln s1 s2 s9 : Nat) : ExtsM := fun f xs H => match xs with
  | [.iface t' x] => match Nat.beq t' t, sliceLen x with
    | true, some n => match Nat.beq f vo, Nat.beq f sw with
      | true, _ => some (.pure (.agg [.abs g t, .dp [x], .int .u64 151]))
      | false, true => match n with
        | 0 => some (.pure (.fn s1 [] []))
        | 1 => some (.pure (.fn s2 [] []))
        | _ => some (.pure (.fn s9 [] [x, .abs g e]))
      | false, false => none
    | _, _ => none
  | [.agg [.abs g' t', .dp [x], .int .u64 k]] => match Nat.beq f ln && Nat.beq g' g && Nat.beq t' t && decide (k = 151), sliceLen x with
    | true, some n => match Nat.ble n 4611686018427387904 with
      | true => some (.pure (.int .i64 n))
      | false => none
    | _, _ => none
  | [.int .i64 i, .int .i64 j, .os r sz off n, .abs g' e'] => match Nat.beq f s9 && Nat.beq g' g && Nat.beq e' e && decide (0 ≤ i ∧ i < n ∧ 0 ≤ j ∧ j < n), lay L e, H.get r with
    | true, some ei, some (.row Te sz' elems) => match Nat.beq sz sz' && Nat.beq ei.size sz, elems[off + i.toNat]?, elems[off + j.toNat]? with
      | true, some a, some b => some (.write (.tup []) r (.row Te sz' ((elems.set (off + i.toNat) b).set (off + j.toNat) a)))
      | _, _, _ => none
    | _, _, _ => none
  | _ => none
theorem sliceLen_rep {w : World} {o : Nat → Prop} {x : A} {n : Nat} {u : Value} (h : sliceLen x = some n) (hr : Rep w o x u) : ∃ p c, u = .slice p n c := by
  cases x <;> simp only [sliceLen] at h <;> first | (cases h; done) | skip
  · cases h; cases hr; exact ⟨_, _, rfl⟩
  · cases h; cases hr
    · exact ⟨_, _, rfl⟩
    · exact ⟨_, _, rfl⟩
  · cases h; cases hr; exact ⟨_, _, rfl⟩
theorem sliceLen_ren {ρ : Nat → Nat} {x : A} {n : Nat} (h : sliceLen x = some n) : sliceLen (ren ρ x) = some n := by
  cases x <;> simp only [sliceLen] at h <;> first | (cases h; done) | (simp only [ren, sliceLen, renLL_len]; exact h)
theorem run_ext {P : Program} {f : FuncId} {e : Array Value → Sem Value} (h : ExtFn P f e) (args : Array Value) (w : World) : (callFunc f args).run P w = ((e args).run P w).andThen fun v w' => .ok (.value v) w' := by
  obtain ⟨fn, k1, k2, k3, k4, k5⟩ := h
  rw [run_callFunc_extern k1 k2 k3 k4 k5]
theorem extS_ok {P : Program} {L : Lay} (hL : LayOk P L) {t e g vo sw ln s1 s2 s9 : Nat} (S : SortS P L t e g vo sw ln s1 s2 s9) : ExtMOk P (extS L t e g vo sw ln s1 s2 s9) := by
  intro f xs H ef h ρ n0 lo fz H' hG
  unfold extS at h
  split at h
  · rename_i t' x
    split at h
    · rename_i n ht hx
      have ht := Nat.eq_of_beq_eq_true ht
      subst ht
      have hx' := sliceLen_ren (ρ := ρ) hx
      split at h
      · rename_i hvo
        have hvo := Nat.eq_of_beq_eq_true hvo
        subst hvo
        cases h
        intro fr w vs s hr
        simp only [renL, ren] at hr
        cases hr with | cons ha hr =>
        cases hr
        cases ha with | iface _ _ v hv =>
        obtain ⟨p, c, rfl⟩ := sliceLen_rep hx' hv
        refine ⟨.agg #[typeHandle P t', .pointer (some ⟨w.heap.size, 0, none⟩), .int .u64 151], w.alloc (.cells #[.slice p n c] t'), _, H', ?_, ⟨rfl, rfl⟩, s.newU _, ?_, Ext.newU ..⟩
        · rw [run_ext S.xv, show (Extern.ReflectliteValue.unpack ((#[Value.iface t' (.slice p n c)] : Array Value).getD 0 (.tuple #[]))).run P w = _ from Lib.run_valueOf_slice (P := P) t' e S.i S.hi S.hd p n c w]
          rfl
        · simp only [ren, renL]
          have hst := (Ext.newU H' w (.cells #[.slice p n c] t')).stays (fr := fr)
          refine Rep.agg_of (.cons ?_ (.cons ?_ (.cons (.int _ _ ?_) .nil)))
          · have := Rep.abs (w := w.alloc (.cells #[.slice p n c] t')) (own := own fr H') g t'
            rw [← S.hg] at this ⊢
            exact this
          · refine Rep.dp_of (vs := [.slice p n c]) (.cons (hv.mono hst) .nil) (fun j v hj => ?_) (fun ho => ?_)
            · cases j with
              | zero =>
                simp only [List.getElem?_cons_zero, Option.some.injEq] at hj
                subst hj
                unfold World.cell?
                rw [add_plain, heap_alloc_new]
                rfl
              | succ j => simp at hj
            · obtain ⟨h1, h2⟩ := own_new s
              rcases ho with ho | ho
              · exact h2 ho
              · exact h1 ho
          · unfold inR IntKind.min IntKind.max; decide
      · rename_i hvo hsw
        have hsw := Nat.eq_of_beq_eq_true hsw
        subst hsw
        have key : ∀ (k fk : Nat) (bs : List A), P.funcs.findIdx? (·.name == "internal/reflectlite" ++ ".Swapper$" ++ toString k) = some fk → Lib.swapperK n S.ie S.ke = k → (k ≤ 2 → bs = []) → (¬ k ≤ 2 → bs = [ren ρ x, .abs g e]) →
            ExtSem P f (renL ρ [.iface t' x]) H' fun r K => r = .fn fk [] bs ∧ K = H' := by
          intro k fk bs hf hk hb1 hb2 fr w vs s hr
          simp only [renL, ren] at hr
          cases hr with | cons ha hr =>
          cases hr
          cases ha with | iface _ _ v hv =>
          have hv0 := hv
          obtain ⟨p, c, rfl⟩ := sliceLen_rep hx' hv
          have hrun := Lib.run_swapper_slice (P := P) t' e S.i S.ie S.hi S.hd S.hie S.ke S.hke p n c fk (by rw [hk]; exact hf) w
          refine ⟨.func (.func fk) #[] (if Lib.swapperK n S.ie S.ke ≤ 2 then #[] else #[Value.slice p n c, typeHandle P e]), w, _, H', ?_, ⟨rfl, rfl⟩, s, ?_, Ext.refl ..⟩
          · rw [run_ext S.xs]
            show ((Extern.ReflectliteSwapper.swapper "internal/reflectlite" (Extern.ReflectliteValue.valueError "Swapper") #[.iface t' (.slice p n c)]).run P w).andThen _ = _
            rw [hrun]
            rfl
          · rw [hk]
            by_cases hk2 : k ≤ 2
            · rw [if_pos hk2, hb1 hk2]; exact Rep.fn_of (us := []) (vs := []) .nil .nil
            · rw [if_neg hk2, hb2 hk2]
              have ha := Rep.abs (w := w) (own := own fr H') g e
              rw [← S.hg] at ha ⊢
              exact Rep.fn_of (us := []) (vs := [_, _]) .nil (.cons hv0 (.cons ha .nil))
        split at h
        · cases h
          exact key 1 s1 [] S.f1 rfl (fun _ => rfl) (fun h => absurd (by omega) h)
        · cases h
          exact key 2 s2 [] S.f2 rfl (fun _ => rfl) (fun h => absurd (by omega) h)
        · rename_i h0 h1
          cases h
          have hn : 2 ≤ n := by
            cases n with
            | zero => exact absurd rfl h0
            | succ n => cases n with
              | zero => exact absurd rfl h1
              | succ n => omega
          exact key 9 s9 [ren ρ x, .abs g e] S.f9 (S.hk9 n hn) (fun h => absurd h (by omega)) (fun _ => rfl)
      · cases h
    · cases h
  · rename_i g' t' x k
    split at h
    · rename_i n hc hx
      simp only [Bool.and_eq_true, decide_eq_true_eq] at hc
      obtain ⟨⟨⟨hf, hg⟩, ht⟩, rfl⟩ := hc
      have hf := Nat.eq_of_beq_eq_true hf
      have hg := Nat.eq_of_beq_eq_true hg
      have ht := Nat.eq_of_beq_eq_true ht
      subst hf; subst hg; subst ht
      have hx' := sliceLen_ren (ρ := ρ) hx
      split at h
      · rename_i hn
        cases h
        intro fr w vs s hr
        simp only [renL, ren] at hr
        cases hr with | cons ha hr =>
        cases hr
        obtain ⟨cs, rfl, hl⟩ := ha.agg_inv
        obtain ⟨l⟩ := cs
        simp only at hl
        cases hl with | cons h1 hl =>
        cases hl with | cons h2 hl =>
        cases hl with | cons h3 hl =>
        cases hl
        cases h1
        cases h3
        obtain ⟨a, us, rfl, hru, hca, _⟩ := h2.dp_inv
        cases hru with | cons hv hru =>
        cases hru
        obtain ⟨p, c, rfl⟩ := sliceLen_rep hx' hv
        have hcell : w.cell? a = some (.slice p n c) := by
          have := hca 0 _ rfl
          simpa [Addr.add_zero'] using this
        have hrun := Lib.run_valueLen_slice (P := P) t' e S.i S.hi S.hd S.hpk a p n c w hcell
        refine ⟨.int .i64 n, w, _, H', ?_, ⟨rfl, rfl⟩, s, ?_, Ext.refl ..⟩
        · rw [run_ext S.xl]
          have : typeHandle P t' = .pointer (some ⟨g', t', none⟩) := by rw [typeHandle, S.hg]
          rw [this] at hrun
          show ((Extern.ReflectliteValue.method (Extern.ReflectliteValue.valueError "reflectlite.Value.Len" 0) Extern.ReflectliteValue.len #[.agg #[.pointer (some ⟨g', t', none⟩), .pointer (some a), .int .u64 151]]).run P w).andThen _ = _
          rw [hrun]
          rfl
        · simp only [ren]
          have := Nat.le_of_ble_eq_true hn
          exact .int _ _ (inR_i64.2 ⟨by omega, by omega⟩)
      · cases h
    · cases h
  · rename_i i j r sz off n g' e'
    split at h
    · rename_i ei Te sz' elems hc hei hrow
      simp only [Bool.and_eq_true, decide_eq_true_eq] at hc
      obtain ⟨⟨⟨hf, hg⟩, he⟩, hi0, hin, hj0, hjn⟩ := hc
      have hf := Nat.eq_of_beq_eq_true hf
      have hg := Nat.eq_of_beq_eq_true hg
      have he := Nat.eq_of_beq_eq_true he
      subst hf; subst hg; subst he
      split at h
      · rename_i a b hsz ha hb
        simp only [Bool.and_eq_true] at hsz
        have hsz1 := Nat.eq_of_beq_eq_true hsz.1
        have hsz2 := Nat.eq_of_beq_eq_true hsz.2
        subst hsz1
        cases h
        refine ⟨_, hrow, fun H'' hat fr w vs s hr => ?_⟩
        obtain ⟨i, rfl⟩ := Int.eq_ofNat_of_zero_le hi0
        obtain ⟨j, rfl⟩ := Int.eq_ofNat_of_zero_le hj0
        simp only [Int.toNat_natCast] at ha hb hat
        simp only [renL, ren] at hr
        cases hr with | cons h1 hr =>
        cases hr with | cons h2 hr =>
        cases hr with | cons h3 hr =>
        cases hr with | cons h4 hr =>
        cases hr
        cases h1; cases h2; cases h4
        cases h3 with | os _ _ _ _ cap hrr hcap hmax hroom =>
        simp only [renB] at hat
        have e1 : renLL ρ ((elems.set (off + i) b).set (off + j) a) = ((renLL ρ elems).set (off + i) (renL ρ b)).set (off + j) (renL ρ a) := by rw [renLL_set, renLL_set]
        rw [e1] at hat
        have hei' : ei = S.ei := Option.some.inj (hei.symm.trans S.hei)
        obtain ⟨w', h1, h2, h3⟩ := swap_row (P := P) (hL _ _ hei) (by rw [hei']; exact S.hagg) s (n := n) (by omega) (by omega) hat (by rw [renLL_get, ha]; rfl) (by rw [renLL_get, hb]; rfl) hsz2 cap
        have : typeHandle P e' = .pointer (some ⟨g', e', none⟩) := by rw [typeHandle, S.hg]
        rw [this] at h1
        refine ⟨.tuple #[], w', _, H'', ?_, ⟨rfl, rfl⟩, h2, ?_, h3⟩
        · rw [run_ext S.x9]
          show ((Extern.ReflectliteSwapper.swap false #[.int .i64 i, .int .i64 j, .slice (some ⟨ρ r, off * sz, none⟩) n cap, .pointer (some ⟨g', e', none⟩)]).run P w).andThen _ = _
          rw [h1]
          rfl
        · simp only [ren, renL]; exact Rep.tup_of .nil
      · cases h
    · cases h
  · cases h
end Go.Abs

