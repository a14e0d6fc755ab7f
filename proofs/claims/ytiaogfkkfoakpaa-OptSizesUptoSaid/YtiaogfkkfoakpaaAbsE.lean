/- The evaluator and why it is right. -/
import Derived.Lib.Bytealg
import Derived.Test.YtiaogfkkfoakpaaAbsD
set_option linter.unusedVariables false
set_option linter.unusedSimpArgs false
namespace Go.Abs
open Go
set_option linter.unusedVariables false
set_option linter.unusedSimpArgs false
/-! The evaluator, and why it is right. -/
def EnvS (n : Nat) (T : Tre A) : Prop := ∀ t x, T.get t = some x → scope n x = true
def putC (d : Option Nat) (v : A) (T : Tre A) : Tre A := match d with
  | some d => Tre.set 40 T d (some v)
  | none => T
theorem EnvR.put {ρ : Nat → Nat} {T : Tre A} {T' : Env} (h : EnvR ρ T T') (d : Option Nat) (v : A) : EnvR ρ (putC d v T) (Go.Abs.put d (ren ρ v) T') := by
  intro t x hx
  cases d with
  | none => exact h t x hx
  | some d =>
    simp only [Go.Abs.put, get_put]
    rcases Tre.get_set _ _ _ _ _ _ hx with ⟨h1, h2⟩ | ⟨h1, h2⟩
    · cases h2; rw [if_pos h1.symm]
    · rw [if_neg (fun e => h1 e.symm)]; exact h t x h2
theorem EnvS.put {n : Nat} {T : Tre A} (h : EnvS n T) (d : Option Nat) {v : A} (hv : scope n v = true) : EnvS n (putC d v T) := by
  intro t x hx
  cases d with
  | none => exact h t x hx
  | some d =>
    rcases Tre.get_set _ _ _ _ _ _ hx with ⟨h1, h2⟩ | ⟨h1, h2⟩
    · cases h2; exact hv
    · exact h t x h2
theorem EnvS.mono {n m : Nat} {T : Tre A} (h : EnvS n T) (hm : n ≤ m) : EnvS m T := fun t x hx => scope_mono hm x (h t x hx)
theorem EnvR.later {ρ ρ1 : Nat → Nat} {n : Nat} {T : Tre A} {T' : Env} (h : EnvR ρ T T') (hs : EnvS n T) (ha : ∀ i, i < n → ρ1 i = ρ i) : EnvR ρ1 T T' :=
  fun t x hx => by rw [ren_congr ha x (hs t x hx)]; exact h t x hx
theorem EnvS.ev {n : Nat} {T : Tre A} (h : EnvS n T) {x : Operand} {v : A} (hv : evC T x = some v) : scope n v = true := by
  cases x with
  | tmp t => exact h t v hv
  | const c => exact scope_mono (Nat.zero_le n) v (ofConst_scope hv)
  | func f => simp only [evC] at hv; cases hv; rfl
  | global g => cases hv
theorem scopeL_append {n : Nat} : ∀ {l m : List A}, scopeL n l = true → scopeL n m = true → scopeL n (l ++ m) = true
  | [], m, _, h => h
  | a :: l, m, h, k => by simp only [scopeL, Bool.and_eq_true, List.cons_append] at *; exact ⟨h.1, scopeL_append h.2 k⟩
theorem EnvS.evs {n : Nat} {T : Tre A} (h : EnvS n T) : ∀ {l : List Operand} {vs : List A}, evsC T l = some vs → scopeL n vs = true
  | [], vs, hv => by simp only [evsC] at hv; cases hv; rfl
  | x :: l, vs, hv => by
    simp only [evsC] at hv
    split at hv
    · rename_i y hy
      split at hv
      · rename_i r hr
        cases hv
        simp only [scopeL, Bool.and_eq_true]; exact ⟨h.ev hy, h.evs hr⟩
      · cases hv
    · cases hv
/-- From one state to a later one. -/
structure Ltr (ρ : Nat → Nat) (n : Nat) (fz : Nat → Prop) (H' : Heap) (ρ1 : Nat → Nat) (n1 : Nat) (H1' : Heap) : Prop where
  agree : ∀ i, i < n → ρ1 i = ρ i
  le : n ≤ n1
  keep : ∀ p ∈ H', fz p.1 → p ∈ H1'
theorem Ltr.refl (ρ : Nat → Nat) (n : Nat) (fz : Nat → Prop) (H' : Heap) : Ltr ρ n fz H' ρ n H' := ⟨fun _ _ => rfl, Nat.le_refl _, fun _ h _ => h⟩
theorem Ltr.trans {ρ ρ1 ρ2 : Nat → Nat} {n n1 n2 : Nat} {fz : Nat → Prop} {H H1 H2 : Heap} (a : Ltr ρ n fz H ρ1 n1 H1) (b : Ltr ρ1 n1 fz H1 ρ2 n2 H2) : Ltr ρ n fz H ρ2 n2 H2 :=
  ⟨fun i h => (b.agree i (Nat.lt_of_lt_of_le h a.le)).trans (a.agree i h), Nat.le_trans a.le b.le, fun p h k => b.keep p (a.keep p h k) k⟩
def Out (ρ : Nat → Nat) (n lo : Nat) (fz : Nat → Prop) (H' : Heap) (v : A) (H1 : Tre Blk) (n1 : Nat) : A → Heap → Prop :=
  fun r H1' => ∃ ρ1, r = ren ρ1 v ∧ scope n1 v = true ∧ Good ρ1 n1 lo fz H1 H1' ∧ Ltr ρ n fz H' ρ1 n1 H1'
def CallOk (P : Program) (call : Nat → FuncId → List A → Tre Blk → Nat → Option (A × Tre Blk × Nat)) : Prop :=
  ∀ lo f args H n v H1 n1, call lo f args H n = some (v, H1, n1) → ∀ ρ fz H', scopeL n args = true → Good ρ n lo fz H H' → Tr P f (renL ρ args) H' (Out ρ n lo fz H' v H1 n1)
def eApply (lo : Nat) (H : Tre Blk) (n : Nat) : Eff → Option (A × Tre Blk × Nat)
  | .pure v => match scope n v with
    | true => some (v, H, n)
    | false => none
  | .new m b => match scopeB n b with
    | true => some (m.on n, Tre.set 40 H n (some b), n + 1)
    | false => none
  | .write v i b => match scopeB n b, scope n v, Nat.ble lo i with
    | true, true, true => some (v, Tre.set 40 H i (some b), n)
    | _, _, _ => none
  | .swap m i b => match scopeB n b, Nat.ble lo i with
    | true, true => some (m.on n, Tre.set 40 (Tre.set 40 H i none) n (some b), n + 1)
    | _, _ => none
  | .free v i => match scope n v, Nat.ble lo i with
    | true, true => some (v, Tre.set 40 H i none, n)
    | _, _ => none
def upd (ρ : Nat → Nat) (n r : Nat) : Nat → Nat := fun i => if i = n then r else ρ i
theorem upd_at {ρ : Nat → Nat} {n r : Nat} : upd ρ n r n = r := by simp [upd]
theorem upd_lt {ρ : Nat → Nat} {n r i : Nat} (h : i < n) : upd ρ n r i = ρ i := by simp only [upd]; rw [if_neg (by omega)]
theorem Mk.scope (m : Mk) (n : Nat) : Go.Abs.scope (n + 1) (m.on n) = true := by cases m <;> simp [Mk.on, Go.Abs.scope, Nat.blt_eq]
theorem keys_mem {H : Heap} {p : Nat × Blk} (h : p ∈ H) : p.1 ∈ keys H := List.mem_map.2 ⟨p, h, rfl⟩
section
variable {ρ : Nat → Nat} {n lo : Nat} {fz : Nat → Prop} {H : Tre Blk} {H' : Heap}
theorem Good.new (g : Good ρ n lo fz H H') {r : Nat} (hr : r ∉ keys H') {b : Blk} (hb : scopeB n b = true) : Good (upd ρ n r) (n + 1) lo fz (Tre.set 40 H n (some b)) ((r, renB ρ b) :: H') where
  mem i c h := by
    rcases Tre.get_set _ _ _ _ _ _ h with ⟨h1, h2⟩ | ⟨h1, h2⟩
    · subst h1; cases h2
      refine ⟨Nat.lt_succ_self _, scopeB_mono (Nat.le_succ _) _ hb, ?_⟩
      rw [upd_at, renB_congr (ρ' := ρ) (fun i hi => upd_lt hi) b hb]
      exact List.mem_cons_self ..
    · obtain ⟨k1, k2, k3⟩ := g.mem i c h2
      refine ⟨Nat.lt_succ_of_lt k1, scopeB_mono (Nat.le_succ _) _ k2, ?_⟩
      rw [upd_lt k1, renB_congr (ρ' := ρ) (fun i hi => upd_lt hi) c k2]
      exact List.mem_cons_of_mem _ k3
  inj i j b' c h k e := by
    rcases Tre.get_set _ _ _ _ _ _ h with ⟨h1, h2⟩ | ⟨h1, h2⟩ <;> rcases Tre.get_set _ _ _ _ _ _ k with ⟨k1, k2⟩ | ⟨k1, k2⟩
    · rw [h1, k1]
    · obtain ⟨m1, _, m3⟩ := g.mem j c k2
      rw [h1, upd_at, upd_lt m1] at e
      exact absurd (e ▸ keys_mem m3) hr
    · obtain ⟨m1, _, m3⟩ := g.mem i b' h2
      rw [k1, upd_at, upd_lt m1] at e
      exact absurd (e ▸ keys_mem m3) hr
    · rw [upd_lt (g.mem i b' h2).1, upd_lt (g.mem j c k2).1] at e
      exact g.inj i j b' c h2 k2 e
  nodup := List.nodup_cons.2 ⟨hr, g.nodup⟩
  fz i c h hlo := by
    rcases Tre.get_set _ _ _ _ _ _ h with ⟨h1, h2⟩ | ⟨h1, h2⟩
    · rw [h1, upd_at]; exact fun hf => hr (g.fzk r hf)
    · rw [upd_lt (g.mem i c h2).1]; exact g.fz i c h2 hlo
  fzk k hk := List.mem_cons_of_mem _ (g.fzk k hk)
theorem Good.write (g : Good ρ n lo fz H H') {i : Nat} {b b' : Blk} (hi : H.get i = some b) (hb : scopeB n b' = true) {H'' : Heap} (hat : At H' (ρ i) (renB ρ b) (renB ρ b') H'') : Good ρ n lo fz (Tre.set 40 H i (some b')) H'' where
  mem j c h := by
    rcases Tre.get_set _ _ _ _ _ _ h with ⟨h1, h2⟩ | ⟨h1, h2⟩
    · subst h1; cases h2
      exact ⟨(g.mem _ _ hi).1, hb, hat.new⟩
    · obtain ⟨k1, k2, k3⟩ := g.mem j c h2
      exact ⟨k1, k2, hat.other k3 (fun e => h1 (g.inj _ _ _ _ h2 hi e))⟩
  inj j k c d h h' e := by
    rcases Tre.get_set _ _ _ _ _ _ h with ⟨h1, h2⟩ | ⟨h1, h2⟩ <;> rcases Tre.get_set _ _ _ _ _ _ h' with ⟨k1, k2⟩ | ⟨k1, k2⟩
    · rw [h1, k1]
    · rw [h1] at e ⊢; exact g.inj _ _ _ _ hi k2 e
    · rw [k1] at e ⊢; exact g.inj _ _ _ _ h2 hi e
    · exact g.inj _ _ _ _ h2 k2 e
  nodup := by rw [hat.keys]; exact g.nodup
  fz j c h hlo := by
    rcases Tre.get_set _ _ _ _ _ _ h with ⟨h1, h2⟩ | ⟨h1, h2⟩
    · rw [h1] at hlo ⊢; exact g.fz _ _ hi hlo
    · exact g.fz _ _ h2 hlo
  fzk k hk := by rw [hat.keys]; exact g.fzk k hk
theorem Good.swap (g : Good ρ n lo fz H H') {i : Nat} {b b' : Blk} (hi : H.get i = some b) (hlo : lo ≤ i) (hb : scopeB n b' = true) {Hr : Heap} (hp : H'.Perm ((ρ i, renB ρ b) :: Hr)) {r : Nat} (hr : r ∉ keys Hr) :
    Good (upd ρ n r) (n + 1) lo fz (Tre.set 40 (Tre.set 40 H i none) n (some b')) ((r, renB ρ b') :: Hr) := by
  have hnd : (keys ((ρ i, renB ρ b) :: Hr)).Nodup := (hp.map _).nodup_iff.1 g.nodup
  have hold : ∀ j c, (Tre.set 40 H i none).get j = some c → j ≠ i ∧ H.get j = some c ∧ j < n ∧ scopeB n c = true ∧ (ρ j, renB ρ c) ∈ Hr := by
    intro j c h
    rcases Tre.get_set _ _ _ _ _ _ h with ⟨h1, h2⟩ | ⟨h1, h2⟩
    · cases h2
    · obtain ⟨k1, k2, k3⟩ := g.mem j c h2
      refine ⟨h1, h2, k1, k2, ?_⟩
      rcases List.mem_cons.1 (hp.mem_iff.1 k3) with e | e
      · exact absurd (g.inj _ _ _ _ h2 hi (Prod.mk.inj e).1) h1
      · exact e
  have hfi := g.fz i b hi hlo
  have hk : ∀ k, fz k → k ∈ keys Hr := by
    intro k hk
    have := (hp.map (·.1)).mem_iff.1 (g.fzk k hk)
    rcases List.mem_cons.1 this with e | e
    · subst e; exact absurd hk hfi
    · exact e
  refine ⟨fun j c h => ?_, fun j k c d h h' e => ?_, List.nodup_cons.2 ⟨hr, (List.nodup_cons.1 hnd).2⟩, fun j c h hl => ?_, fun k h => List.mem_cons_of_mem _ (hk k h)⟩
  · rcases Tre.get_set _ _ _ _ _ _ h with ⟨h1, h2⟩ | ⟨h1, h2⟩
    · subst h1; cases h2
      refine ⟨Nat.lt_succ_self _, scopeB_mono (Nat.le_succ _) _ hb, ?_⟩
      rw [upd_at, renB_congr (ρ' := ρ) (fun i hi => upd_lt hi) _ hb]
      exact List.mem_cons_self ..
    · obtain ⟨_, _, k1, k2, k3⟩ := hold j c h2
      refine ⟨Nat.lt_succ_of_lt k1, scopeB_mono (Nat.le_succ _) _ k2, ?_⟩
      rw [upd_lt k1, renB_congr (ρ' := ρ) (fun i hi => upd_lt hi) c k2]
      exact List.mem_cons_of_mem _ k3
  · rcases Tre.get_set _ _ _ _ _ _ h with ⟨h1, h2⟩ | ⟨h1, h2⟩ <;> rcases Tre.get_set _ _ _ _ _ _ h' with ⟨k1, k2⟩ | ⟨k1, k2⟩
    · rw [h1, k1]
    · obtain ⟨_, _, m1, _, m3⟩ := hold _ _ k2
      rw [h1, upd_at, upd_lt m1] at e
      exact absurd (e ▸ keys_mem m3) hr
    · obtain ⟨_, _, m1, _, m3⟩ := hold _ _ h2
      rw [k1, upd_at, upd_lt m1] at e
      exact absurd (e ▸ keys_mem m3) hr
    · obtain ⟨_, a2, a3, _, _⟩ := hold _ _ h2
      obtain ⟨_, b2, b3, _, _⟩ := hold _ _ k2
      rw [upd_lt a3, upd_lt b3] at e
      exact g.inj _ _ _ _ a2 b2 e
  · rcases Tre.get_set _ _ _ _ _ _ h with ⟨h1, h2⟩ | ⟨h1, h2⟩
    · rw [h1, upd_at]; exact fun hf => hr (hk r hf)
    · obtain ⟨_, a2, a3, _, _⟩ := hold _ _ h2
      rw [upd_lt a3]; exact g.fz _ _ a2 hl
theorem Good.free (g : Good ρ n lo fz H H') {i : Nat} {b : Blk} (hi : H.get i = some b) (hlo : lo ≤ i) {Hr : Heap} (hp : H'.Perm ((ρ i, renB ρ b) :: Hr)) : Good ρ n lo fz (Tre.set 40 H i none) Hr := by
  have hnd : (keys ((ρ i, renB ρ b) :: Hr)).Nodup := (hp.map _).nodup_iff.1 g.nodup
  have hold : ∀ j c, (Tre.set 40 H i none).get j = some c → j ≠ i ∧ H.get j = some c ∧ j < n ∧ scopeB n c = true ∧ (ρ j, renB ρ c) ∈ Hr := by
    intro j c h
    rcases Tre.get_set _ _ _ _ _ _ h with ⟨h1, h2⟩ | ⟨h1, h2⟩
    · cases h2
    · obtain ⟨k1, k2, k3⟩ := g.mem j c h2
      refine ⟨h1, h2, k1, k2, ?_⟩
      rcases List.mem_cons.1 (hp.mem_iff.1 k3) with e | e
      · exact absurd (g.inj _ _ _ _ h2 hi (Prod.mk.inj e).1) h1
      · exact e
  have hfi := g.fz i b hi hlo
  refine ⟨fun j c h => ?_, fun j k c d h h' e => g.inj _ _ _ _ (hold _ _ h).2.1 (hold _ _ h').2.1 e, (List.nodup_cons.1 hnd).2, fun j c h hl => g.fz _ _ (hold _ _ h).2.1 hl, fun k hk => ?_⟩
  · obtain ⟨_, _, k1, k2, k3⟩ := hold _ _ h
    exact ⟨k1, k2, k3⟩
  · have := (hp.map (·.1)).mem_iff.1 (g.fzk k hk)
    rcases List.mem_cons.1 this with e | e
    · subst e; exact absurd hk hfi
    · exact e
theorem eApply_ok {P : Program} {N : Nat} {o : Oper} {T' : Env} {e : Eff} (he : EffOk P N ρ H o T' H' e) (g : Good ρ n lo fz H H') {v : A} {H1 : Tre Blk} {n1 : Nat} (h : eApply lo H n e = some (v, H1, n1))
    {ops rest : List Oper} {Q : Exit → Env → Heap → Prop} (k : ∀ r H1', Out ρ n lo fz H' v H1 n1 r H1' → AOps P N ops rest Q (put o.dst r T') H1') : AOp P N ops o rest Q T' H' := by
  cases e with
  | pure x =>
    simp only [eApply] at h
    split at h
    · rename_i hs
      cases h
      exact he ops rest Q (k _ _ ⟨ρ, rfl, hs, g, Ltr.refl ..⟩)
    · cases h
  | new m b =>
    simp only [eApply] at h
    split at h
    · rename_i hs
      cases h
      refine he ops rest Q fun r hr => k _ _ ⟨upd ρ n r, by rw [Mk.ren, upd_at], m.scope n, g.new hr hs, fun i hi => upd_lt hi, Nat.le_succ _, fun p hp _ => List.mem_cons_of_mem _ hp⟩
    · cases h
  | write x i b' =>
    simp only [eApply] at h
    split at h
    · rename_i hb hs hl
      cases h
      obtain ⟨b, hi, he⟩ := he
      obtain ⟨H'', hat⟩ := At.of_mem (renB ρ b') (g.mem _ _ hi).2.2
      refine he ops rest Q H'' hat (k _ _ ⟨ρ, rfl, hs, g.write hi hb hat, fun _ _ => rfl, Nat.le_refl _, fun p hp hf => hat.other hp fun e => ?_⟩)
      rw [e] at hf
      exact g.fz i b hi (Nat.le_of_ble_eq_true hl) hf
    · cases h
  | swap m i b' =>
    simp only [eApply] at h
    split at h
    · rename_i hb hl
      cases h
      obtain ⟨b, Hr, hi, hp, he⟩ := he
      refine he ops rest Q fun r hr => k _ _ ⟨upd ρ n r, by rw [Mk.ren, upd_at], m.scope n, g.swap hi (Nat.le_of_ble_eq_true hl) hb hp hr, fun i hi => upd_lt hi, Nat.le_succ _, fun p hp' hf => ?_⟩
      rcases List.mem_cons.1 (hp.mem_iff.1 hp') with e | e
      · rw [e] at hf; exact absurd hf (g.fz i b hi (Nat.le_of_ble_eq_true hl))
      · exact List.mem_cons_of_mem _ e
    · cases h
  | free x i =>
    simp only [eApply] at h
    split at h
    · rename_i hs hl
      cases h
      obtain ⟨b, Hr, hi, hp, he⟩ := he
      refine he ops rest Q (k _ _ ⟨ρ, rfl, hs, g.free hi (Nat.le_of_ble_eq_true hl) hp, fun _ _ => rfl, Nat.le_refl _, fun p hp' hf => ?_⟩)
      rcases List.mem_cons.1 (hp.mem_iff.1 hp') with e | e
      · rw [e] at hf; exact absurd hf (g.fz i b hi (Nat.le_of_ble_eq_true hl))
      · exact e
    · cases h
theorem fresh (l : List Nat) : ∃ r, r ∉ l := by
  refine ⟨l.foldl max 0 + 1, fun h => ?_⟩
  have key : ∀ (l : List Nat) (m : Nat), m ≤ l.foldl max m ∧ ∀ x ∈ l, x ≤ l.foldl max m := by
    intro l
    induction l with
    | nil => intro m; exact ⟨Nat.le_refl _, fun x hx => by cases hx⟩
    | cons y l ih =>
      intro m
      obtain ⟨h1, h2⟩ := ih (max m y)
      simp only [List.foldl_cons]
      refine ⟨by omega, fun x hx => ?_⟩
      rcases List.mem_cons.1 hx with rfl | hx
      · omega
      · exact h2 x hx
  have := (key l 0).2 _ h
  omega
theorem eApply_ne {P : Program} {N : Nat} {o : Oper} {T' : Env} {e : Eff} (he : EffOk P N ρ H o T' H' e) (g : Good ρ n lo fz H H') {v : A} {H1 : Tre Blk} {n1 : Nat} (h : eApply lo H n e = some (v, H1, n1)) : ∃ r H1', Out ρ n lo fz H' v H1 n1 r H1' := by
  cases e with
  | pure x =>
    simp only [eApply] at h
    split at h
    · rename_i hs
      cases h
      exact ⟨_, _, ρ, rfl, hs, g, Ltr.refl ..⟩
    · cases h
  | new m b =>
    simp only [eApply] at h
    split at h
    · rename_i hs
      cases h
      obtain ⟨r, hr⟩ := fresh (keys H')
      exact ⟨_, _, upd ρ n r, rfl, m.scope n, g.new hr hs, fun i hi => upd_lt hi, Nat.le_succ _, fun p hp _ => List.mem_cons_of_mem _ hp⟩
    · cases h
  | write x i b' =>
    simp only [eApply] at h
    split at h
    · rename_i hb hs hl
      cases h
      obtain ⟨b, hi, he⟩ := he
      obtain ⟨H'', hat⟩ := At.of_mem (renB ρ b') (g.mem _ _ hi).2.2
      refine ⟨_, _, ρ, rfl, hs, g.write hi hb hat, fun _ _ => rfl, Nat.le_refl _, fun p hp hf => hat.other hp fun e => ?_⟩
      rw [e] at hf
      exact g.fz i b hi (Nat.le_of_ble_eq_true hl) hf
    · cases h
  | swap m i b' =>
    simp only [eApply] at h
    split at h
    · rename_i hb hl
      cases h
      obtain ⟨b, Hr, hi, hp, he⟩ := he
      obtain ⟨r, hr⟩ := fresh (keys Hr)
      refine ⟨_, _, upd ρ n r, rfl, m.scope n, g.swap hi (Nat.le_of_ble_eq_true hl) hb hp hr, fun i hi => upd_lt hi, Nat.le_succ _, fun p hp' hf => ?_⟩
      rcases List.mem_cons.1 (hp.mem_iff.1 hp') with e | e
      · rw [e] at hf; exact absurd hf (g.fz i b hi (Nat.le_of_ble_eq_true hl))
      · exact List.mem_cons_of_mem _ e
    · cases h
  | free x i =>
    simp only [eApply] at h
    split at h
    · rename_i hs hl
      cases h
      obtain ⟨b, Hr, hi, hp, he⟩ := he
      refine ⟨_, _, ρ, rfl, hs, g.free hi (Nat.le_of_ble_eq_true hl) hp, fun _ _ => rfl, Nat.le_refl _, fun p hp' hf => ?_⟩
      rcases List.mem_cons.1 (hp.mem_iff.1 hp') with e | e
      · rw [e] at hf; exact absurd hf (g.fz i b hi (Nat.le_of_ble_eq_true hl))
      · exact e
    · cases h
end
end Go.Abs

namespace Go.Abs
open Go
set_option linter.unusedVariables false
set_option linter.unusedSimpArgs false
/-! What a call in a drawn region gives: told without the blocks that it made. -/
def optL (f : A → Option A) : List A → Option (List A)
  | [] => some []
  | a :: l => match f a with
    | some b => match optL f l with
      | some m => some (b :: m)
      | none => none
    | none => none
def optLL (f : A → Option A) : List (List A) → Option (List (List A))
  | [] => some []
  | a :: l => match optL f a with
    | some b => match optLL f l with
      | some m => some (b :: m)
      | none => none
    | none => none
def deepC (n : Nat) (H : Tre Blk) : Nat → A → Option A
  | 0, _ => none
  | k + 1, v => match scope n v with
    | true => some v
    | false => match v with
      | .os r sz off len => match H.get r with
        | some (.row _ sz' elems) => match Nat.ble n r, Nat.beq sz sz', Nat.ble (off + len) elems.length with
          | true, true, true => match optLL (deepC n H k) ((elems.drop off).take len) with
            | some es => some (.ds es)
            | none => none
          | _, _, _ => none
        | _ => none
      | .agg l => match optL (deepC n H k) l with
        | some m => some (.agg m)
        | none => none
      | .tup l => match optL (deepC n H k) l with
        | some m => some (.tup m)
        | none => none
      | _ => none
theorem optL_get {f : A → Option A} : ∀ {l m : List A}, optL f l = some m → m.length = l.length ∧ ∀ i (hi : i < l.length) (hj : i < m.length), f l[i] = some m[i]
  | [], m, h => by simp only [optL] at h; cases h; exact ⟨rfl, fun i hi => absurd hi (Nat.not_lt_zero i)⟩
  | a :: l, m, h => by
    simp only [optL] at h
    split at h
    · rename_i b hb
      split at h
      · rename_i m' hm
        cases h
        obtain ⟨h1, h2⟩ := optL_get hm
        refine ⟨by simp [h1], fun i hi hj => ?_⟩
        cases i with
        | zero => exact hb
        | succ i => exact h2 i (by simpa using hi) (by simpa using hj)
      · cases h
    · cases h
theorem optLL_get {f : A → Option A} : ∀ {l m : List (List A)}, optLL f l = some m → m.length = l.length ∧ ∀ i (hi : i < l.length) (hj : i < m.length), optL f l[i] = some m[i]
  | [], m, h => by simp only [optLL] at h; cases h; exact ⟨rfl, fun i hi => absurd hi (Nat.not_lt_zero i)⟩
  | a :: l, m, h => by
    simp only [optLL] at h
    split at h
    · rename_i b hb
      split at h
      · rename_i m' hm
        cases h
        obtain ⟨h1, h2⟩ := optLL_get hm
        refine ⟨by simp [h1], fun i hi hj => ?_⟩
        cases i with
        | zero => exact hb
        | succ i => exact h2 i (by simpa using hi) (by simpa using hj)
      · cases h
    · cases h
section
variable {ρ : Nat → Nat} {n n1 lo : Nat} {Z : Nat → Prop} {H : Tre Blk} {H' H2 : Heap}
theorem deep_rep (g : Good ρ n1 n Z H H') (hZ : ∀ k ∈ keys H2, Z k) {fr : Nat → Prop} {w : World} (s : Sim fr H' w) : ∀ (k : Nat) (v v2 : A) (u : Value), deepC n H k v = some v2 → Rep w (own fr H') (ren ρ v) u → Rep w (own fr H2) (ren ρ v2) u
  | 0, v, v2, u, h, _ => by simp [deepC] at h
  | k + 1, v, v2, u, h, hr => by
    have hless : Stays w (own fr H') w (own fr H2) := Stays.less fun j hj => by
      rcases hj with hj | hj
      · exact .inl hj
      · exact .inr (g.fzk j (hZ j hj))
    have hL : ∀ (l m : List A) (us : List Value), optL (deepC n H k) l = some m → RepL w (own fr H') (renL ρ l) us → RepL w (own fr H2) (renL ρ m) us := fun l m us hm hl => by
      obtain ⟨h1, h2⟩ := optL_get hm
      refine RepL.of_get _ _ (by rw [hl.length, renL_len, renL_len, h1]) fun i a hi => ?_
      rw [renL_get] at hi
      obtain ⟨a', ha, rfl⟩ := Option.map_eq_some_iff.1 hi
      obtain ⟨hj, he⟩ := List.getElem?_eq_some_iff.1 ha
      have hi' : i < l.length := by omega
      obtain ⟨x, hx, hxr⟩ := hl.get i (ren ρ l[i]) (by rw [renL_get, List.getElem?_eq_getElem hi']; rfl)
      refine ⟨x, hx, ?_⟩
      have := deep_rep g hZ s k _ _ x (h2 i hi' hj) hxr
      rw [he] at this
      exact this
    simp only [deepC] at h
    split at h
    · cases h; exact hr.mono hless
    · split at h
      · rename_i r sz off len hsc
        split at h
        · rename_i Te sz' elems hrow
          split at h
          · rename_i hn hsz hle
            have hn := Nat.le_of_ble_eq_true hn
            have hsz := Nat.eq_of_beq_eq_true hsz
            have hle := Nat.le_of_ble_eq_true hle
            subst hsz
            split at h
            · rename_i es hes
              cases h
              obtain ⟨h1, h2⟩ := optLL_get hes
              have hm := (g.mem _ _ hrow).2.2
              simp only [renB] at hm
              obtain ⟨c, g1, g2, g3, g4⟩ := s.ok _ hm
              simp only [ren] at hr ⊢
              cases hr with
              | os _ _ _ _ cap hrr hcap hmax hroom =>
              have hel : es.length = len := by rw [h1]; simp; omega
              have hpt : ∀ i (hi : i < (renLL ρ es).length) j (hj : j < (renLL ρ es)[i].length), ∃ x, c[(off + i) * sz + j]? = some x ∧ Rep w (own fr H2) (renLL ρ es)[i][j] x := fun i hi j hj => by
                have hi' : i < es.length := by simpa [renLL_len] using hi
                have hil : i < len := by omega
                have e1 : (renLL ρ es)[i] = renL ρ es[i] := by
                  have := renLL_get ρ es i
                  rw [List.getElem?_eq_getElem hi, List.getElem?_eq_getElem hi'] at this
                  exact Option.some.inj this
                have hq := h2 i (by rw [← h1]; exact hi') hi'
                have e2 : ((elems.drop off).take len)[i]'(by rw [← h1]; exact hi') = elems[off + i]'(by omega) := by simp
                rw [e2] at hq
                obtain ⟨q1, q2⟩ := optL_get hq
                have hj' : j < es[i].length := by rw [e1, renL_len] at hj; exact hj
                have e3 : (renLL ρ es)[i][j] = ren ρ es[i][j] := by
                  have := renL_get ρ es[i] j
                  rw [List.getElem?_eq_getElem hj'] at this
                  have h3 : (renLL ρ es)[i][j]? = (renL ρ es[i])[j]? := congrArg (fun z => z[j]?) e1
                  rw [List.getElem?_eq_getElem hj, this] at h3
                  exact Option.some.inj h3
                have hlen' : off + i < (renLL ρ elems).length := by rw [renLL_len]; omega
                have e4 : (renLL ρ elems)[off + i] = renL ρ (elems[off + i]'(by omega)) := by
                  have := renLL_get ρ elems (off + i)
                  rw [List.getElem?_eq_getElem hlen', List.getElem?_eq_getElem (show off + i < elems.length by omega)] at this
                  exact Option.some.inj this
                have hjl : j < (elems[off + i]'(by omega)).length := by omega
                have hjl' : j < ((renLL ρ elems)[off + i]).length := by rw [e4, renL_len]; exact hjl
                obtain ⟨x, x1, x2, _⟩ := g4 (off + i) hlen' j hjl'
                refine ⟨x, x1, ?_⟩
                rw [e3]
                refine deep_rep g hZ s k _ _ x (q2 j hjl hj') ?_
                have e5 : (renLL ρ elems)[off + i][j] = ren ρ ((elems[off + i]'(by omega))[j]) := by
                  have := renL_get ρ (elems[off + i]'(by omega)) j
                  rw [List.getElem?_eq_getElem hjl] at this
                  have h3 : (renLL ρ elems)[off + i][j]? = (renL ρ (elems[off + i]'(by omega)))[j]? := congrArg (fun z => z[j]?) e4
                  rw [List.getElem?_eq_getElem hjl', this] at h3
                  exact Option.some.inj h3
                rw [← e5]; exact x2
              have hcs : (renLL ρ es).length = len := by rw [renLL_len, hel]
              rw [← hcs]
              refine Rep.ds (renLL ρ es) ⟨ρ r, off * sz, none⟩ cap sz (fun i j => (c[(off + i) * sz + j]?).getD undef) (by rw [hcs]; exact hcap) hmax (fun i hi => ?_) (fun i j hi hj => ⟨?_, ?_⟩) (fun i hi j hj => ?_)
              · have hi' : i < es.length := by simpa [renLL_len] using hi
                have e1 : (renLL ρ es)[i] = renL ρ es[i] := by
                  have := renLL_get ρ es i
                  rw [List.getElem?_eq_getElem hi, List.getElem?_eq_getElem hi'] at this
                  exact Option.some.inj this
                have hq := h2 i (by rw [← h1]; exact hi') hi'
                have e2 : ((elems.drop off).take len)[i]'(by rw [← h1]; exact hi') = elems[off + i]'(by omega) := by simp
                rw [e2] at hq
                obtain ⟨q1, q2⟩ := optL_get hq
                have hlen' : off + i < (renLL ρ elems).length := by rw [renLL_len]; omega
                have e4 : (renLL ρ elems)[off + i] = renL ρ (elems[off + i]'(by omega)) := by
                  have := renLL_get ρ elems (off + i)
                  rw [List.getElem?_eq_getElem hlen', List.getElem?_eq_getElem (show off + i < elems.length by omega)] at this
                  exact Option.some.inj this
                have := g3 (off + i) hlen'
                rw [e4, renL_len] at this
                rw [e1, renL_len, q1, this]
              · rintro (hh | hh)
                · exact s.apart _ (keys_mem hm) hh
                · exact g.fz r _ hrow hn (hZ _ hh)
              · have hjl : j < ((renLL ρ es)[i]).length := by
                  have hi' : i < es.length := by simpa [renLL_len] using hi
                  have e1 : (renLL ρ es)[i] = renL ρ es[i] := by
                    have := renLL_get ρ es i
                    rw [List.getElem?_eq_getElem hi, List.getElem?_eq_getElem hi'] at this
                    exact Option.some.inj this
                  have hq := h2 i (by rw [← h1]; exact hi') hi'
                  have e2 : ((elems.drop off).take len)[i]'(by rw [← h1]; exact hi') = elems[off + i]'(by omega) := by simp
                  rw [e2] at hq
                  obtain ⟨q1, q2⟩ := optL_get hq
                  have hlen' : off + i < (renLL ρ elems).length := by rw [renLL_len]; omega
                  have e4 : (renLL ρ elems)[off + i] = renL ρ (elems[off + i]'(by omega)) := by
                    have := renLL_get ρ elems (off + i)
                    rw [List.getElem?_eq_getElem hlen', List.getElem?_eq_getElem (show off + i < elems.length by omega)] at this
                    exact Option.some.inj this
                  have := g3 (off + i) hlen'
                  rw [e4, renL_len] at this
                  rw [e1, renL_len, q1, this]; exact hj
                obtain ⟨x, x1, _⟩ := hpt i hi j hjl
                rw [add_plain, x1]
                have e6 : off * sz + (i * sz + j) = (off + i) * sz + j := by rw [Nat.add_mul]; omega
                simp only [e6, World.cell?, Option.getD_some]
                have g1' : w.heap[ρ r]? = some (.cells c Te (0, 0)) := g1
                simp [g1', x1]
              · obtain ⟨x, x1, x2⟩ := hpt i hi j hj
                simp only [x1, Option.getD_some]
                exact x2
            · cases h
          · cases h
        · cases h
      · rename_i l hsc
        split at h
        · rename_i m hm
          cases h
          simp only [ren] at hr ⊢
          obtain ⟨cs, rfl, hl⟩ := hr.agg_inv
          have := Rep.agg_of (hL _ _ _ hm hl)
          simpa using this
        · cases h
      · rename_i l hsc
        split at h
        · rename_i m hm
          cases h
          simp only [ren] at hr ⊢
          obtain ⟨cs, rfl, hl⟩ := hr.tup_inv
          have := Rep.tup_of (hL _ _ _ hm hl)
          simpa using this
        · cases h
      · cases h
end
section
variable {P : Program} {N : Nat} {Q : Exit → Env → Heap → Prop} {ops rest : List Oper}
theorem Sim.dropL {fr : Nat → Prop} {w : World} {H : Heap} : ∀ (G : Heap), Sim fr (G ++ H) w → Sim fr H w
  | [], s => s
  | p :: G, s => Sim.dropL G s.drop
theorem Ext.dropL {w w' : World} {H K : Heap} : ∀ (G : Heap), Ext H w K w' → Ext (G ++ H) w K w'
  | [], e => e
  | p :: G, e => (Ext.dropL G e).drop
theorem AOps.conv {d : Option Nat} {r r2 : A} {T' : Env} {H1 G H2 : Heap} (hp : H1.Perm (G ++ H2)) (hr : ∀ fr w v, Sim fr H1 w → Rep w (own fr H1) r v → Rep w (own fr H2) r2 v) (k : AOps P N ops rest Q (put d r2 T') H2) : AOps P N ops rest Q (put d r T') H1 := by
  refine ⟨fun fr w a s st => ?_⟩
  have s2 : Sim fr H2 w := Sim.dropL G (s.perm hp)
  have hless : Stays w (own fr H1) w (own fr H2) := Stays.less fun j hj => by
    rcases hj with hj | hj
    · exact .inl hj
    · refine .inr ((hp.map (·.1)).mem_iff.2 ?_)
      simp only [List.map_append, List.mem_append]
      exact .inr hj
  have st2 : St N w (own fr H2) (put d r2 T') a := by
    refine ⟨st.size, st.defers, fun t x hx => ?_⟩
    cases d with
    | none =>
      obtain ⟨v, h1, h2⟩ := st.at_ t x hx
      exact ⟨v, h1, h2.mono hless⟩
    | some d =>
      simp only [put, get_put] at hx
      split at hx
      · rename_i hdt
        cases hx
        obtain ⟨v, h1, h2⟩ := st.at_ t r (by simp only [put, get_put]; rw [if_pos hdt])
        exact ⟨v, h1, hr fr w v s h2⟩
      · rename_i hdt
        obtain ⟨v, h1, h2⟩ := st.at_ t x (by simp only [put, get_put]; rw [if_neg hdt]; exact hx)
        exact ⟨v, h1, h2.mono hless⟩
  refine wpList_mono ?_ _ _ _ (k.out fr w a s2 st2)
  rintro e a' w' ⟨T', H'', q, s', st', x'⟩
  exact ⟨T', H'', q, s', st', (Ext.dropL G x').perm hp⟩
end
end Go.Abs

namespace Go.Abs
open Go
set_option linter.unusedVariables false
set_option linter.unusedSimpArgs false
/-! Drawn regions in which something is made: what is early is read in the memory that the region found. -/
def isNew (o : Oper) : Bool := match o.op with
  | .buildSlice .. | .alloc _ | .box .. | .makeMap .. | .makeSlice .. => true
  | _ => false
def compat2 (late : Oper → Bool) (x o : Oper) : Bool :=
  compat x o || (isNew x && !late x && Nat.beq (cls o) 1 && !late o) || (Nat.beq (cls x) 1 && !late x && isNew o && !late o)
def chk2 (late : Oper → Bool) (ops : List Oper) : Bool :=
  let b := anc ops
  Region.noSelect ops.toArray &&
  ops.zipIdx.all fun (o, i) =>
    (o.after.toList.all fun e => match Region.binds .any e with | true => Nat.blt e.on i | false => true) &&
    (ops.take i).zipIdx.all fun (x, j) => (b.getD i 0).testBit j || (x.apart ops.toArray o && compat2 late x o)
theorem isNew_cls {o : Oper} (h : isNew o = true) : cls o = 2 := by
  unfold isNew at h
  unfold cls
  split at h <;> first | (rename_i e; rw [e]; done) | (cases h; done) | (rename_i e; rw [e])
/-- The text's order, each step told; B: the memory that the region found. -/
def Plan2 (P : Program) (N : Nat) (L : Lay) (ops : Array Oper) (late : Oper → Bool) (bv : Nat → A) (B : Heap) (Q : Env → Heap → Prop) : List Oper → Env → Heap → Prop
  | [], T, H => ∃ T0, (∀ t x, get T0 t = some x → get T t = some x) ∧ Q T0 H
  | o :: rest, T, H => dstOk N o.dst = true ∧
      (((cls o = 1 → late o = true) ∧ wantA ops (restr T (o.looksAt ops)) o = some true ∧ ∃ v, sOp L (restr T (o.looksAt ops)) o.op = some v ∧ Plan2 P N L ops late bv B Q rest (put o.dst v T) H) ∨
       (wantA ops (restr T (o.looksAt ops)) o = some false ∧ Plan2 P N L ops late bv B Q rest (put o.dst (.tup []) T) H) ∨
       ((cls o ≠ 0 ∧ (cls o = 1 → late o = true) ∧ (isNew o = true → late o = true)) ∧ wantA ops (restr T (o.looksAt ops)) o = some true ∧ ∃ v, AOp P N [] o [] (Qn o (restr T (o.looksAt ops)) fun r H' => r = v ∧ H' = H) (restr T (o.looksAt ops)) H ∧ Plan2 P N L ops late bv B Q rest (put o.dst v T) H) ∨
       (cls o = 2 ∧ wantA ops (restr T (o.looksAt ops)) o = some true ∧ ∃ R, ((∃ v H', R v H') ∧ AOp P N [] o [] (Qn o (restr T (o.looksAt ops)) R) (restr T (o.looksAt ops)) H ∧
          (isNew o = true → late o = false → (∃ G, H.Perm (G ++ B)) ∧ ∀ v H', R v H' → ∃ G, H'.Perm (G ++ H))) ∧ ∀ v H', R v H' → Plan2 P N L ops late bv B Q rest (put o.dst v T) H') ∨
       ((cls o = 1 ∧ ∃ G, H.Perm (G ++ B)) ∧ wantA ops (restr T (o.looksAt ops)) o = some true ∧ ∃ v, o.dst.map bv = some v ∧ AOp P N [] o [] (Qn o (restr T (o.looksAt ops)) fun r H' => r = v ∧ H' = B) (restr T (o.looksAt ops)) B ∧ Plan2 P N L ops late bv B Q rest (put o.dst v T) H))
section
variable {P : Program} {N : Nat} {L : Lay} {ops : Array Oper} {late : Oper → Bool} {bv : Nat → A} {B : Heap} {Q : Env → Heap → Prop}
theorem Plan2.cong : ∀ {l : List Oper} {T T' : Env} {H : Heap}, (∀ t, get T t = get T' t) → Plan2 P N L ops late bv B Q l T H → Plan2 P N L ops late bv B Q l T' H
  | [], T, T', H, he, ⟨T0, h1, h2⟩ => ⟨T0, fun t x h => by rw [← he]; exact h1 t x h, h2⟩
  | o :: rest, T, T', H, he, ⟨hd, h⟩ => by
    have hr : restr T (o.looksAt ops) = restr T' (o.looksAt ops) := restr_congr _ fun t _ => he t
    have hp : ∀ v t, get (put o.dst v T) t = get (put o.dst v T') t := by
      intro v t
      cases o.dst with
      | none => exact he t
      | some d => simp only [put, get_put, he t]
    refine ⟨hd, ?_⟩
    rw [hr] at h
    rcases h with ⟨h0, h1, v, h2, h3⟩ | ⟨h1, h3⟩ | ⟨h0, h1, v, h2, h3⟩ | ⟨h0, h1, R, h2, h3⟩ | ⟨h0, h1, v, hb, h2, h3⟩
    · exact .inl ⟨h0, h1, v, h2, h3.cong (hp v)⟩
    · exact .inr (.inl ⟨h1, h3.cong (hp _)⟩)
    · exact .inr (.inr (.inl ⟨h0, h1, v, h2, h3.cong (hp v)⟩))
    · exact .inr (.inr (.inr (.inl ⟨h0, h1, R, h2, fun v H' hR => (h3 v H' hR).cong (hp v)⟩)))
    · exact .inr (.inr (.inr (.inr ⟨h0, h1, v, hb, h2, h3.cong (hp v)⟩)))
theorem compat2_of {x o : Oper} (h : compat2 late x o = true) : (cls x = 2 → cls o = 0 ∨ (isNew x = true ∧ late x = false ∧ cls o = 1 ∧ late o = false)) ∧ (cls o = 2 → cls x = 0 ∨ (cls x = 1 ∧ late x = false ∧ isNew o = true ∧ late o = false)) := by
  simp only [compat2, Bool.or_eq_true, Bool.and_eq_true, Bool.not_eq_true'] at h
  have hb : ∀ {n : Nat}, Nat.beq n 1 = true → n = 1 := Nat.eq_of_beq_eq_true
  constructor
  · intro hx
    rcases h with (h | ⟨⟨⟨h1, h2⟩, h3⟩, h4⟩) | ⟨⟨⟨h1, h2⟩, h3⟩, h4⟩
    · left
      unfold compat at h; rw [hx] at h
      match ho : cls o with
      | 0 => rfl
      | 1 => rw [ho] at h; cases h
      | 2 => rw [ho] at h; cases h
      | n + 3 => rw [ho] at h; cases h
    · exact .inr ⟨h1, h2, hb h3, h4⟩
    · rw [hx] at h1; cases h1
  · intro ho
    rcases h with (h | ⟨⟨⟨h1, h2⟩, h3⟩, h4⟩) | ⟨⟨⟨h1, h2⟩, h3⟩, h4⟩
    · left
      unfold compat at h; rw [ho] at h
      match hx : cls x with
      | 0 => rfl
      | 1 => rw [hx] at h; cases h
      | 2 => rw [hx] at h; cases h
      | n + 3 => rw [hx] at h; cases h
    · rw [ho] at h3; cases h3
    · exact .inr ⟨hb h1, h2, h3, h4⟩
theorem Plan2.swap {x o : Oper} {r : List Oper} {T : Env} {H : Heap} (ha : x.apart ops o = true) (hc : compat2 late x o = true) (h : Plan2 P N L ops late bv B Q (x :: o :: r) T H) : Plan2 P N L ops late bv B Q (o :: x :: r) T H := by
  obtain ⟨h1, h2, h3⟩ := Oper.apart_spec ha
  have r1 : ∀ v, restr (put x.dst v T) (o.looksAt ops) = restr T (o.looksAt ops) := fun v => restr_put h1
  have r2 : ∀ v, restr (put o.dst v T) (x.looksAt ops) = restr T (x.looksAt ops) := fun v => restr_put h3
  have sw : ∀ u v t, get (put o.dst v (put x.dst u T)) t = get (put x.dst u (put o.dst v T)) t := fun u v t => put_swap h2 t
  obtain ⟨hd, h⟩ := h
  obtain ⟨hcx, hco⟩ := compat2_of hc
  rcases h with ⟨c1, w1, u, e1, hd2, h⟩ | ⟨w1, hd2, h⟩ | ⟨c1, w1, u, e1, hd2, h⟩ | ⟨c1, w1, R, e1, h⟩ | ⟨c1, w1, u, hbu, e1, hd2, h⟩
  · rw [r1 u] at h
    have q : ∀ {v : A} {H' : Heap}, Plan2 P N L ops late bv B Q r (put o.dst v (put x.dst u T)) H' → Plan2 P N L ops late bv B Q (x :: r) (put o.dst v T) H' := fun k => ⟨hd, .inl ⟨c1, by rw [r2]; exact w1, u, by rw [r2]; exact e1, k.cong (sw u _)⟩⟩
    rcases h with ⟨c2, w2, v, e2, k⟩ | ⟨w2, k⟩ | ⟨c2, w2, v, e2, k⟩ | ⟨c2, w2, R, e2, k⟩ | ⟨c2, w2, v, hbv, e2, k⟩
    · exact ⟨hd2, .inl ⟨c2, w2, v, e2, q k⟩⟩
    · exact ⟨hd2, .inr (.inl ⟨w2, q k⟩)⟩
    · exact ⟨hd2, .inr (.inr (.inl ⟨c2, w2, v, e2, q k⟩))⟩
    · exact ⟨hd2, .inr (.inr (.inr (.inl ⟨c2, w2, R, e2, fun v H' hR => q (k v H' hR)⟩)))⟩
    · exact ⟨hd2, .inr (.inr (.inr (.inr ⟨c2, w2, v, hbv, e2, q k⟩)))⟩
  · rw [r1] at h
    have q : ∀ {v : A} {H' : Heap}, Plan2 P N L ops late bv B Q r (put o.dst v (put x.dst (.tup []) T)) H' → Plan2 P N L ops late bv B Q (x :: r) (put o.dst v T) H' := fun k => ⟨hd, .inr (.inl ⟨by rw [r2]; exact w1, k.cong (sw _ _)⟩)⟩
    rcases h with ⟨c2, w2, v, e2, k⟩ | ⟨w2, k⟩ | ⟨c2, w2, v, e2, k⟩ | ⟨c2, w2, R, e2, k⟩ | ⟨c2, w2, v, hbv, e2, k⟩
    · exact ⟨hd2, .inl ⟨c2, w2, v, e2, q k⟩⟩
    · exact ⟨hd2, .inr (.inl ⟨w2, q k⟩)⟩
    · exact ⟨hd2, .inr (.inr (.inl ⟨c2, w2, v, e2, q k⟩))⟩
    · exact ⟨hd2, .inr (.inr (.inr (.inl ⟨c2, w2, R, e2, fun v H' hR => q (k v H' hR)⟩)))⟩
    · exact ⟨hd2, .inr (.inr (.inr (.inr ⟨c2, w2, v, hbv, e2, q k⟩)))⟩
  · rw [r1 u] at h
    have q : ∀ {v : A}, Plan2 P N L ops late bv B Q r (put o.dst v (put x.dst u T)) H → Plan2 P N L ops late bv B Q (x :: r) (put o.dst v T) H := fun k => ⟨hd, .inr (.inr (.inl ⟨c1, by rw [r2]; exact w1, u, by rw [r2]; exact e1, k.cong (sw u _)⟩))⟩
    rcases h with ⟨c2, w2, v, e2, k⟩ | ⟨w2, k⟩ | ⟨c2, w2, v, e2, k⟩ | ⟨c2, w2, R, e2, k⟩ | ⟨c2, w2, v, hbv, e2, k⟩
    · exact ⟨hd2, .inl ⟨c2, w2, v, e2, q k⟩⟩
    · exact ⟨hd2, .inr (.inl ⟨w2, q k⟩)⟩
    · exact ⟨hd2, .inr (.inr (.inl ⟨c2, w2, v, e2, q k⟩))⟩
    · rcases hco c2 with h0 | ⟨hx1, hx2, _, _⟩
      · exact absurd h0 c1.1
      · have := c1.2.1 hx1; rw [hx2] at this; cases this
    · exact ⟨hd2, .inr (.inr (.inr (.inr ⟨c2, w2, v, hbv, e2, q k⟩)))⟩
  · -- x does something
    rcases hcx c1 with ho | ⟨hn, hl, ho, hlo⟩
    · have key : ∀ v H', R v H' → (wantA ops (restr T (o.looksAt ops)) o = some true ∧ ∃ u, sOp L (restr T (o.looksAt ops)) o.op = some u ∧ Plan2 P N L ops late bv B Q r (put o.dst u (put x.dst v T)) H') ∨
          (wantA ops (restr T (o.looksAt ops)) o = some false ∧ Plan2 P N L ops late bv B Q r (put o.dst (.tup []) (put x.dst v T)) H') := by
        intro v H' hR
        obtain ⟨_, k⟩ := h v H' hR
        rw [r1 v] at k
        rcases k with ⟨_, k⟩ | k | ⟨c2, _⟩ | ⟨c2, _⟩ | ⟨c2, _⟩
        · exact .inl k
        · exact .inr k
        · exact absurd ho c2.1
        · rw [ho] at c2; cases c2
        · have := c2.1; rw [ho] at this; cases this
      obtain ⟨⟨v0, H0, hR0⟩, e1', e1''⟩ := e1
      have hdo := (h v0 H0 hR0).1
      rcases key v0 H0 hR0 with ⟨w2, u, e2, _⟩ | ⟨w2, _⟩
      · refine ⟨hdo, .inl ⟨(fun e => by rw [ho] at e; cases e), w2, u, e2, hd, .inr (.inr (.inr (.inl ⟨c1, by rw [r2]; exact w1, R, ⟨⟨v0, H0, hR0⟩, by rw [r2]; exact e1', e1''⟩, fun v H' hR => ?_⟩)))⟩⟩
        rcases key v H' hR with ⟨_, u', e2', k⟩ | ⟨w2', _⟩
        · rw [e2] at e2'; cases e2'
          exact k.cong (sw v u)
        · rw [w2] at w2'; cases w2'
      · refine ⟨hdo, .inr (.inl ⟨w2, hd, .inr (.inr (.inr (.inl ⟨c1, by rw [r2]; exact w1, R, ⟨⟨v0, H0, hR0⟩, by rw [r2]; exact e1', e1''⟩, fun v H' hR => ?_⟩)))⟩)⟩
        rcases key v H' hR with ⟨w2', _⟩ | ⟨_, k⟩
        · rw [w2] at w2'; cases w2'
        · exact k.cong (sw v _)
    · -- x makes something, o reads what the region found
      obtain ⟨⟨v0, H0, hR0⟩, e1', e1''⟩ := e1
      obtain ⟨hB, hR⟩ := e1'' hn hl
      have hdo := (h v0 H0 hR0).1
      have key : ∀ v H', R v H' → (wantA ops (restr T (o.looksAt ops)) o = some false ∧ Plan2 P N L ops late bv B Q r (put o.dst (.tup []) (put x.dst v T)) H') ∨
          (wantA ops (restr T (o.looksAt ops)) o = some true ∧ ∃ u, o.dst.map bv = some u ∧ AOp P N [] o [] (Qn o (restr T (o.looksAt ops)) fun r H' => r = u ∧ H' = B) (restr T (o.looksAt ops)) B ∧ Plan2 P N L ops late bv B Q r (put o.dst u (put x.dst v T)) H') := by
        intro v H' hR
        obtain ⟨_, k⟩ := h v H' hR
        rw [r1 v] at k
        rcases k with ⟨c2, _⟩ | k | ⟨c2, _⟩ | ⟨c2, _⟩ | ⟨c2, k⟩
        · have := c2 ho; rw [hlo] at this; cases this
        · exact .inl k
        · have := c2.2.1 ho; rw [hlo] at this; cases this
        · rw [ho] at c2; cases c2
        · exact .inr k
      rcases key v0 H0 hR0 with ⟨w2, _⟩ | ⟨w2, u, hbu, e2, _⟩
      · refine ⟨hdo, .inr (.inl ⟨w2, hd, .inr (.inr (.inr (.inl ⟨c1, by rw [r2]; exact w1, R, ⟨⟨v0, H0, hR0⟩, by rw [r2]; exact e1', e1''⟩, fun v H' hR => ?_⟩)))⟩)⟩
        rcases key v H' hR with ⟨_, k⟩ | ⟨w2', _⟩
        · exact k.cong (sw v _)
        · rw [w2] at w2'; cases w2'
      · refine ⟨hdo, .inr (.inr (.inr (.inr ⟨⟨ho, hB⟩, w2, u, hbu, e2, hd, .inr (.inr (.inr (.inl ⟨c1, by rw [r2]; exact w1, R, ⟨⟨v0, H0, hR0⟩, by rw [r2]; exact e1', e1''⟩, fun v H' hR => ?_⟩)))⟩)))⟩
        rcases key v H' hR with ⟨w2', _⟩ | ⟨_, u', hbu', _, k⟩
        · rw [w2] at w2'; cases w2'
        · rw [hbu] at hbu'; cases hbu'
          exact k.cong (sw v u)
  · rw [r1 u] at h
    have q : ∀ {v : A}, Plan2 P N L ops late bv B Q r (put o.dst v (put x.dst u T)) H → Plan2 P N L ops late bv B Q (x :: r) (put o.dst v T) H := fun k => ⟨hd, .inr (.inr (.inr (.inr ⟨c1, by rw [r2]; exact w1, u, hbu, by rw [r2]; exact e1, k.cong (sw u _)⟩)))⟩
    rcases h with ⟨c2, w2, v, e2, k⟩ | ⟨w2, k⟩ | ⟨c2, w2, v, e2, k⟩ | ⟨c2, w2, R, e2, k⟩ | ⟨c2, w2, v, hbv, e2, k⟩
    · exact ⟨hd2, .inl ⟨c2, w2, v, e2, q k⟩⟩
    · exact ⟨hd2, .inr (.inl ⟨w2, q k⟩)⟩
    · exact ⟨hd2, .inr (.inr (.inl ⟨c2, w2, v, e2, q k⟩))⟩
    · rcases hco c2 with h0 | ⟨_, _, hn, hl⟩
      · have := c1.1; rw [h0] at this; cases this
      · obtain ⟨ene, e2', e2''⟩ := e2
        obtain ⟨hB, hR⟩ := e2'' hn hl
        obtain ⟨G0, hG0⟩ := hB
        refine ⟨hd2, .inr (.inr (.inr (.inl ⟨c2, w2, R, ⟨ene, e2', e2''⟩, fun v H' hr => ⟨hd, .inr (.inr (.inr (.inr ⟨⟨c1.1, ?_⟩, by rw [r2]; exact w1, u, hbu, by rw [r2]; exact e1, (k v H' hr).cong (sw u _)⟩)))⟩⟩)))⟩
        obtain ⟨G1, hG1⟩ := hR v H' hr
        exact ⟨G1 ++ G0, hG1.trans (by rw [List.append_assoc]; exact hG0.append_left G1)⟩
    · exact ⟨hd2, .inr (.inr (.inr (.inr ⟨c2, w2, v, hbv, e2, q k⟩)))⟩
theorem Plan2.first {o : Oper} : ∀ {l1 l2 : List Oper} {T : Env} {H : Heap}, (∀ x ∈ l1, x.apart ops o = true ∧ compat2 late x o = true) → Plan2 P N L ops late bv B Q (l1 ++ o :: l2) T H → Plan2 P N L ops late bv B Q (o :: (l1 ++ l2)) T H
  | [], l2, T, H, _, h => h
  | x :: l1, l2, T, H, hc, h => by
    refine Plan2.swap (hc x List.mem_cons_self).1 (hc x List.mem_cons_self).2 ?_
    have hc' : ∀ y ∈ l1, y.apart ops o = true ∧ compat2 late y o = true := fun y hy => hc y (List.mem_cons_of_mem _ hy)
    obtain ⟨hd, h⟩ := h
    refine ⟨hd, ?_⟩
    rcases h with ⟨h0, h1, v, h2, h3⟩ | ⟨h1, h3⟩ | ⟨h0, h1, v, h2, h3⟩ | ⟨h0, h1, R, h2, h3⟩ | ⟨h0, h1, v, hb, h2, h3⟩
    · exact .inl ⟨h0, h1, v, h2, Plan2.first hc' h3⟩
    · exact .inr (.inl ⟨h1, Plan2.first hc' h3⟩)
    · exact .inr (.inr (.inl ⟨h0, h1, v, h2, Plan2.first hc' h3⟩))
    · exact .inr (.inr (.inr (.inl ⟨h0, h1, R, h2, fun v H' hR => Plan2.first hc' (h3 v H' hR)⟩)))
    · exact .inr (.inr (.inr (.inr ⟨h0, h1, v, hb, h2, Plan2.first hc' h3⟩)))
theorem Ext.permR {H H' K : Heap} {w w' : World} (h : K.Perm H') (e : Ext H w K w') : Ext H w H' w' where
  os := e.os
  tape := e.tape
  output := e.output
  size := e.size
  same := e.same
  keys k hk := e.keys k ((h.map _).mem_iff.2 hk)
  shape := e.shape
/-- What is quiet in a part of memory is quiet in the whole. -/
theorem AOp.base {o : Oper} {v : A} {T : Env} {H G : Heap} (hp : H.Perm (B ++ G)) (h : AOp P N [] o [] (Qn o T fun r H' => r = v ∧ H' = B) T B) : AOp P N [] o [] (Qn o T fun r H' => r = v ∧ H' = H) T H := by
  refine ⟨fun fr w a s st => ?_⟩
  have s1 := s.perm hp
  rw [own_perm hp, own_app] at st
  have hm : ∀ e a' w', Post N (fun k => fr k ∨ k ∈ keys G) B w (Qn o T fun r H' => r = v ∧ H' = B) e a' w' → Post N fr H w (Qn o T fun r H' => r = v ∧ H' = H) e a' w' := by
    rintro e a' w' ⟨T', H', q, s', st', x'⟩
    cases e <;> first | exact q.elim | skip
    obtain ⟨u, ⟨rfl, rfl⟩, rfl⟩ := q
    refine ⟨_, H, ⟨u, ⟨rfl, rfl⟩, rfl⟩, (s1.join s' x').perm hp.symm, ?_, Ext.permR hp.symm (x'.frame.perm hp)⟩
    rw [own_perm hp, own_app]; exact st'
  have h0 := h.out _ w a s1.split st
  refine wp_both (fun e a' w' _ hq => hm e a' w' hq) (fun u w' hk => hm _ _ _ hk) (fun d w' hk => ?_) h0
  obtain ⟨T', H', _, _, st', _⟩ := hk
  have := st'.defers
  cases hdo : o.dst <;> rw [hdo] at this <;> simp [Act.put] at this
end
theorem chk2_spec {late : Oper → Bool} {ops : List Oper} (h : chk2 late ops = true) : ∀ (i : Nat) (o : Oper), ops[i]? = some o → (∀ e ∈ o.after.toList, Region.binds .any e = true → e.on < i) ∧
    ∀ (j : Nat) (x : Oper), j < i → ops[j]? = some x → ((anc ops).getD i 0).testBit j = true ∨ (x.apart ops.toArray o = true ∧ compat2 late x o = true) := by
  simp only [chk2, Bool.and_eq_true, List.all_eq_true] at h
  intro i o ho
  have h1 := h.2 (o, i) (List.mem_zipIdx_iff_getElem?.2 ho)
  refine ⟨fun e he hb => ?_, fun j x hj hx => ?_⟩
  · have := h1.1 e he
    rw [hb] at this
    simpa [Nat.blt_eq] using this
  · have h2 := h1.2 (x, j) (List.mem_zipIdx_iff_getElem?.2 (by simp only; rw [List.getElem?_take, if_pos hj]; exact hx))
    rw [Bool.or_eq_true, Bool.and_eq_true] at h2
    exact h2
theorem Plan2.any {P : Program} {N : Nat} {L : Lay} {late : Oper → Bool} {bv : Nat → A} {B : Heap} {ops : List Oper} {Q0 : Exit → Env → Heap → Prop} (hL : LayOk P L) (hc : chk2 late ops = true) : ∀ (fuel : Nat) (listed : Array Bool) (T : Env) (H : Heap), listed.size = ops.length →
    (∀ k o, ops[k]? = some o → listed.getD k false = true → ∀ e ∈ o.after.toList, Region.binds .any e = true → listed.getD e.on false = true) → (unl listed 0 ops).length ≤ fuel → Plan2 P N L ops.toArray late bv B (Q0 .normal) (unl listed 0 ops) T H →
    ∀ (fr : Nat → Prop) (w : World) (a : Act), Sim fr H w → St N w (own fr H) T a → wpAny P .any ops.toArray (Post N fr H w Q0) fuel listed a w := by
  intro fuel
  -- nothing is ready only if all is listed
  have done : ∀ (listed : Array Bool) (T : Env) (H : Heap), listed.size = ops.length → Region.ready .any ops.toArray listed = [] → Plan2 P N L ops.toArray late bv B (Q0 .normal) (unl listed 0 ops) T H →
      ∀ (fr : Nat → Prop) (w : World) (a : Act), Sim fr H w → St N w (own fr H) T a → Post N fr H w Q0 .normal a w := by
    intro listed T H hs hr hp fr w a s st
    have hnil : unl listed 0 ops = [] := by
      apply Classical.byContradiction
      intro hne
      obtain ⟨i, o, h1, h2, h3⟩ := unl_first hne
      rw [Nat.zero_add] at h2
      have : i ∈ Region.ready .any ops.toArray listed := mem_ready.2 ⟨h2, o, by simpa using h1, fun e he hb => by
        have hlt := (chk2_spec hc i o h1).1 e (by simpa using he) hb
        have := h3 e.on hlt
        rw [Nat.zero_add] at this
        have hi := (List.getElem?_eq_some_iff.1 h1).1
        rw [← getD_both (by omega)]; exact this⟩
      rw [hr] at this; cases this
    rw [hnil] at hp
    obtain ⟨T0, h1, h2⟩ := hp
    exact ⟨T0, H, h2, s, st.sub h1, Ext.refl H w⟩
  induction fuel with
  | zero =>
    intro listed T H hs hcl hf hp fr w a s st
    have hnil : unl listed 0 ops = [] := List.eq_nil_of_length_eq_zero (by omega)
    have hr : Region.ready .any ops.toArray listed = [] := by
      apply Classical.byContradiction
      intro hne
      obtain ⟨i, hi⟩ := List.exists_mem_of_ne_nil _ hne
      obtain ⟨h0, o, ho, _⟩ := mem_ready.1 hi
      have ho' : ops[i]? = some o := by simpa using ho
      have hlt := (List.getElem?_eq_some_iff.1 ho').1
      obtain ⟨l1, l2, h1, _⟩ := unl_split (k := 0) ho' (by rw [Nat.zero_add]; exact h0) (by omega)
      rw [hnil] at h1; simp at h1
    exact ⟨hr, done listed T H hs hr hp fr w a s st⟩
  | succ fuel ih =>
    intro listed T H hs hcl hf hp fr w a s st
    refine ⟨fun hr => done listed T H hs hr hp fr w a s st, fun i hi => ?_⟩
    obtain ⟨h0, o, ho, hedge⟩ := mem_ready.1 hi
    have ho' : ops[i]? = some o := by simpa using ho
    have hlt := (List.getElem?_eq_some_iff.1 ho').1
    obtain ⟨l1, l2, h1, h2, h3⟩ := unl_split (k := 0) ho' (by rw [Nat.zero_add]; exact h0) (by omega)
    rw [Nat.zero_add] at h2
    rw [h1] at hp hf
    have hp := Plan2.first (fun x hx => by
      obtain ⟨j, hj, hxj, hjl⟩ := h3 x hx
      rw [Nat.zero_add] at hjl
      rcases (chk2_spec hc i o ho').2 j x hj hxj with hb | hb
      · have := (anc_spec ops).2 i j hb listed hcl (fun o2 ho2 e he hb => by
          rw [ho'] at ho2; cases ho2
          exact hedge e (by simpa using he) hb)
        rw [← getD_both (by omega), hjl] at this; cases this
      · exact hb) hp
    rw [← h2] at hp
    have hs' : (listed.setIfInBounds i true).size = ops.length := by simpa using hs
    have hcl' : ∀ k o, ops[k]? = some o → (listed.setIfInBounds i true).getD k false = true → ∀ e ∈ o.after.toList, Region.binds .any e = true → (listed.setIfInBounds i true).getD e.on false = true := by
      intro k o2 ho2 hk e he hb
      refine getD_set_true ?_
      by_cases hki : k = i
      · subst hki
        rw [ho'] at ho2; cases ho2
        exact hedge e (by simpa using he) hb
      · rw [getD_set_ne false (Ne.symm hki)] at hk
        exact hcl k o2 ho2 hk e he hb
    have hf' : (unl (listed.setIfInBounds i true) 0 ops).length ≤ fuel := by
      rw [h2]; simp only [List.length_append, List.length_cons] at hf ⊢; omega
    have hlook : ∀ c, wantA ops.toArray (restr T (o.looksAt ops.toArray)) o = some c → Region.wanted o (yielded ops.toArray a.tmps) = c := fun c h => wantA_ok (st.sub (restr_sub T _)) h
    obtain ⟨hd, hp⟩ := hp
    unfold wpOp
    rw [ho]
    simp only
    have next : ∀ v H' w' v', Sim fr H' w' → St N w' (own fr H') (put o.dst v T) (a.put o.dst v') → Ext H w H' w' → Plan2 P N L ops.toArray late bv B (Q0 .normal) (unl (listed.setIfInBounds i true) 0 ops) (put o.dst v T) H' →
        wpAny P .any ops.toArray (Post N fr H w Q0) fuel (listed.setIfInBounds i true) (a.put o.dst v') w' := fun v H' w' v' s' st' x hp' =>
      wpAny_mono2 (fun _ _ _ => Post.of_ext x) _ _ _ _ (ih _ _ _ hs' hcl' hf' hp' fr w' _ s' st')
    rcases hp with ⟨_, w1, v, e1, hp⟩ | ⟨w1, hp⟩ | ⟨_, w1, v, e1, hp⟩ | ⟨_, w1, R, ⟨_, e1, _⟩, hp⟩ | ⟨⟨_, G, hG⟩, w1, v, _, e1, hp⟩
    · rw [hlook _ w1, if_pos rfl]
      refine .inl (AOp.node (R := fun r H' => r = v ∧ H' = H) (AOp.simple hL e1 hd (AOps.nil ⟨v, ⟨rfl, rfl⟩, rfl⟩)) hd s st ?_)
      rintro u H' w' v' ⟨rfl, rfl⟩ s' st' x
      exact next _ _ w' v' s' st' x hp
    · rw [hlook _ w1, if_neg (by simp)]
      exact next _ _ w undef s (st.put hd (Rep.tup_of .nil)) (Ext.refl H w) hp
    · rw [hlook _ w1, if_pos rfl]
      refine .inl (AOp.node e1 hd s st ?_)
      rintro u H' w' v' ⟨rfl, rfl⟩ s' st' x
      exact next _ _ w' v' s' st' x hp
    · rw [hlook _ w1, if_pos rfl]
      refine .inl (AOp.node e1 hd s st ?_)
      intro u H' w' v' hR s' st' x
      exact next _ _ w' v' s' st' x (hp u H' hR)
    · rw [hlook _ w1, if_pos rfl]
      refine .inl (AOp.node (AOp.base (hG.trans List.perm_append_comm) e1) hd s st ?_)
      rintro u H' w' v' ⟨rfl, rfl⟩ s' st' x
      exact next _ _ w' v' s' st' x hp
/-- A region that draws its order: walked in the text's order. -/
theorem AWp.draw2 {P : Program} {N : Nat} {L : Lay} {late : Oper → Bool} {bv : Nat → A} {B : Heap} {ops : List Oper} {Q : Exit → Env → Heap → Prop} {T : Env} {H : Heap} {id : Nat} (hL : LayOk P L) (hm : P.follows .mixedOrders = true) (hc : chk2 late ops = true) (h : Plan2 P N L ops.toArray late bv B (Q .normal) ops T H) :
    AWp P N (.region id ops.toArray true) Q T H := by
  refine ⟨fun fr w a s st => wp_region_any hm ?_⟩
  have hun : ∀ (l : List Oper) (k n : Nat), k + l.length ≤ n → unl (Array.replicate n false) k l = l := by
    intro l
    induction l with
    | nil => intros; rfl
    | cons o l ih =>
      intro k n hk
      simp only [List.length_cons] at hk
      simp only [unl]
      rw [if_neg (by simp [Array.getD, show k < n by omega]), ih (k + 1) n (by omega)]
  have h0 := Plan2.any (Q0 := Q) hL hc ops.toArray.size (Array.replicate ops.toArray.size false) T H (by simp) (fun k o _ hk => by simp [Array.getD] at hk) (by rw [hun _ _ _ (by simp)]; simp) (by rw [hun _ _ _ (by simp)]; exact h)
    fr w.drew a s.drew (st.mono (Ext.drew H w).stays)
  exact wpAny_mono2 (fun _ _ _ => Post.of_ext (Ext.drew H w)) _ _ _ _ h0

end Go.Abs

namespace Go.Abs
open Go
set_option linter.unusedVariables false
set_option linter.unusedSimpArgs false
/-- Functions without a body: what they give. -/
abbrev Exts := FuncId → List A → Option A
def ExtOk (P : Program) (E : Exts) : Prop := ∀ f xs v, E f xs = some v → ∀ (ρ : Nat → Nat) (w : World) (o : Nat → Prop) (vs : List Value), RepL w o (renL ρ xs) vs → ∃ u, (callFunc f vs.toArray).run P w = .ok (.value u) w ∧ Rep w o (ren ρ v) u
abbrev CallC := Nat → FuncId → List A → Tre Blk → Nat → Option (A × Tre Blk × Nat)
def wantC (ops : List Oper) (T : Tre A) (o : Oper) : Option Bool :=
  match o.guard with
  | none => some true
  | some (j, b) => match (ops[j]?).bind (·.dst) with
    | none => none
    | some d => match T.get d with
      | some (.bool b') => some (b' == b)
      | some (.tup _) => some false
      | _ => none
def evOp (P : Program) (E : Exts) (L : Lay) (call : CallC) (lo : Nat) (T : Tre A) (H : Tre Blk) (n : Nat) : Op → Option (A × Tre Blk × Nat)
  | .call { callee := .value c, args := ⟨args⟩, argTypes := _ } => match evC T c with
    | some (.fn f first cap) => match evsC T args with
      | some xs => match E f (first ++ xs ++ cap) with
        | some v => match scope n v with
          | true => some (v, H, n)
          | false => none
        | none => call lo f (first ++ xs ++ cap) H n
      | none => none
    | _ => none
  | op => match sOpC L T op with
    | some v => match scope n v with
      | true => some (v, H, n)
      | false => none
    | none => match eEffX P L T H op with
      | some e => eApply lo H n e
      | none => none
def evOps (P : Program) (E : Exts) (N : Nat) (L : Lay) (call : CallC) (lo : Nat) (ops : List Oper) : List Oper → Tre A → Tre Blk → Nat → Option (Tre A × Tre Blk × Nat)
  | [], T, H, n => some (T, H, n)
  | o :: rest, T, H, n => match dstOk N o.dst with
    | true => match wantC ops T o with
      | some true => match evOp P E L call lo T H n o.op with
        | some (v, H1, n1) => evOps P E N L call lo ops rest (putC o.dst v T) H1 n1
        | none => none
      | some false => evOps P E N L call lo ops rest (putC o.dst (.tup []) T) H n
      | none => none
    | false => none
def restrC (T : Tre A) : List Nat → Tre A
  | [] => .leaf
  | t :: ts => match T.get t with
    | some v => Tre.set 40 (restrC T ts) t (some v)
    | none => restrC T ts
/-- Which reads must stand behind what is made. -/
def lateGo (b : List Nat) : List Oper → Nat → Bool → Nat → List Nat
  | [], _, _, _ => []
  | o :: rest, i, seen, mask => match isNew o with
    | true => match seen with
      | true => match o.dst with
        | some d => d :: lateGo b rest (i + 1) true mask
        | none => lateGo b rest (i + 1) true mask
      | false => lateGo b rest (i + 1) false (mask ||| 2 ^ i)
    | false => match Nat.beq (cls o) 2 with
      | true => lateGo b rest (i + 1) true mask
      | false => match Nat.beq (cls o) 1, seen || !Nat.beq ((b.getD i 0) &&& mask) 0 with
        | true, true => match o.dst with
          | some d => d :: lateGo b rest (i + 1) seen mask
          | none => lateGo b rest (i + 1) seen mask
        | _, _ => lateGo b rest (i + 1) seen mask
def memN (d : Nat) : List Nat → Bool
  | [] => false
  | x :: l => match Nat.beq x d with
    | true => true
    | false => memN d l
def lateIn (ds : List Nat) (o : Oper) : Bool := match o.dst with
  | none => true
  | some d => memN d ds
def scopeT (n : Nat) (T : Tre A) : List Nat → Bool
  | [] => true
  | t :: ts => match T.get t with
    | some v => and (scope n v) (scopeT n T ts)
    | none => scopeT n T ts
def evPlan (P : Program) (E : Exts) (N : Nat) (L : Lay) (call : CallC) (lo : Nat) (late : Oper → Bool) (ops : List Oper) (H0 : Tre Blk) (n0 : Nat) : List Oper → Bool → Tre A → Tre Blk → Nat → Option (Tre A × Tre Blk × Nat × Env)
  | [], _, T, H, n => some (T, H, n, [])
  | o :: rest, cl, T, H, n => match dstOk N o.dst with
    | true => match wantC ops (restrC T (o.looksAt ops.toArray)) o with
      | some false => evPlan P E N L call lo late ops H0 n0 rest cl (putC o.dst (.tup []) T) H n
      | some true => match Nat.beq (cls o) 1 && !late o with
        | true => match cl, o.dst, scopeT n0 T (o.looksAt ops.toArray) with
          | true, some d, true => match evOp P E L call n0 (restrC T (o.looksAt ops.toArray)) H0 n0 o.op with
            | some (v, H1, _) => match deepC n0 H1 20 v with
              | some v2 => match scope n0 v2 with
                | true => match evPlan P E N L call lo late ops H0 n0 rest true (putC o.dst v2 T) H n with
                  | some (T1, H1, n1, V) => match get V d with
                    | none => some (T1, H1, n1, (d, v2) :: V)
                    | some _ => none
                  | none => none
                | false => none
              | none => none
            | none => none
          | _, _, _ => none
        | false => match sOpC L (restrC T (o.looksAt ops.toArray)) o.op with
          | some v => match scope n v with
            | true => evPlan P E N L call lo late ops H0 n0 rest cl (putC o.dst v T) H n
            | false => none
          | none => match o.op with
            | .call { callee := .value c, args := ⟨args⟩, argTypes := _ } => match evOp P E L call n (restrC T (o.looksAt ops.toArray)) H n o.op with
              | some (v, H1, _) => match deepC n H1 20 v with
                | some v2 => match scope n v2 with
                  | true => evPlan P E N L call lo late ops H0 n0 rest cl (putC o.dst v2 T) H n
                  | false => none
                | none => none
              | none => none
            | _ => match eEffX P L (restrC T (o.looksAt ops.toArray)) H o.op with
              | some (.pure v) => match scope n v, Nat.beq (cls o) 0, isNew o with
                | true, false, false => evPlan P E N L call lo late ops H0 n0 rest cl (putC o.dst v T) H n
                | _, _, _ => none
              | some e => match Nat.beq (cls o) 2, isNew o && !late o with
                | true, false => match eApply lo H n e with
                  | some (v, H1, n1) => evPlan P E N L call lo late ops H0 n0 rest false (putC o.dst v T) H1 n1
                  | none => none
                | true, true => match cl, e with
                  | true, .new m b => match scopeB n b with
                    | true => evPlan P E N L call lo late ops H0 n0 rest true (putC o.dst (m.on n) T) (Tre.set 40 H n (some b)) (n + 1)
                    | false => none
                  | _, _ => none
                | _, _ => none
              | none => none
      | none => none
    | false => none
abbrev Res := Option (Exit × Tre A × Tre Blk × Nat)
def evLoop (step : Tre A → Tre Blk → Nat → Res) : Nat → Tre A → Tre Blk → Nat → Res
  | 0, _, _, _ => none
  | f + 1, T, H, n => match step T H n with
    | some (.normal, T1, H1, n1) => evLoop step f T1 H1 n1
    | r => r
def evCode (P : Program) (E : Exts) (N : Nat) (L : Lay) (call : CallC) (lo fuel : Nat) : Code → Tre A → Tre Blk → Nat → Res
  | .skip, T, H, n => some (.normal, T, H, n)
  | .label _, T, H, n => some (.normal, T, H, n)
  | .exit id, T, H, n => some (.exit id, T, H, n)
  | .ret, T, H, n => some (.ret, T, H, n)
  | .seq a b, T, H, n => match evCode P E N L call lo fuel a T H n with
    | some (.normal, T1, H1, n1) => evCode P E N L call lo fuel b T1 H1 n1
    | r => r
  | .cond c a b, T, H, n => match evC T c with
    | some (.bool true) => evCode P E N L call lo fuel a T H n
    | some (.bool false) => evCode P E N L call lo fuel b T H n
    | _ => none
  | .block id c, T, H, n => match evCode P E N L call lo fuel c T H n with
    | some (.exit id', T1, H1, n1) => match Nat.beq id' id with
      | true => some (.normal, T1, H1, n1)
      | false => some (.exit id', T1, H1, n1)
    | r => r
  | .loop c, T, H, n => evLoop (evCode P E N L call lo fuel c) fuel T H n
  | .region _ ops false, T, H, n => match evOps P E N L call lo ops.toList ops.toList T H n with
    | some (T1, H1, n1) => some (.normal, T1, H1, n1)
    | none => none
  | .region _ ops true, T, H, n => match chk2 (lateIn (lateGo (anc ops.toList) ops.toList 0 false 0)) ops.toList with
    | true => match evPlan P E N L call lo (lateIn (lateGo (anc ops.toList) ops.toList 0 false 0)) ops.toList H n ops.toList true T H n with
      | some (T1, H1, n1, _) => some (.normal, T1, H1, n1)
      | none => none
    | false => none
  | _, _, _, _ => none
def argsC : Nat → List A → Tre A
  | _, [] => .leaf
  | i, a :: l => Tre.set 40 (argsC (i + 1) l) i (some a)
def resV (L : Lay) (T : Tre A) (H : Tre Blk) : ResultVar → Option A
  | .tmp t => T.get t
  | .cell t ty => match T.get t with
    | some (.ptr r sz i o) => match H.get r with
      | some (.row _ sz' elems) => match Nat.beq sz sz' with
        | true => match elems[i]? with
          | some e => match lay L ty with
            | some ti => loadA ti e o
            | none => none
          | none => none
        | false => none
      | _ => none
    | _ => none
def resC (L : Lay) (T : Tre A) (H : Tre Blk) : List ResultVar → Option A
  | [] => some (.tup [])
  | [a] => resV L T H a
  | [a, b] => match resV L T H a, resV L T H b with
    | some x, some y => some (.tup [x, y])
    | _, _ => none
  | [a, b, c] => match resV L T H a, resV L T H b, resV L T H c with
    | some x, some y, some z => some (.tup [x, y, z])
    | _, _, _ => none
  | [a, b, c, d] => match resV L T H a, resV L T H b, resV L T H c, resV L T H d with
    | some x, some y, some z, some u => some (.tup [x, y, z, u])
    | _, _, _, _ => none
  | _ => none
def evFn (P : Program) (E : Exts) (L : Lay) (fuel : Nat) : Nat → CallC
  | 0, _, _, _, _, _ => none
  | k + 1, lo, f, args, H, n => match P.funcs[f]? with
    | some fn => match fn.body with
      | some c => match fn.name == "runtime.NumGoroutine" with
        | false => match evCode P E (args.length + (fn.ntmps - args.length)) L (evFn P E L fuel k) lo fuel c (argsC 0 args) H n with
          | some (.ret, T1, H1, n1) => match resC L T1 H1 fn.results.toList with
            | some v => match scope n1 v with
              | true => some (v, H1, n1)
              | false => none
            | none => none
          | some (.normal, T1, H1, n1) => match resC L T1 H1 fn.results.toList with
            | some v => match scope n1 v with
              | true => some (v, H1, n1)
              | false => none
            | none => none
          | _ => none
        | true => none
      | none => none
    | none => none
structure Cfg (ρ : Nat → Nat) (n lo : Nat) (fz : Nat → Prop) (T : Tre A) (H : Tre Blk) (T' : Env) (H' : Heap) : Prop where
  r : EnvR ρ T T'
  s : EnvS n T
  g : Good ρ n lo fz H H'
theorem AOp.callExt {P : Program} {N : Nat} {Q : Exit → Env → Heap → Prop} {T : Env} {H : Heap} {ops rest : List Oper} {dst : Option Nat} {callee : Operand} {args : List Operand} {ats : Array TypeId} {ty : TypeId} {pos : String} {after : Array Edge} {guard : Option (Nat × Bool)}
    {f : FuncId} {first cap xs : List A} {v : A} (hf : ev T callee = some (.fn f first cap)) (ha : evs T args = some xs) (he : ∀ (w : World) (o : Nat → Prop) (vs : List Value), RepL w o (first ++ xs ++ cap) vs → ∃ u, (callFunc f vs.toArray).run P w = .ok (.value u) w ∧ Rep w o v u)
    (hd : dstOk N dst = true) (kk : AOps P N ops rest Q (put dst v T) H) :
    AOp P N ops { dst := dst, op := .call { callee := .value callee, args := args.toArray, argTypes := ats }, type := ty, pos := pos, after := after, guard := guard } rest Q T H :=
  AOp.pure (fun fr w act s st => by
    obtain ⟨fs, cs, e1, r1, r2⟩ := (ev_rep st hf).fn_inv
    have r3 := evs_rep st ha
    obtain ⟨u, h1, h2⟩ := he w _ _ ((r1.append r3).append r2)
    have e2 : ((fs.toList ++ args.map act.eval) ++ cs.toList).toArray = fs ++ args.toArray.map act.eval ++ cs := by simp
    rw [e2] at h1
    refine ⟨u, ?_, h2⟩
    simp only [execOp, resolve, Deferred.ofValue, invoke, Sem.run_bind, Sem.run_pure, Result.andThen_ok, e1]
    exact h1) hd kk
section
variable {P : Program} {E : Exts} {N : Nat} {L : Lay} {call : CallC} {ρ : Nat → Nat} {n lo : Nat} {fz : Nat → Prop} {T : Tre A} {H : Tre Blk} {T' : Env} {H' : Heap}
theorem evOp_ok (hL : LayOk P L) (hE : ExtOk P E) (hc : CallOk P call) (c : Cfg ρ n lo fz T H T' H') {o : Oper} (hd : dstOk N o.dst = true) {v : A} {H1 : Tre Blk} {n1 : Nat} (h : evOp P E L call lo T H n o.op = some (v, H1, n1))
    {ops rest : List Oper} {Q : Exit → Env → Heap → Prop} (k : ∀ r H1', Out ρ n lo fz H' v H1 n1 r H1' → AOps P N ops rest Q (put o.dst r T') H1') : AOp P N ops o rest Q T' H' := by
  obtain ⟨dst, op, ty, pos, after, guard⟩ := o
  simp only at h hd k
  unfold evOp at h
  split at h
  · split at h
    · rename_i hf
      have hf' := c.r.ev hf
      have sf := c.s.ev hf
      simp only [ren] at hf'
      simp only [scope, Bool.and_eq_true] at sf
      split at h
      · rename_i ha
        have ha' := c.r.evs ha
        have sa := c.s.evs ha
        split at h
        · rename_i v' hv
          split at h
          · rename_i hs
            cases h
            refine AOp.callExt hf' ha' (fun w o vs hr => hE _ _ _ hv ρ w o vs ?_) hd (k _ _ ⟨ρ, rfl, hs, c.g, Ltr.refl ..⟩)
            rw [renL_append, renL_append]; exact hr
          · cases h
        · have ht := hc _ _ _ _ _ _ _ _ h ρ fz H' (scopeL_append (scopeL_append sf.1 sa) sf.2) c.g
          simp only [renL_append] at ht
          refine AOp.callFn (F := []) hf' ha' hd (by simp) ht fun r H1' hr => ?_
          rw [List.append_nil]
          exact k r H1' hr
      · cases h
    · cases h
  · split at h
    · rename_i v' hv
      split at h
      · rename_i hs
        cases h
        exact AOp.simple hL (sOpC_ok c.r hv) hd (k _ _ ⟨ρ, rfl, hs, c.g, Ltr.refl ..⟩)
      · cases h
    · split at h
      · rename_i e he
        exact eApply_ok (eEffX_ok hL c.r c.g hd he) c.g h k
      · cases h
theorem Cfg.next {v : A} {H1 : Tre Blk} {n1 : Nat} {r : A} {H1' : Heap} (c : Cfg ρ n lo fz T H T' H') (h : Out ρ n lo fz H' v H1 n1 r H1') (d : Option Nat) : ∃ ρ1, Cfg ρ1 n1 lo fz (putC d v T) H1 (put d r T') H1' ∧ Ltr ρ n fz H' ρ1 n1 H1' := by
  obtain ⟨ρ1, rfl, hs, g, l⟩ := h
  exact ⟨ρ1, ⟨(c.r.later c.s l.agree).put d v, (c.s.mono l.le).put d hs, g⟩, l⟩
theorem evOps_ok (hL : LayOk P L) (hE : ExtOk P E) (hc : CallOk P call) {ops : List Oper} {Q : Exit → Env → Heap → Prop} {T1 : Tre A} {H1 : Tre Blk} {n1 : Nat} : ∀ (rest : List Oper) {ρ : Nat → Nat} {n : Nat} {T : Tre A} {H : Tre Blk} {T' : Env} {H' : Heap},
    Cfg ρ n lo fz T H T' H' → evOps P E N L call lo ops rest T H n = some (T1, H1, n1) →
    (∀ ρ1 T1' H1', Cfg ρ1 n1 lo fz T1 H1 T1' H1' → Ltr ρ n fz H' ρ1 n1 H1' → Q .normal T1' H1') → AOps P N ops rest Q T' H'
  | [], ρ, n, T, H, T', H', c, h, k => by
    simp only [evOps] at h
    cases h
    exact AOps.nil (k _ _ _ c (Ltr.refl ..))
  | o :: rest, ρ, n, T, H, T', H', c, h, k => by
    simp only [evOps] at h
    split at h
    · rename_i hd
      split at h
      · rename_i hw
        split at h
        · rename_i v H2 n2 ho
          have key : AOp P N ops o rest Q T' H' := evOp_ok hL hE hc c hd ho fun r H1' hr => by
            obtain ⟨ρ1, c1, l1⟩ := c.next hr o.dst
            exact evOps_ok hL hE hc rest c1 h fun ρ2 T2' H2' c2 l2 => k _ _ _ c2 (l1.trans l2)
          unfold wantC at hw
          split at hw
          · rename_i hg; exact AOps.plain hg key
          · rename_i j b hg
            split at hw
            · cases hw
            · rename_i d hdj
              split at hw
              · rename_i b' hb
                have hb := c.r d _ hb
                simp only [ren] at hb
                have hbb : b' = b := by simpa using hw
                subst hbb
                exact AOps.wanted hg hdj hb hd key
              · cases hw
              · cases hw
        · cases h
      · rename_i hw
        have c1 : Cfg ρ n lo fz (putC o.dst (.tup []) T) H (put o.dst (.tup []) T') H' := ⟨by have := c.r.put o.dst (.tup []); simpa only [ren, renL] using this, c.s.put o.dst (by rfl), c.g⟩
        have key := evOps_ok hL hE hc (Q := Q) rest c1 h k
        unfold wantC at hw
        split at hw
        · cases hw
        · rename_i j b hg
          split at hw
          · cases hw
          · rename_i d hdj
            split at hw
            · rename_i b' hb
              have hb := c.r d _ hb
              simp only [ren] at hb
              have hbb : (b' == b) = false := by simpa using hw
              exact AOps.unwanted hg hdj hb (by cases b <;> cases b' <;> simp_all) hd key
            · rename_i l hb
              have hb := c.r d _ hb
              simp only [ren] at hb
              exact AOps.unwantedU hg hdj hb hd key
            · cases hw
      · cases h
    · cases h
theorem restrC_get {T : Tre A} : ∀ {ts : List Nat} {t : Nat} {x : A}, (restrC T ts).get t = some x → T.get t = some x ∧ t ∈ ts
  | [], t, x, h => by simp [restrC, Tre.get] at h
  | u :: ts, t, x, h => by
    simp only [restrC] at h
    split at h
    · rename_i v hv
      rcases Tre.get_set _ _ _ _ _ _ h with ⟨h1, h2⟩ | ⟨h1, h2⟩
      · subst h1; cases h2; exact ⟨hv, List.mem_cons_self ..⟩
      · obtain ⟨k1, k2⟩ := restrC_get h2
        exact ⟨k1, List.mem_cons_of_mem _ k2⟩
    · obtain ⟨k1, k2⟩ := restrC_get h
      exact ⟨k1, List.mem_cons_of_mem _ k2⟩
theorem get_restr {T' : Env} {t : Nat} {y : A} (h : get T' t = some y) : ∀ {ts : List Nat}, t ∈ ts → get (restr T' ts) t = some y
  | [], hm => by cases hm
  | u :: ts, hm => by
    simp only [restr]
    by_cases e : u = t
    · subst e; rw [h]; simp only [get_put, if_true]
    · have hm : t ∈ ts := by
        rcases List.mem_cons.1 hm with rfl | hm
        · exact absurd rfl e
        · exact hm
      split
      · rw [get_put, if_neg e]; exact get_restr h hm
      · exact get_restr h hm
theorem Cfg.restr (c : Cfg ρ n lo fz T H T' H') (ts : List Nat) : Cfg ρ n lo fz (restrC T ts) H (Go.Abs.restr T' ts) H' :=
  ⟨fun t x hx => by obtain ⟨k1, k2⟩ := restrC_get hx; exact get_restr (c.r t x k1) k2, fun t x hx => c.s t x (restrC_get hx).1, c.g⟩
theorem wantC_ok {ops : List Oper} {o : Oper} (hT : EnvR ρ T T') {b : Bool} (h : wantC ops T o = some b) : wantA ops.toArray T' o = some b := by
  unfold wantC at h
  unfold wantA
  split at h
  · rename_i hg; rw [hg]; exact h
  · rename_i j b hg
    rw [hg]
    simp only [List.getElem?_toArray]
    split at h
    · cases h
    · rename_i d hdj
      rw [hdj]
      simp only
      split at h
      · rename_i b' hb
        have hb := hT d _ hb
        simp only [ren] at hb
        rw [hb]; exact h
      · rename_i l hb
        have hb := hT d _ hb
        simp only [ren] at hb
        rw [hb]; exact h
      · cases h
theorem perm_of_sub {α : Type} : ∀ {l m : List α}, l.Nodup → (∀ x ∈ l, x ∈ m) → ∃ G, m.Perm (G ++ l)
  | [], m, _, _ => ⟨m, by simp⟩
  | a :: l, m, hn, h => by
    obtain ⟨m', hm⟩ := mem_perm (h a (List.mem_cons_self ..))
    obtain ⟨h1, h2⟩ := List.nodup_cons.1 hn
    obtain ⟨G, hG⟩ := perm_of_sub h2 (m := m') fun x hx => by
      rcases List.mem_cons.1 (hm.mem_iff.1 (h x (List.mem_cons_of_mem _ hx))) with e | e
      · subst e; exact absurd hx h1
      · exact e
    exact ⟨G, hm.trans ((hG.cons a).trans List.perm_middle.symm)⟩
theorem nodup_of_keys {H : Heap} (h : (keys H).Nodup) : H.Nodup := List.Pairwise.of_map _ (fun a b hab e => hab (by rw [e])) h
theorem scopeT_ok {n : Nat} {T : Tre A} : ∀ {ts : List Nat}, scopeT n T ts = true → ∀ t x, t ∈ ts → T.get t = some x → scope n x = true
  | [], _, t, x, hm, _ => by cases hm
  | u :: ts, h, t, x, hm, hx => by
    simp only [scopeT] at h
    split at h
    · rename_i v hv
      simp only [Bool.and_eq_true] at h
      rcases List.mem_cons.1 hm with rfl | hm
      · rw [hx] at hv; cases hv; exact h.1
      · exact scopeT_ok h.2 t x hm hx
    · rename_i hv
      rcases List.mem_cons.1 hm with rfl | hm
      · rw [hx] at hv; cases hv
      · exact scopeT_ok h t x hm hx
/-- A call (or a read) that leaves memory as it is, its result told deep. -/
theorem evOp_quiet (hL : LayOk P L) (hE : ExtOk P E) (hc : CallOk P call) (c : Cfg ρ n lo fz T H T' H') {o : Oper} (hd : dstOk N o.dst = true) {v v2 : A} {H1 : Tre Blk} {n1 : Nat} (h : evOp P E L call n T H n o.op = some (v, H1, n1))
    (hdp : deepC n H1 20 v = some v2) (hs : scope n v2 = true) : AOp P N [] o [] (Qn o T' fun r K => r = ren ρ v2 ∧ K = H') T' H' := by
  have cq : Cfg ρ n n (fun k => k ∈ keys H') T H T' H' := ⟨c.r, c.s, ⟨c.g.mem, c.g.inj, c.g.nodup, fun i b hi hn => absurd (c.g.mem i b hi).1 (by omega), fun k hk => hk⟩⟩
  refine evOp_ok hL hE hc cq hd h fun r H1' hr => ?_
  obtain ⟨ρ1, rfl, hs1, g1, l1⟩ := hr
  obtain ⟨G, hG⟩ := perm_of_sub (nodup_of_keys c.g.nodup) (m := H1') fun p hp => l1.keep p hp (keys_mem hp)
  have e2 : ren ρ1 v2 = ren ρ v2 := ren_congr l1.agree v2 hs
  refine AOps.conv (r2 := ren ρ v2) hG (fun fr w u s hr => ?_) (AOps.nil (Qn_n ⟨rfl, rfl⟩))
  rw [← e2]
  exact deep_rep g1 (fun k hk => hk) s 20 v v2 u hdp hr
theorem evPlan_ok (hL : LayOk P L) (hE : ExtOk P E) (hc : CallOk P call) {late : Oper → Bool} {ops : List Oper} {Q : Env → Heap → Prop} {T1 : Tre A} {H1 : Tre Blk} {n1 : Nat} {ρ0 : Nat → Nat} {n0 : Nat} {H0 : Tre Blk} {B : Heap} (g0 : Good ρ0 n0 lo fz H0 B) :
    ∀ (rest : List Oper) {cl : Bool} {ρ : Nat → Nat} {n : Nat} {T : Tre A} {H : Tre Blk} {T' : Env} {H' : Heap} {V : Env},
    Cfg ρ n lo fz T H T' H' → (∀ i, i < n0 → ρ i = ρ0 i) → n0 ≤ n → (cl = true → ∃ G, H'.Perm (G ++ B)) → evPlan P E N L call lo late ops H0 n0 rest cl T H n = some (T1, H1, n1, V) →
    (∀ ρ1 T1' H1', Cfg ρ1 n1 lo fz T1 H1 T1' H1' → Ltr ρ n fz H' ρ1 n1 H1' → Q T1' H1') → ∀ bv : Nat → A, (∀ d x, get V d = some x → bv d = ren ρ0 x) → Plan2 P N L ops.toArray late bv B Q rest T' H'
  | [], cl, ρ, n, T, H, T', H', V, c, hag, hn0, hcl, h, k, bv, hbv => by
    simp only [evPlan] at h
    cases h
    exact ⟨T', fun _ _ h => h, k _ _ _ c (Ltr.refl ..)⟩
  | o :: rest, cl, ρ, n, T, H, T', H', V, c, hag, hn0, hcl, h, k, bv, hbv => by
    simp only [evPlan] at h
    have cr := c.restr (o.looksAt ops.toArray)
    split at h
    · rename_i hd
      split at h
      · rename_i hw
        have c1 : Cfg ρ n lo fz (putC o.dst (.tup []) T) H (put o.dst (.tup []) T') H' := ⟨by have := c.r.put o.dst (.tup []); simpa only [ren, renL] using this, c.s.put o.dst (by rfl), c.g⟩
        exact ⟨hd, .inr (.inl ⟨wantC_ok cr.r hw, evPlan_ok hL hE hc g0 rest c1 hag hn0 hcl h k bv hbv⟩)⟩
      · rename_i hw
        have hw := wantC_ok cr.r hw
        split at h
        · -- early
          rename_i hearly
          simp only [Bool.and_eq_true, Bool.not_eq_true'] at hearly
          have hcls := Nat.eq_of_beq_eq_true hearly.1
          split at h
          · rename_i d hdst hsc
            split at h
            · rename_i v H2 n2 ho
              split at h
              · rename_i v2 hdp
                split at h
                · rename_i hs
                  split at h
                  · rename_i T3 H3 n3 V3 hrest
                    split at h
                    · rename_i hV
                      cases h
                      have hsT : EnvS n0 (restrC T (o.looksAt ops.toArray)) := fun t x hx => by
                        obtain ⟨k1, k2⟩ := restrC_get hx
                        exact scopeT_ok hsc t x k2 k1
                      have cb : Cfg ρ0 n0 lo fz (restrC T (o.looksAt ops.toArray)) H0 (restr T' (o.looksAt ops.toArray)) B :=
                        ⟨fun t x hx => by rw [ren_congr (fun i hi => (hag i hi).symm) x (hsT t x hx)]; exact cr.r t x hx, hsT, g0⟩
                      have e2 : ren ρ v2 = ren ρ0 v2 := ren_congr hag v2 hs
                      have c1 : Cfg ρ n lo fz (putC o.dst v2 T) H (put o.dst (ren ρ0 v2) T') H' := ⟨by rw [← e2]; exact c.r.put o.dst v2, c.s.put o.dst (scope_mono hn0 v2 hs), c.g⟩
                      have hq := evOp_quiet (N := N) hL hE hc cb hd ho hdp hs
                      have hbd : bv d = ren ρ0 v2 := hbv d v2 (by rw [get_put, if_pos rfl])
                      refine ⟨hd, .inr (.inr (.inr (.inr ⟨⟨hcls, hcl rfl⟩, hw, ren ρ0 v2, by rw [hdst, Option.map_some, hbd], hq, ?_⟩)))⟩
                      refine evPlan_ok hL hE hc g0 rest c1 hag hn0 hcl hrest k bv fun d' x hx => ?_
                      refine hbv d' x ?_
                      rw [get_put, if_neg]
                      · exact hx
                      · intro e; rw [e, hx] at hV; cases hV
                    · cases h
                  · cases h
                · cases h
              · cases h
            · cases h
          · cases h
        · rename_i hearly
          have hlate : cls o = 1 → late o = true := fun e => by
            rw [e] at hearly
            simpa using hearly
          split at h
          · rename_i v hv
            split at h
            · rename_i hs
              have c1 : Cfg ρ n lo fz (putC o.dst v T) H (put o.dst (ren ρ v) T') H' := ⟨c.r.put o.dst v, c.s.put o.dst hs, c.g⟩
              exact ⟨hd, .inl ⟨hlate, hw, _, sOpC_ok cr.r hv, evPlan_ok hL hE hc g0 rest c1 hag hn0 hcl h k bv hbv⟩⟩
            · cases h
          · rename_i hno
            split at h
            · rename_i cc args ats hop
              split at h
              · rename_i v H2 n2 ho
                split at h
                · rename_i v2 hdp
                  split at h
                  · rename_i hs
                    have c1 : Cfg ρ n lo fz (putC o.dst v2 T) H (put o.dst (ren ρ v2) T') H' := ⟨c.r.put o.dst v2, c.s.put o.dst hs, c.g⟩
                    have hcl1 : cls o = 1 := by simp only [cls, hop]
                    have hnw : isNew o = false := by simp only [isNew, hop]
                    exact ⟨hd, .inr (.inr (.inl ⟨⟨by rw [hcl1]; simp, hlate, fun e => by rw [hnw] at e; cases e⟩, hw, _, evOp_quiet (N := N) hL hE hc cr hd ho hdp hs, evPlan_ok hL hE hc g0 rest c1 hag hn0 hcl h k bv hbv⟩))⟩
                  · cases h
                · cases h
              · cases h
            · rename_i hop
              split at h
              · rename_i v he
                split at h
                · rename_i hs hcl0 hnw
                  have c1 : Cfg ρ n lo fz (putC o.dst v T) H (put o.dst (ren ρ v) T') H' := ⟨c.r.put o.dst v, c.s.put o.dst hs, c.g⟩
                  have hef := eEffX_ok (N := N) hL cr.r c.g hd he
                  exact ⟨hd, .inr (.inr (.inl ⟨⟨(fun e => by rw [e] at hcl0; cases hcl0), hlate, fun e => by rw [hnw] at e; cases e⟩, hw, _, hef [] [] _ (AOps.nil (Qn_n ⟨rfl, rfl⟩)), evPlan_ok hL hE hc g0 rest c1 hag hn0 hcl h k bv hbv⟩))⟩
                · cases h
              · rename_i e hnp he
                have hef := eEffX_ok (N := N) hL cr.r c.g hd he
                split at h
                · rename_i hc2 hni
                  split at h
                  · rename_i v H2 n2 ha
                    refine ⟨hd, .inr (.inr (.inr (.inl ⟨Nat.eq_of_beq_eq_true hc2, hw, Out ρ n lo fz H' v H2 n2, ⟨eApply_ne hef c.g ha, eApply_ok hef c.g ha fun r H1' hr => AOps.nil (Qn_n hr), fun hi hl => ?_⟩, fun r H1' hr => ?_⟩)))⟩
                    · rw [hi, hl] at hni; cases hni
                    · obtain ⟨ρ1, c1, l1⟩ := c.next hr o.dst
                      exact evPlan_ok hL hE hc g0 rest c1 (fun i hi => (l1.agree i (by omega)).trans (hag i hi)) (by have := l1.le; omega) (fun e => by cases e) h (fun ρ2 T2' H2' c2 l2 => k _ _ _ c2 (l1.trans l2)) bv hbv
                  · cases h
                · rename_i hc2 hni
                  split at h
                  · rename_i m b
                    split at h
                    · rename_i hsb
                      obtain ⟨G, hG⟩ := hcl rfl
                      refine ⟨hd, .inr (.inr (.inr (.inl ⟨Nat.eq_of_beq_eq_true hc2, hw, fun r H1' => ∃ r0, r0 ∉ keys H' ∧ r = m.on r0 ∧ H1' = (r0, renB ρ b) :: H', ⟨?_, hef [] [] _ fun r0 hr0 => AOps.nil (Qn_n ⟨r0, hr0, rfl, rfl⟩), fun _ _ => ⟨⟨G, hG⟩, ?_⟩⟩, ?_⟩)))⟩
                      · obtain ⟨r0, hr0⟩ := fresh (keys H')
                        exact ⟨_, _, r0, hr0, rfl, rfl⟩
                      · rintro r H1' ⟨r0, hr0, rfl, rfl⟩
                        exact ⟨[(r0, renB ρ b)], List.Perm.refl _⟩
                      · rintro r H1' ⟨r0, hr0, rfl, rfl⟩
                        have hout : Out ρ n lo fz H' (m.on n) (Tre.set 40 H n (some b)) (n + 1) (m.on r0) ((r0, renB ρ b) :: H') := ⟨upd ρ n r0, by rw [Mk.ren, upd_at], m.scope n, c.g.new hr0 hsb, fun i hi => upd_lt hi, Nat.le_succ _, fun p hp _ => List.mem_cons_of_mem _ hp⟩
                        obtain ⟨ρ1, c1, l1⟩ := c.next hout o.dst
                        exact evPlan_ok hL hE hc g0 rest c1 (fun i hi => (l1.agree i (by omega)).trans (hag i hi)) (by omega) (fun _ => ⟨(r0, renB ρ b) :: G, hG.cons _⟩) h (fun ρ2 T2' H2' c2 l2 => k _ _ _ c2 (l1.trans l2)) bv hbv
                    · cases h
                  · cases h
                · cases h
              · cases h
      · cases h
    · cases h
end
end Go.Abs

namespace Go.Abs
open Go
set_option linter.unusedVariables false
set_option linter.unusedSimpArgs false
section
variable {P : Program} {E : Exts} {N : Nat} {L : Lay} {call : CallC} {lo fuel : Nat} {fz : Nat → Prop}
theorem evLoop_ok {c : Code} {Q : Exit → Env → Heap → Prop} {e : Exit} {T1 : Tre A} {H1 : Tre Blk} {n1 : Nat} {step : Tre A → Tre Blk → Nat → Res}
    (hs : ∀ {Q : Exit → Env → Heap → Prop} {ρ : Nat → Nat} {n : Nat} {T : Tre A} {H : Tre Blk} {T' : Env} {H' : Heap} {e : Exit} {T1 : Tre A} {H1 : Tre Blk} {n1 : Nat}, Cfg ρ n lo fz T H T' H' → step T H n = some (e, T1, H1, n1) →
      (∀ ρ1 T1' H1', Cfg ρ1 n1 lo fz T1 H1 T1' H1' → Ltr ρ n fz H' ρ1 n1 H1' → Q e T1' H1') → AWp P N c Q T' H') :
    ∀ (f : Nat) {ρ : Nat → Nat} {n : Nat} {T : Tre A} {H : Tre Blk} {T' : Env} {H' : Heap}, Cfg ρ n lo fz T H T' H' → evLoop step f T H n = some (e, T1, H1, n1) →
    (∀ ρ1 T1' H1', Cfg ρ1 n1 lo fz T1 H1 T1' H1' → Ltr ρ n fz H' ρ1 n1 H1' → Q e T1' H1') → AWp P N c (seqQ (AIn P N c Q) Q) T' H'
  | 0, ρ, n, T, H, T', H', cf, h, k => by simp [evLoop] at h
  | f + 1, ρ, n, T, H, T', H', cf, h, k => by
    simp only [evLoop] at h
    split at h
    · rename_i T2 H2 n2 hst
      refine hs cf hst fun ρ1 T1' H1' c1 l1 => seqQ_n ?_
      exact AIn.round (evLoop_ok hs f c1 h fun ρ2 T2' H2' c2 l2 => k _ _ _ c2 (l1.trans l2))
    · rename_i hne
      refine hs cf h fun ρ1 T1' H1' c1 l1 => ?_
      have hq := k ρ1 T1' H1' c1 l1
      cases e with
      | normal => exact absurd h (hne T1 H1 n1)
      | _ => exact hq
theorem evCode_ok (hL : LayOk P L) (hm : P.follows .mixedOrders = true) (hE : ExtOk P E) (hc : CallOk P call) : ∀ (c : Code) {Q : Exit → Env → Heap → Prop} {ρ : Nat → Nat} {n : Nat} {T : Tre A} {H : Tre Blk} {T' : Env} {H' : Heap} {e : Exit} {T1 : Tre A} {H1 : Tre Blk} {n1 : Nat},
    Cfg ρ n lo fz T H T' H' → evCode P E N L call lo fuel c T H n = some (e, T1, H1, n1) →
    (∀ ρ1 T1' H1', Cfg ρ1 n1 lo fz T1 H1 T1' H1' → Ltr ρ n fz H' ρ1 n1 H1' → Q e T1' H1') → AWp P N c Q T' H'
  | .skip, Q, ρ, n, T, H, T', H', e, T1, H1, n1, c, h, k => by
    simp only [evCode] at h; cases h; exact AWp.skip (k _ _ _ c (Ltr.refl ..))
  | .label l, Q, ρ, n, T, H, T', H', e, T1, H1, n1, c, h, k => by
    simp only [evCode] at h; cases h; exact AWp.label (k _ _ _ c (Ltr.refl ..))
  | .exit id, Q, ρ, n, T, H, T', H', e, T1, H1, n1, c, h, k => by
    simp only [evCode] at h; cases h; exact AWp.exit (k _ _ _ c (Ltr.refl ..))
  | .ret, Q, ρ, n, T, H, T', H', e, T1, H1, n1, c, h, k => by
    simp only [evCode] at h; cases h; exact AWp.ret (k _ _ _ c (Ltr.refl ..))
  | .seq a b, Q, ρ, n, T, H, T', H', e, T1, H1, n1, c, h, k => by
    simp only [evCode] at h
    refine AWp.seq ?_
    split at h
    · rename_i T2 H2 n2 ha
      refine evCode_ok hL hm hE hc a c ha fun ρ1 T1' H1' c1 l1 => seqQ_n ?_
      exact evCode_ok hL hm hE hc b c1 h fun ρ2 T2' H2' c2 l2 => k _ _ _ c2 (l1.trans l2)
    · rename_i hne
      refine evCode_ok hL hm hE hc a c h fun ρ1 T1' H1' c1 l1 => ?_
      have hq := k ρ1 T1' H1' c1 l1
      cases e with
      | normal => exact absurd h (hne T1 H1 n1)
      | _ => exact hq
  | .cond x a b, Q, ρ, n, T, H, T', H', e, T1, H1, n1, c, h, k => by
    simp only [evCode] at h
    split at h
    · rename_i hx
      have hx := c.r.ev hx
      simp only [ren] at hx
      exact AWp.condT hx (evCode_ok hL hm hE hc a c h k)
    · rename_i hx
      have hx := c.r.ev hx
      simp only [ren] at hx
      exact AWp.condF hx (evCode_ok hL hm hE hc b c h k)
    · cases h
  | .block id a, Q, ρ, n, T, H, T', H', e, T1, H1, n1, c, h, k => by
    simp only [evCode] at h
    refine AWp.block ?_
    split at h
    · rename_i id' T2 H2 n2 ha
      refine evCode_ok hL hm hE hc a c ha fun ρ1 T1' H1' c1 l1 => ?_
      split at h
      · rename_i hb
        cases h
        exact blockQ_e hb (k _ _ _ c1 l1)
      · rename_i hb
        cases h
        exact blockQ_o hb (k _ _ _ c1 l1)
    · rename_i hne
      refine evCode_ok hL hm hE hc a c h fun ρ1 T1' H1' c1 l1 => ?_
      have hq := k ρ1 T1' H1' c1 l1
      cases e with
      | exit id' => exact absurd h (hne id' T1 H1 n1)
      | _ => exact hq
  | .loop a, Q, ρ, n, T, H, T', H', e, T1, H1, n1, c, h, k => by
    simp only [evCode] at h
    exact AIn.toRound (evLoop_ok (fun c h k => evCode_ok hL hm hE hc a c h k) fuel c h k)
  | .region id ops false, Q, ρ, n, T, H, T', H', e, T1, H1, n1, c, h, k => by
    simp only [evCode] at h
    split at h
    · rename_i T2 H2 n2 ho
      cases h
      have := AWp.region (id := id) (evOps_ok hL hE hc ops.toList c ho k)
      simpa using this
    · cases h
  | .region id ops true, Q, ρ, n, T, H, T', H', e, T1, H1, n1, c, h, k => by
    simp only [evCode] at h
    split at h
    · rename_i hk
      split at h
      · rename_i T2 H2 n2 V ho
        cases h
        have := AWp.draw2 (id := id) hL hm hk (evPlan_ok hL hE hc c.g ops.toList c (fun _ _ => rfl) (Nat.le_refl _) (fun _ => ⟨[], by simp⟩) ho k (fun d => match get V d with | some x => ren ρ x | none => default) fun d x hx => by simp only [hx])
        simpa using this
      · cases h
    · cases h
  | .rangeFunc .., Q, ρ, n, T, H, T', H', e, T1, H1, n1, c, h, k => by simp [evCode] at h
  | .scope .., Q, ρ, n, T, H, T', H', e, T1, H1, n1, c, h, k => by simp [evCode] at h
  | .goto .., Q, ρ, n, T, H, T', H', e, T1, H1, n1, c, h, k => by simp [evCode] at h
  | .refuse .., Q, ρ, n, T, H, T', H', e, T1, H1, n1, c, h, k => by simp [evCode] at h
theorem argsC_ok {ρ : Nat → Nat} : ∀ {l : List A} {i t : Nat} {x : A}, (argsC i l).get t = some x → get (argEnv i (renL ρ l)) t = some (ren ρ x)
  | [], i, t, x, h => by simp [argsC, Tre.get] at h
  | a :: l, i, t, x, h => by
    simp only [argsC] at h
    simp only [renL, argEnv, get_put]
    rcases Tre.get_set _ _ _ _ _ _ h with ⟨h1, h2⟩ | ⟨h1, h2⟩
    · cases h2; rw [if_pos h1.symm]
    · rw [if_neg (fun e => h1 e.symm)]; exact argsC_ok h2
theorem argsC_scope {n : Nat} : ∀ {l : List A} {i t : Nat} {x : A}, scopeL n l = true → (argsC i l).get t = some x → scope n x = true
  | [], i, t, x, _, h => by simp [argsC, Tre.get] at h
  | a :: l, i, t, x, s, h => by
    simp only [argsC] at h
    simp only [scopeL, Bool.and_eq_true] at s
    rcases Tre.get_set _ _ _ _ _ _ h with ⟨h1, h2⟩ | ⟨h1, h2⟩
    · cases h2; exact s.1
    · exact argsC_scope s.2 h2
def resOne (tmps : Array Value) : ResultVar → Sem Value
  | .tmp t => Pure.pure (tmps.getD t undef)
  | .cell a t => do loadVar t (← asAddr (tmps.getD a undef))
theorem resV_ok (hL : LayOk P L) {ρ : Nat → Nat} {n : Nat} {T : Tre A} {H : Tre Blk} {T' : Env} {H' : Heap} (c : Cfg ρ n lo fz T H T' H') {rv : ResultVar} {v : A} (h : resV L T H rv = some v) {fr : Nat → Prop} {w : World} {a : Act} (s : Sim fr H' w) (st : St N w (own fr H') T' a) :
    ∃ u, (resOne a.tmps rv).run P w = .ok u w ∧ Rep w (own fr H') (ren ρ v) u := by
  unfold resV at h
  split at h
  · rename_i t
    exact ⟨_, by simp only [resOne, Sem.run_pure], getD_of_get st (c.r _ _ h)⟩
  · rename_i t ty
    split at h
    · rename_i h1
      have h1 := c.r _ _ h1
      simp only [ren] at h1
      split at h
      · rename_i hrow
        have hm := (c.g.mem _ _ hrow).2.2
        simp only [renB] at hm
        split at h
        · rename_i hsz
          have hsz := Nat.eq_of_beq_eq_true hsz
          subst hsz
          split at h
          · rename_i he
            split at h
            · rename_i ti ht
              have hu := getD_of_get st h1
              generalize h1' : a.tmps.getD t undef = u at hu
              cases hu
              obtain ⟨vs, h2, h3, _, _⟩ := s.elem hm (by rw [renLL_get, he]; rfl)
              obtain ⟨z, hz, hr⟩ := loadVar_run (hL _ _ ht) h2 (h3.drop _) (by rw [ren_loadA, h]; rfl)
              rw [add_plain] at hz
              refine ⟨z, ?_, hr⟩
              simp only [resOne, h1', asAddr, Sem.run_bind, Sem.run_pure, Result.andThen_ok, hz]
            · cases h
          · cases h
        · cases h
      · cases h
    · cases h
theorem resC_ok (hL : LayOk P L) {fn : Func} {ρ : Nat → Nat} {n : Nat} {T : Tre A} {H : Tre Blk} {T' : Env} {H' : Heap} (c : Cfg ρ n lo fz T H T' H') {v : A} (h : resC L T H fn.results.toList = some v) : ResOk P fn N T' H' (ren ρ v) := by
  intro fr w a s st
  have hdef : results fn a.tmps = (do
    let vs ← fn.results.mapM (resOne a.tmps)
    Pure.pure (if h : vs.size = 1 then vs[0] else .tuple vs)) := by
    unfold results
    congr 2
  rw [hdef]
  unfold resC at h
  split at h
  · rename_i hr
    cases h
    have hr : fn.results = #[] := Array.toList_inj.1 (by simpa using hr)
    exact ⟨.tuple #[], by simp [hr], Rep.tup_of .nil⟩
  · rename_i x hr
    have hr : fn.results = #[x] := Array.toList_inj.1 (by simpa using hr)
    obtain ⟨u, h1, h2⟩ := resV_ok (N := N) hL c h s st
    exact ⟨u, by simp [hr, h1], h2⟩
  · rename_i x y hr
    have hr : fn.results = #[x, y] := Array.toList_inj.1 (by simpa using hr)
    split at h
    · rename_i hx hy
      cases h
      obtain ⟨u1, h1, r1⟩ := resV_ok (N := N) hL c hx s st
      obtain ⟨u2, h2, r2⟩ := resV_ok (N := N) hL c hy s st
      exact ⟨.tuple #[u1, u2], by simp [hr, h1, h2], by simp only [ren, renL]; exact Rep.tup_of (.cons r1 (.cons r2 .nil))⟩
    · cases h
  · rename_i x y z hr
    have hr : fn.results = #[x, y, z] := Array.toList_inj.1 (by simpa using hr)
    split at h
    · rename_i hx hy hz
      cases h
      obtain ⟨u1, h1, r1⟩ := resV_ok (N := N) hL c hx s st
      obtain ⟨u2, h2, r2⟩ := resV_ok (N := N) hL c hy s st
      obtain ⟨u3, h3, r3⟩ := resV_ok (N := N) hL c hz s st
      exact ⟨.tuple #[u1, u2, u3], by simp [hr, h1, h2, h3], by simp only [ren, renL]; exact Rep.tup_of (.cons r1 (.cons r2 (.cons r3 .nil)))⟩
    · cases h
  · rename_i x y z q hr
    have hr : fn.results = #[x, y, z, q] := Array.toList_inj.1 (by simpa using hr)
    split at h
    · rename_i hx hy hz hq
      cases h
      obtain ⟨u1, h1, r1⟩ := resV_ok (N := N) hL c hx s st
      obtain ⟨u2, h2, r2⟩ := resV_ok (N := N) hL c hy s st
      obtain ⟨u3, h3, r3⟩ := resV_ok (N := N) hL c hz s st
      obtain ⟨u4, h4, r4⟩ := resV_ok (N := N) hL c hq s st
      exact ⟨.tuple #[u1, u2, u3, u4], by simp [hr, h1, h2, h3, h4], by simp only [ren, renL]; exact Rep.tup_of (.cons r1 (.cons r2 (.cons r3 (.cons r4 .nil))))⟩
    · cases h
  · cases h
theorem evFn_ok (hL : LayOk P L) (hm : P.follows .mixedOrders = true) (hE : ExtOk P E) : ∀ k, CallOk P (evFn P E L fuel k)
  | 0 => fun lo f args H n v H1 n1 h => by simp [evFn] at h
  | k + 1 => fun lo f args H n v H1 n1 h ρ fz H' sa g => by
    simp only [evFn] at h
    split at h
    · rename_i fn hf
      split at h
      · rename_i c hb
        split at h
        · rename_i hn
          have c0 : Cfg ρ n lo fz (argsC 0 args) H (argEnv 0 (renL ρ args)) H' := ⟨fun t x hx => argsC_ok hx, fun t x hx => argsC_scope sa hx, g⟩
          refine Tr.of_body hf hb hn rfl ?_
          rw [renL_len]
          split at h
          · rename_i T2 H2 n2 hcode
            split at h
            · rename_i v' hv
              split at h
              · rename_i hs
                cases h
                refine evCode_ok hL hm hE (evFn_ok hL hm hE k) c c0 hcode fun ρ1 T1' H1' c1 l1 => ?_
                exact bodyQ_r (resC_ok hL c1 hv) ⟨ρ1, rfl, hs, c1.g, l1⟩
              · cases h
            · cases h
          · rename_i T2 H2 n2 hcode
            split at h
            · rename_i v' hv
              split at h
              · rename_i hs
                cases h
                refine evCode_ok hL hm hE (evFn_ok hL hm hE k) c c0 hcode fun ρ1 T1' H1' c1 l1 => ?_
                exact bodyQ_n (resC_ok hL c1 hv) ⟨ρ1, rfl, hs, c1.g, l1⟩
              · cases h
            · cases h
          · cases h
        · cases h
      · cases h
    · cases h
/-- A run with nothing unknown: what the evaluator says holds. -/
theorem PTr.run (hL : LayOk P L) (hm : P.follows .mixedOrders = true) (hE : ExtOk P E) (k : Nat) {f : FuncId} {v : A} (hv : scope 0 v = true) (h : (match evFn P E L fuel k 0 f [] .leaf 0 with | some (v, _, _) => some v | none => none) = some v) : PTr P f [] v := by
  split at h
  · rename_i v' H1 n1 he
    cases h
    have g : Good id 0 0 (fun _ => False) .leaf [] := ⟨fun i b h => by simp [Tre.get] at h, fun i j b c h => by simp [Tre.get] at h, List.nodup_nil, fun i b h => by simp [Tre.get] at h, fun k h => h.elim⟩
    refine (evFn_ok hL hm hE k 0 f [] .leaf 0 v H1 n1 he id (fun _ => False) [] rfl g).mono ?_
    rintro r H' ⟨ρ1, rfl, _, _, _⟩
    exact ren_closed ρ1 hv
  · cases h
end
end Go.Abs

namespace Go.Abs
open Go
set_option linter.unusedVariables false
set_option linter.unusedSimpArgs false
/-! Functions without a body. -/
def extC (same ixb : List Nat) : Exts := fun f xs => match memN f same, xs with
  | true, [v] => some v
  | _, _ => match memN f ixb, xs with
    | true, [.str s, .int .u8 c] => match decide (inR .i64 (Lib.indexByte s c.toNat.toUInt8)) with
      | true => some (.int .i64 (Lib.indexByte s c.toNat.toUInt8))
      | false => none
    | _, _ => none
def ExtFn (P : Program) (f : FuncId) (e : Array Value → Sem Value) : Prop := ∃ fn, P.funcs[f]? = some fn ∧ (fn.name == "runtime.NumGoroutine") = false ∧ fn.body.isNone = true ∧ Extern.findNext fn = none ∧ Extern.find fn = some e
theorem memN_iff {d : Nat} : ∀ {l : List Nat}, memN d l = true → d ∈ l
  | [], h => by cases h
  | x :: l, h => by
    simp only [memN] at h
    split at h
    · rename_i e; rw [Nat.eq_of_beq_eq_true e]; exact List.mem_cons_self ..
    · exact List.mem_cons_of_mem _ (memN_iff h)
theorem extC_ok {P : Program} {same ixb : List Nat} (h1 : ∀ f ∈ same, ExtFn P f Extern.AbiNoEscape.same) (h2 : ∀ f ∈ ixb, ExtFn P f Extern.BytealgIndexByte.indexByte) : ExtOk P (extC same ixb) := by
  intro f xs v h ρ w o vs hr
  unfold extC at h
  split at h
  · rename_i hm
    cases h
    obtain ⟨fn, k1, k2, k3, k4, k5⟩ := h1 f (memN_iff hm)
    simp only [renL] at hr
    cases hr with
    | cons ha ht =>
      cases ht
      refine ⟨_, ?_, ha⟩
      rw [run_callFunc_extern k1 k2 k3 k4 k5]
      simp [Lib.run_noEscape]
  · split at h
    · rename_i hm hne
      split at h
      · rename_i hin
        have hin := of_decide_eq_true hin
        cases h
        obtain ⟨fn, k1, k2, k3, k4, k5⟩ := h2 f (memN_iff hm)
        simp only [renL, ren] at hr
        cases hr with
        | cons ha ht =>
          cases ht with
          | cons hb ht =>
            cases ht
            cases ha
            cases hb
            refine ⟨_, ?_, .int _ _ hin⟩
            rw [run_callFunc_extern k1 k2 k3 k4 k5]
            simp [Lib.run_indexByteString]
      · cases h
    · cases h
end Go.Abs

