/- A part of the proof: a layer of abstract values over the kit's walks, an evaluator over it, and walks of functions. -/
import Derived.Test.YtpopmiodjibljaaGreatDoorPclE
set_option linter.unusedVariables false
set_option linter.unusedSimpArgs false

namespace Go.Proofs.YtpopmiodjibljaaGreatDoor
open Go Go.Abs
set_option linter.unusedVariables false
set_option maxRecDepth 100000
set_option linter.unusedSimpArgs false

/-! The names met so far, as the map holds them. -/
def NM (es : List (A × A)) (ns : List (List UInt8)) : Prop := ∀ k : List UInt8, (k ∈ ns ∧ ∃ i, findM (.str k) es = some (some (i, .bool (!(k == []))))) ∨ (k ∉ ns ∧ findM (.str k) es = some none)
theorem NM_nil : NM [] [] := fun k => .inr ⟨by simp, rfl⟩
theorem findM_append {x k v : A} : ∀ {es : List (A × A)} {r : Option (Nat × A)}, findM x es = some r → ∀ b, keyEq x k = some b →
    findM x (es ++ [(k, v)]) = some (match r with | some q => some q | none => match b with | true => some (es.length, v) | false => none)
  | [], r, h, b, hb => by
    simp only [findM] at h; cases h
    simp only [List.nil_append, findM, hb]
    cases b <;> rfl
  | (k', u) :: es, r, h, b, hb => by
    simp only [findM] at h
    simp only [List.cons_append, findM]
    split at h
    · rename_i hk; cases h; simp only [hk]
    · rename_i hk
      split at h
      · rename_i hj
        cases h
        rw [findM_append hj b hb]
      · rename_i hj
        cases h
        rw [findM_append hj b hb]
        cases b <;> rfl
      · cases h
    · cases h
theorem keyEq_str {a : List UInt8} {x : A} (h : keyEq (.str a) x = some true) : x = .str a := by
  cases x <;> simp only [keyEq] at h <;> first | (cases h; done) | skip
  have := eq_of_beq (Option.some.inj h)
  rw [this]
theorem NM_put {es : List (A × A)} {ns : List (List UInt8)} (h : NM es ns) (k : List UInt8) : ∃ es', putM es (.str k) (.bool (!(k == []))) = some es' ∧ NM es' (ns ++ [k]) := by
  rcases h k with ⟨hm, i, hf⟩ | ⟨hm, hf⟩
  · refine ⟨es, ?_, fun k2 => ?_⟩
    · unfold putM
      rw [hf]
      obtain ⟨key, h1, h2⟩ := findM_at hf
      rw [keyEq_str h2] at h1
      obtain ⟨hlt, h3⟩ := List.getElem?_eq_some_iff.1 h1
      simp only
      rw [← h3, List.set_getElem_self]
    · rcases h k2 with ⟨a, b⟩ | ⟨a, b⟩
      · exact .inl ⟨List.mem_append_left _ a, b⟩
      · refine .inr ⟨fun hh => ?_, b⟩
        rcases List.mem_append.1 hh with hh | hh
        · exact a hh
        · rw [List.mem_singleton.1 hh] at a; exact a hm
  · refine ⟨es ++ [(.str k, .bool (!(k == [])))], ?_, fun k2 => ?_⟩
    · unfold putM; rw [hf]
    · by_cases hk : k2 = k
      · subst hk
        refine .inl ⟨by simp, es.length, ?_⟩
        rw [findM_append hf true (by simp [keyEq])]
      · have hb : keyEq (.str k2) (.str k) = some false := by simp [keyEq, hk]
        rcases h k2 with ⟨a, i, b⟩ | ⟨a, b⟩
        · refine .inl ⟨List.mem_append_left _ a, i, ?_⟩
          rw [findM_append b false hb]
        · refine .inr ⟨fun hh => ?_, ?_⟩
          · rcases List.mem_append.1 hh with hh | hh
            · exact a hh
            · exact hk (List.mem_singleton.1 hh)
          · rw [findM_append b false hb]

abbrev RSt := Int × List (List UInt8)
def grpStep (x : Pat) (st : RSt) : Option RSt :=
  if x.op = 7 then (if x.n = w64 (st.1 + 1) ∧ ¬ (x.name ∈ st.2 ∧ x.name ≠ []) then some (w64 (st.1 + 1), st.2 ++ [x.name]) else none) else some st
def lookE (x : Pat) : Bool := !(decide (x.op = 9) && decide (x.n ≥ 2)) || (match x.l with | [] => false | y :: _ => decide ((lenP y).1 = (lenP y).2))
def besO (op op' : Int) : Bool := if op = 4 then !decide (op' = 4) && !decide (op' = 0) else if op = 5 then !decide (op' = 5) else true
mutual
def rgtP : Pat → Int → Bool → RSt → Option RSt
  | .mk op n mn mx nm st l, g, k, s => if (!nodeM (.mk op n mn mx nm st l) g || (decide (op = 18) && k)) = true then none else match grpStep (.mk op n mn mx nm st l) s with
    | none => none
    | some s1 => match rgtL op l g (k || decide (op = 9)) s1 with
      | none => none
      | some s2 => if lookE (.mk op n mn mx nm st l) = true then some s2 else none
def rgtL (op : Int) : List Pat → Int → Bool → RSt → Option RSt
  | [], _, _, s => some s
  | y :: l, g, k, s => if besO op y.op = true then match rgtP y g k s with
    | none => none
    | some s1 => rgtL op l g k s1 else none
end
theorem rgtP_eq (x : Pat) (g : Int) (k : Bool) (s : RSt) : rgtP x g k s = if (!nodeM x g || (decide (x.op = 18) && k)) = true then none else match grpStep x s with
    | none => none
    | some s1 => match rgtL x.op x.l g (k || decide (x.op = 9)) s1 with
      | none => none
      | some s2 => if lookE x = true then some s2 else none := by cases x; rw [rgtP]; rfl
theorem besideM_eq (x y : Pat) : besideM x y = besO x.op y.op := rfl
theorem rgtL_mem {op g : Int} {k : Bool} : ∀ {l : List Pat} {s s' : RSt}, rgtL op l g k s = some s' → ∀ y ∈ l, ∃ s1 s2, rgtP y g k s1 = some s2
  | [], s, s', _, y, hy => by cases hy
  | x :: l, s, s', h, y, hy => by
    simp only [rgtL] at h
    split at h
    · split at h
      · cases h
      · rename_i s1 hx
        rcases List.mem_cons.1 hy with rfl | hy
        · exact ⟨_, _, hx⟩
        · exact rgtL_mem h y hy
    · cases h
theorem nodeM_parts {x : Pat} {g : Int} (h : nodeM x g = true) (ho : x.op = 5 ∨ x.op = 6 ∨ x.op = 7 ∨ x.op = 8 ∨ x.op = 9 ∨ x.op = 15) : x.l ≠ [] := by
  intro hnil
  unfold nodeM at h
  rcases ho with e | e | e | e | e | e <;> simp [e, nodeR, hnil] at h
theorem rgtP_Sh (x : Pat) : ∀ {g : Int} {k : Bool} {s s' : RSt}, rgtP x g k s = some s' → Sh x := by
  induction x using Pat.ind with | h x IH => _
  intro g k s s' h
  rw [rgtP_eq] at h
  split at h
  · cases h
  · rename_i hn
    split at h
    · cases h
    · split at h
      · cases h
      · rename_i s2 hL
        refine .mk x (fun hop => nodeM_parts (g := g) (by cases hq : nodeM x g <;> simp [hq] at hn ⊢) (by rcases hop with e | e | e | e | e <;> simp [e])) fun y hy => ?_
        obtain ⟨a, b, hy'⟩ := rgtL_mem hL y hy
        exact IH y hy hy'
def HP (rs rn rm rg rl : Nat) (s : Int) (es : List (A × A)) (g : Int) : Heap :=
  [(rs, .row 3 1 [[i64 s]]), (rn, .row 162 1 [[.map rm]]), (rg, .row 3 1 [[i64 g]]), (rl, .row 210 1 [[.fn 163 [] [.ptr rg 1 0 0, .ptr rs 1 0 0, .ptr rn 1 0 0, .ptr rl 1 0 0]]]), (rm, .map es)]
def RR (rs rn rm rg rl : Nat) (g : Int) (o : Option RSt) : A → Heap → Prop := fun r H' => ∃ G s ns es, H' = G ++ HP rs rn rm rg rl s es g ∧ NM es ns ∧ ((r = .bool true ∧ o = some (s, ns)) ∨ (r = .bool false ∧ o = none))
theorem RR_of {rs rn rm rg rl : Nat} {g : Int} {o : Option RSt} (G : Heap) {s : Int} {ns : List (List UInt8)} {es : List (A × A)} (hN : NM es ns) (b : Bool) (h : o = if b = true then some (s, ns) else none) : RR rs rn rm rg rl g o (.bool b) (G ++ HP rs rn rm rg rl s es g) := by
  cases b with
  | true => exact ⟨G, s, ns, es, rfl, hN, .inl ⟨rfl, h⟩⟩
  | false => exact ⟨G, s, ns, es, rfl, hN, .inr ⟨rfl, h⟩⟩
theorem AOps.after {P : Program} {N : NN} {ops rest : List Oper} {Q : Exit → Env → Heap → Prop} {T : Env} {G B F : Heap} (k : AOps P N ops rest Q T (F ++ B)) : AOps P N ops rest Q T ((G ++ B) ++ F) := by
  refine AOps.perm (H' := G ++ (F ++ B)) ?_ (AOps.dropL G k)
  rw [List.append_assoc]
  exact List.perm_append_comm.append_left G
set_option maxHeartbeats 4000000 in
theorem right1_tr (rs rn rm rg rl : Nat) (g : Int) (x : Pat) : ∀ (kk : Bool) (s : Int) (ns : List (List UInt8)) (es : List (A × A)), NM es ns →
    Tr Tryz.prog 163 [.agg x.C, .bool kk, .ptr rg 1 0 0, .ptr rs 1 0 0, .ptr rn 1 0 0, .ptr rl 1 0 0] (HP rs rn rm rg rl s es g) (RR rs rn rm rg rl g (rgtP x g kk (s, ns))) := by
  induction x using Pat.ind with | h x IH => _
  intro kk s ns es hN
  refine Tr.of_body (N := 89) Tryz.func163 rfl rfl rfl ?_
  refine AWp.know (t := 0) rfl (Known.agg mem_C (Known.ds _)) fun hlen => ?_
  rw [List.length_map] at hlen
  refine AWp.seq ?_
  refine AWp.region ?_
  refine AOps.pln ?_
  refine AOp.box rfl rfl (isVal_or rfl) rfl rfl ?_
  intro r6 _
  refine AOps.sim okL rfl rfl ?_
  refine AOps.nil ?_
  refine seqQ_n ?_
  refine AWp.seq ?_
  refine AWp.join (α := Unit) (fun _ => [(1, .bool kk), (2, .ptr rg 1 0 0), (3, .ptr rs 1 0 0), (4, .ptr rn 1 0 0), (5, .ptr rl 1 0 0), (6, .ptr r6 7 0 0)]) (fun _ => (r6, .row 25 7 [x.C]) :: HP rs rn rm rg rl s es g)
    (fun _ => (!nodeM x g || (decide (x.op = 18) && kk)) = false) ?_ fun R K hR => ?_
  · rintro _ hA
    refine AWp.seq ?_
    refine AWp.join (α := Int × List (List UInt8) × List (A × A)) (fun _ => [(1, .bool kk), (2, .ptr rg 1 0 0), (3, .ptr rs 1 0 0), (4, .ptr rn 1 0 0), (5, .ptr rl 1 0 0), (6, .ptr r6 7 0 0)]) (fun a => (r6, .row 25 7 [x.C]) :: HP rs rn rm rg rl a.1 a.2.2 g)
      (fun a => NM a.2.2 a.2.1 ∧ grpStep x (s, ns) = some (a.1, a.2.1)) ?_ fun R K hR => ?_
    · rintro ⟨s1, n1, e1⟩ ⟨hN1, hS⟩
      simp only at hN1 hS ⊢
      refine ae0 (ag 4 rfl (AC.pln (AOp.load okL rfl (.head _) rfl rfl rfl rfl (ab (ag 5 rfl (AC.toCode ?_))))))
      refine AWp.loopM (α := Nat × Int × List (List UInt8) × List (A × A)) (fun a => x.l.length - a.1) (fun a => [(1, .bool kk), (2, .ptr rg 1 0 0), (3, .ptr rs 1 0 0), (4, .ptr rn 1 0 0), (5, .ptr rl 1 0 0), (6, .ptr r6 7 0 0), (47, .ds (x.l.map Pat.cells)), (48, i64 (x.l.map Pat.cells).length), (49, i64 a.1)])
        (fun a => (r6, .row 25 7 [x.C]) :: HP rs rn rm rg rl a.2.1 a.2.2.2 g)
        (fun a => a.1 ≤ x.l.length ∧ NM a.2.2.2 a.2.2.1 ∧ rgtL x.op (x.l.drop a.1) g (kk || decide (x.op = 9)) (a.2.1, a.2.2.1) = rgtL x.op x.l g (kk || decide (x.op = 9)) (s1, n1)) (0, s1, n1, e1) ⟨Nat.zero_le _, hN1, rfl⟩ ?_ (List.Perm.refl _) ?_
      · simp only [AllIn]
        refine ⟨rfl, rfl, rfl, rfl, rfl, rfl, rfl, rfl, rfl, trivial⟩
      rintro ⟨k, s2, n2, e2⟩ ⟨hk, hN2, hm⟩ ih
      simp only at hk hN2 hm
      refine ae0 (ag 6 rfl (AC.toCode ?_))
      (refine AWp.condCase rfl (fun h => ?_) (fun h => ?_))
      · have h := of_decide_eq_true h
        simp only [List.length_map] at h
        obtain ⟨y, hy⟩ : ∃ y, x.l[k]? = some y := ⟨x.l[k], by simp [show k < x.l.length by omega]⟩
        have nx := nxt (k := k) (n := x.l.length) (by omega) hlen
        have hym := List.mem_of_getElem? hy
        rw [drop_get hy, rgtL] at hm
        refine ae (ag 6 rfl (AC.sim okL (sOp_idxD rfl rfl rfl rfl rfl (by omega) (getC hy) rfl) rfl (ag 1 rfl (AC.pln (AOp.alloc okL rfl rfl rfl (fun _ _ => (ab (AC.pln (AOp.store okL rfl rfl rfl (isVal_or rfl) rfl rfl rfl .here rfl rfl rfl (ab (ag 4 rfl (AC.pln (AOp.load okL rfl (.tail _ (.head _)) rfl rfl rfl rfl (ab (AC.pln (AOp.load okL rfl (.head _) rfl rfl rfl rfl (ab (AC.pln (AOp.callP rfl rfl rfl (isBeside_tr x y) (ab (ag 2 rfl (AC.toOps ?_))))))))))))))))))))))
        rename_i r10 _
        (refine AOps.guardCase rfl rfl rfl (fun hb => ?_) (fun hb => ?_))
        · have hb : besO x.op y.op = false := by simpa [besideM_eq] using hb
          rw [if_neg (by rw [hb]; simp)] at hm
          refine ab (ag 22 rfl (AC.nilE (ax (ag 2 rfl (AC.nilE ?_)))))
          refine bodyQ_r (ResOk.one rfl rfl) ?_
          exact RR_of [_, _] hN2 false (by rw [rgtP_eq, if_neg (by rw [hA]; exact Bool.false_ne_true), hS]; simp only [← hm]; rfl)
        · have hb : besO x.op y.op = true := by simpa [besideM_eq] using hb
          rw [if_pos hb] at hm
          refine ab (AC.wtd rfl rfl rfl (AOp.load okL rfl (.tail _ (.tail _ (.tail _ (.tail _ (.tail _ (.head _)))))) rfl rfl rfl rfl (ab (AC.wtd rfl rfl rfl (AOp.load okL rfl (.head _) rfl rfl rfl rfl (ab (ag 2 rfl (AC.toOps ?_))))))))
          (refine AOps.guardCase rfl rfl rfl (fun hkk => ?_) (fun hkk => ?_))
          · subst hkk
            rw [Bool.true_or] at hm
            rw [Bool.true_or] at ih
            refine ab (ag 4 rfl (AC.toOps ?_))
            refine AOps.wtd rfl rfl rfl (AOp.callFn (Hc := HP rs rn rm rg rl s2 e2 g) (F := [(r10, .row 25 7 [y.C]), (r6, .row 25 7 [x.C])]) rfl rfl rfl (List.perm_append_comm (l₁ := [_, _])) (IH y hym _ s2 n2 e2 hN2) ?_)
            rintro _ H' ⟨G, s3, n3, e3, rfl, hN3, (⟨rfl, ho⟩ | ⟨rfl, ho⟩)⟩
            · refine AOps.after ?_
              rw [ho] at hm
              refine ab (ag 12 rfl (AC.nilE (seqQ_n ?_)))
              (refine AIn.nextN 1 (ih ((k + 1, s3, n3, e3)) (⟨by omega, hN3, hm⟩) (by omega)) ?_ rfl; repeat (first | exact trivial | refine ⟨rfl, ?_⟩ | refine ⟨congrArg some nx, ?_⟩))
            · refine AOps.after ?_
              rw [ho] at hm
              refine ab (ag 13 rfl (AC.nilE (ax (ag 2 rfl (AC.nilE ?_)))))
              refine bodyQ_r (ResOk.one rfl rfl) ?_
              have hmn := hm.symm
              exact RR_of [_, _] hN3 false (by rw [rgtP_eq, if_neg (by rw [hA]; exact Bool.false_ne_true), hS]; simp only [Bool.false_or, Bool.true_or, hmn]; rfl)
          · subst hkk
            rw [Bool.false_or] at hm
            rw [Bool.false_or] at ih
            refine ab (ag 1 rfl (AC.wtd rfl rfl rfl (AOp.load okL rfl (.tail _ (.head _)) rfl rfl rfl rfl (ab (ag 2 rfl (AC.toOps ?_))))))
            refine AOps.wtd rfl rfl rfl (AOp.callFn (Hc := HP rs rn rm rg rl s2 e2 g) (F := [(r10, .row 25 7 [y.C]), (r6, .row 25 7 [x.C])]) rfl rfl rfl (List.perm_append_comm (l₁ := [_, _])) (IH y hym _ s2 n2 e2 hN2) ?_)
            rintro _ H' ⟨G, s3, n3, e3, rfl, hN3, (⟨rfl, ho⟩ | ⟨rfl, ho⟩)⟩
            · refine AOps.after ?_
              have ho : rgtP y g (decide (x.op = 9)) (s2, n2) = _ := ho
              rw [ho] at hm
              refine ab (ag 12 rfl (AC.nilE (seqQ_n ?_)))
              (refine AIn.nextN 1 (ih ((k + 1, s3, n3, e3)) (⟨by omega, hN3, hm⟩) (by omega)) ?_ rfl; repeat (first | exact trivial | refine ⟨rfl, ?_⟩ | refine ⟨congrArg some nx, ?_⟩))
            · refine AOps.after ?_
              have ho : rgtP y g (decide (x.op = 9)) (s2, n2) = _ := ho
              rw [ho] at hm
              refine ab (ag 13 rfl (AC.nilE (ax (ag 2 rfl (AC.nilE ?_)))))
              refine bodyQ_r (ResOk.one rfl rfl) ?_
              have hmn := hm.symm
              exact RR_of [_, _] hN3 false (by rw [rgtP_eq, if_neg (by rw [hA]; exact Bool.false_ne_true), hS]; simp only [Bool.false_or, Bool.true_or, hmn]; rfl)
      · have h := of_decide_eq_false h
        simp only [List.length_map] at h
        rw [List.drop_eq_nil_of_le (by omega), rgtL] at hm
        have hP : rgtP x g kk (s, ns) = if lookE x = true then some (s2, n2) else none := by
          rw [rgtP_eq, if_neg (by rw [hA]; exact Bool.false_ne_true), hS]
          simp only [← hm]
        have hnode : nodeM x g = true := by cases hq : nodeM x g <;> simp [hq] at hA ⊢
        cases hxl : x.l with
        | nil =>
          have h9 : ¬ x.op = 9 := fun e => nodeM_parts hnode (by simp [e]) hxl
          refine ae (ag 2 rfl (AC.nilE (ae (ag 4 rfl (AC.pln (AOp.load okL rfl (.head _) rfl rfl rfl rfl (ab (ag 2 rfl (AC.toOps ?_)))))))))
          refine AOps.guardCase rfl rfl rfl (fun h => ?_) (fun h => ?_)
          · refine ab (ag 1 rfl (AC.wtd rfl rfl rfl (AOp.load okL rfl (.head _) rfl rfl rfl rfl (ab (ag 4 rfl (AC.toCode ?_))))))
            refine AWp.condCase rfl (fun h => ?_) (fun h => ?_)
            · refine ae (ag 3 rfl (AC.pln (AOp.load okL rfl (.head _) rfl rfl rfl rfl (ab (AC.toOps (ab (AC.toOps ?_)))))))
              (exfalso; clear IH ih; simp_all; done)
            · refine ae (ag 8 rfl (AC.nilE ?_))
              (refine bodyQ_r (ResOk.one rfl rfl) ?_; exact RR_of [_] hN2 true (by rw [hP]; simp [lookE, h9]))
          · refine ab (ag 15 rfl (AC.nilE ?_))
            (refine bodyQ_r (ResOk.one rfl rfl) ?_; exact RR_of [_] hN2 true (by rw [hP]; simp [lookE, h9]))
        | cons y0 l0 =>
          have hg : x.l[0]? = some y0 := by rw [hxl]; rfl
          obtain ⟨q1, q2, hq⟩ := rgtL_mem hm.symm y0 (by rw [hxl]; exact List.mem_cons_self)
          have hc := lengths_tr y0 (rgtP_Sh y0 hq)
          refine ae (ag 2 rfl (AC.nilE (ae (ag 4 rfl (AC.pln (AOp.load okL rfl (.head _) rfl rfl rfl rfl (ab (ag 2 rfl (AC.toOps ?_)))))))))
          refine AOps.guardCase rfl rfl rfl (fun h => ?_) (fun h => ?_)
          · refine ab (ag 1 rfl (AC.wtd rfl rfl rfl (AOp.load okL rfl (.head _) rfl rfl rfl rfl (ab (ag 4 rfl (AC.toCode ?_))))))
            refine AWp.condCase rfl (fun h => ?_) (fun h => ?_)
            · refine ae (ag 3 rfl (AC.pln (AOp.load okL rfl (.head _) rfl rfl rfl rfl (ab (AC.sim okL (sOp_idxD rfl rfl rfl rfl rfl (Int.le_refl _) (getC hg) rfl) rfl (ag 1 rfl (AC.pln (AOp.callP rfl rfl rfl (hc) (ab (ag 17 rfl (AC.nilE ?_)))))))))))
              (refine bodyQ_r (ResOk.one rfl rfl) ?_; exact RR_of [_] hN2 _ (by rw [hP]; clear IH ih hc hm hP hN hN1 hN2; simp_all [lookE]; done))
            · refine ae (ag 8 rfl (AC.nilE ?_))
              (refine bodyQ_r (ResOk.one rfl rfl) ?_; exact RR_of [_] hN2 true (by rw [hP]; clear IH ih hc hm hP hN hN1 hN2; simp_all [lookE]; done))
          · refine ab (ag 15 rfl (AC.nilE ?_))
            (refine bodyQ_r (ResOk.one rfl rfl) ?_; exact RR_of [_] hN2 true (by rw [hP]; clear IH ih hc hm hP hN hN1 hN2; simp_all [lookE]; done))
    · refine ae0 (ag 3 rfl (AC.pln (AOp.load okL rfl (.head _) rfl rfl rfl rfl (ab (ag 3 rfl (AC.toCode ?_))))))
      (refine AWp.condCase rfl (fun h7 => ?_) (fun h7 => ?_))
      · have h7 : x.op = 7 := by simpa using h7
        refine ae (ag 2 rfl (AC.pln (AOp.load okL rfl (.tail _ (.head _)) rfl rfl rfl rfl (ab (ag 1 rfl (AC.pln (AOp.store okL rfl rfl rfl (isVal_or rfl) rfl rfl rfl (.there .here) rfl rfl rfl (ab (ag 6 rfl (AC.pln (AOp.load okL rfl (.head _) rfl rfl rfl rfl (ab (AC.pln (AOp.load okL rfl (.tail _ (.head _)) rfl rfl rfl rfl (ab (ag 2 rfl (AC.toOps ?_)))))))))))))))))
        (refine AOps.guardCase rfl rfl rfl (fun h34 => ?_) (fun h34 => ?_))
        · have hG : grpStep x (s, ns) = none := by
            simp only [grpStep, h7, if_true]
            rw [if_neg]
            intro hh
            simp [w64] at h34 hh
            exact h34 hh.1
          refine ab (ag 15 rfl (AC.nilE ?_))
          refine hR _ _ _ (by intro h; cases h) ?_
          refine bodyQ_r (ResOk.one rfl rfl) ?_
          exact ⟨[_], _, ns, es, rfl, hN, .inr ⟨rfl, by rw [rgtP_eq, if_neg (by rw [hA]; exact Bool.false_ne_true), hG]⟩⟩
        · have h34 : x.n = w64 (s + 1) := by simpa [w64] using h34
          obtain ⟨es2, hput, hN2⟩ := NM_put hN x.name
          rcases hN x.name with ⟨hm, i, hf⟩ | ⟨hm, hf⟩
          · refine ab (AC.wtd rfl rfl rfl (AOp.load okL rfl (.tail _ (.tail _ (.head _))) rfl rfl rfl rfl (ab (ag 1 rfl (AC.wtd rfl rfl rfl (AOp.load okL rfl (.head _) rfl rfl rfl rfl (ab (AC.toOps ?_))))))))
            refine AOps.wtd rfl rfl rfl (AOp.lookup okL rfl (List.mem_cons_of_mem _ (List.mem_cons_of_mem _ (List.mem_cons_of_mem _ (List.mem_cons_of_mem _ (List.mem_cons_of_mem _ List.mem_cons_self))))) rfl rfl rfl rfl rfl rfl hf rfl ?_)
            refine ab (ag 3 rfl (AC.toCode ?_))
            (refine AWp.condCase rfl (fun h39 => ?_) (fun h39 => ?_))
            · have hG : grpStep x (s, ns) = none := by
                simp only [grpStep, h7, if_true]
                rw [if_neg]
                intro hh
                exact hh.2 ⟨hm, by simpa using h39⟩
              refine ae (ag 7 rfl (AC.nilE ?_))
              refine hR _ _ _ (by intro h; cases h) ?_
              refine bodyQ_r (ResOk.one rfl rfl) ?_
              exact ⟨[_], _, ns, es, rfl, hN, .inr ⟨rfl, by rw [rgtP_eq, if_neg (by rw [hA]; exact Bool.false_ne_true), hG]⟩⟩
            · have hG : grpStep x (s, ns) = some (w64 (s + 1), ns ++ [x.name]) := by
                simp only [grpStep, h7, if_true]
                rw [if_pos ⟨h34, fun hh => by simp at h39; exact hh.2 h39⟩]
              refine ae (ag 3 rfl (AC.pln (AOp.load okL rfl (.tail _ (.tail _ (.head _))) rfl rfl rfl rfl (ab (ag 1 rfl (AC.pln (AOp.load okL rfl (.head _) rfl rfl rfl rfl (ab (ag 1 rfl (AC.pln (AOp.load okL rfl (.head _) rfl rfl rfl rfl (ab (ag 1 rfl (AC.toOps ?_))))))))))))))
              refine AOps.pln (AOp.mapUpdate okL rfl rfl rfl rfl rfl rfl rfl hput (.there (.there (.there (.there (.there .here))))) rfl ?_)
              refine ab (ag 1 rfl (AC.nilE ?_))
              exact K (_, ns ++ [x.name], es2) ⟨hN2, hG⟩ 0 _ _ ⟨rfl, rfl, rfl, rfl, rfl, rfl, trivial⟩ rfl
          · have hG : grpStep x (s, ns) = some (w64 (s + 1), ns ++ [x.name]) := by
              simp only [grpStep, h7, if_true]
              rw [if_pos ⟨h34, fun hh => hm hh.1⟩]
            refine ab (AC.wtd rfl rfl rfl (AOp.load okL rfl (.tail _ (.tail _ (.head _))) rfl rfl rfl rfl (ab (ag 1 rfl (AC.wtd rfl rfl rfl (AOp.load okL rfl (.head _) rfl rfl rfl rfl (ab (AC.toOps ?_))))))))
            refine AOps.wtd rfl rfl rfl (AOp.lookup okL rfl (List.mem_cons_of_mem _ (List.mem_cons_of_mem _ (List.mem_cons_of_mem _ (List.mem_cons_of_mem _ (List.mem_cons_of_mem _ List.mem_cons_self))))) rfl rfl rfl rfl rfl rfl hf rfl ?_)
            refine ab (ag 7 rfl (AC.pln (AOp.load okL rfl (.tail _ (.tail _ (.head _))) rfl rfl rfl rfl (ab (ag 1 rfl (AC.pln (AOp.load okL rfl (.head _) rfl rfl rfl rfl (ab (ag 1 rfl (AC.pln (AOp.load okL rfl (.head _) rfl rfl rfl rfl (ab (ag 1 rfl (AC.toOps ?_))))))))))))))
            refine AOps.pln (AOp.mapUpdate okL rfl rfl rfl rfl rfl rfl rfl hput (.there (.there (.there (.there (.there .here))))) rfl ?_)
            refine ab (ag 1 rfl (AC.nilE ?_))
            exact K (_, ns ++ [x.name], es2) ⟨hN2, hG⟩ 0 _ _ ⟨rfl, rfl, rfl, rfl, rfl, rfl, trivial⟩ rfl
      · have h7 : ¬ x.op = 7 := by simpa using h7
        refine ae (ag 1 rfl (AC.nilE ?_))
        exact K (s, ns, es) ⟨hN, by simp only [grpStep]; rw [if_neg h7]⟩ 0 _ _ ⟨rfl, rfl, rfl, rfl, rfl, rfl, trivial⟩ rfl
  · refine ae0 (ag 2 rfl (AC.pln (AOp.load okL rfl (.head _) rfl rfl rfl rfl (ab (AC.pln (AOp.load okL rfl (.tail _ (.tail _ (.tail _ (.head _)))) rfl rfl rfl rfl (ab (AC.pln (AOp.callP rfl rfl rfl (isNode_tr _ _) (ab (ag 2 rfl (AC.toOps ?_))))))))))))
    refine AOps.guardCase rfl rfl rfl (fun h => ?_) (fun h => ?_)
    · refine ab (ag 16 rfl (AC.nilE ?_))
      (refine hR _ _ _ (by intro h; cases h) ?_; refine bodyQ_r (ResOk.one rfl rfl) ?_; refine ⟨[_], s, ns, es, rfl, hN, .inr ⟨rfl, ?_⟩⟩; clear K hR IH hN; rw [rgtP_eq, if_pos]; simp_all; done)
    · refine ab (ag 1 rfl (AC.wtd rfl rfl rfl (AOp.load okL rfl (.head _) rfl rfl rfl rfl (ab (ag 2 rfl (AC.toOps ?_))))))
      refine AOps.guardCase rfl rfl rfl (fun h => ?_) (fun h => ?_)
      · refine ab (ag 5 rfl (AC.toCode ?_))
        refine AWp.condCase rfl (fun h => ?_) (fun h => ?_)
        · refine ae (ag 6 rfl (AC.nilE ?_))
          (refine hR _ _ _ (by intro h; cases h) ?_; refine bodyQ_r (ResOk.one rfl rfl) ?_; refine ⟨[_], s, ns, es, rfl, hN, .inr ⟨rfl, ?_⟩⟩; clear K hR IH hN; rw [rgtP_eq, if_pos]; simp_all; done)
        · refine ae (ag 1 rfl (AC.nilE ?_))
          (refine K () ?_ 0 _ _ ⟨rfl, rfl, rfl, rfl, rfl, rfl, trivial⟩ rfl; clear K hR IH hN; simp_all; done)
      · refine ab (ag 7 rfl (AC.nilE ?_))
        (refine K () ?_ 0 _ _ ⟨rfl, rfl, rfl, rfl, rfl, rfl, trivial⟩ rfl; clear K hR IH hN; simp_all; done)
end Go.Proofs.YtpopmiodjibljaaGreatDoor


namespace Go.Proofs.YtpopmiodjibljaaGreatDoor
open Go Go.Abs
set_option linter.unusedVariables false
set_option maxRecDepth 100000
set_option linter.unusedSimpArgs false

/-- What a node must be by itself: its operation, its numbers. -/
def nodeA (x : Pat) (g : Int) : Bool :=
  wiM x.op 0 18 && (wiM x.l.length (partsM x.op).1 (partsM x.op).2 && (numM x g &&
    (if x.op = 6 then wiM x.min 0 20 && (decide (x.max = -1) || wiM x.max (if 1 > x.min then 1 else x.min) 20) else decide (x.min = 0) && decide (x.max = 0))))
/-- .. its name and set, and where it stands. -/
def nodeB (x : Pat) (look : Bool) : Bool :=
  !((!decide (x.op = 7) && !decide (x.name = [])) || (decide (x.op = 7) && (!decide (x.name = []) && !nameM x.name)) || (decide (x.op = 3) && !setM x.set) || (!decide (x.op = 3) && decide ((x.set.length : Int) > 0)) || (decide (x.op = 18) && look))
def sideM (op op' : Int) : Bool := !((decide (op = 4) && (decide (op' = 4) || decide (op' = 0))) || (decide (op = 5) && decide (op' = 5)))
def nodeE (fx : Pat → Bool) (x : Pat) : Bool := !decide (x.op = 9) || (decide (x.n < 2) || (match x.l with | [] => false | y :: _ => fx y))
mutual
def nodeV (fx : Pat → Bool) : Pat → Int → Bool → Bool
  | .mk op n mn mx nm st l, g, k => nodeA (.mk op n mn mx nm st l) g && (nodeB (.mk op n mn mx nm st l) k && (nodeL fx op l g (k || decide (op = 9)) && nodeE fx (.mk op n mn mx nm st l)))
def nodeL (fx : Pat → Bool) (op : Int) : List Pat → Int → Bool → Bool
  | [], _, _ => true
  | y :: l, g, k => (nodeV fx y g k && sideM op y.op) && nodeL fx op l g k
end
theorem nodeV_eq (fx : Pat → Bool) (x : Pat) (g : Int) (k : Bool) : nodeV fx x g k = (nodeA x g && (nodeB x k && (nodeL fx x.op x.l g (k || decide (x.op = 9)) && nodeE fx x))) := by cases x; rw [nodeV]; rfl
theorem nodeL_mem {fx : Pat → Bool} {op g : Int} {k : Bool} : ∀ {l : List Pat}, nodeL fx op l g k = true → ∀ y ∈ l, nodeV fx y g k = true ∧ sideM op y.op = true
  | [], _, y, hy => by cases hy
  | x :: l, h, y, hy => by
    simp only [nodeL, Bool.and_eq_true] at h
    rcases List.mem_cons.1 hy with rfl | hy
    · exact h.1
    · exact nodeL_mem h.2 y hy
/-- A right node has what it must have where one goes into the first part. -/
theorem nodeV_Sh {fx : Pat → Bool} (x : Pat) : ∀ {g : Int} {k : Bool}, nodeV fx x g k = true → Sh x := by
  induction x using Pat.ind with | h x IH => _
  intro g k h
  rw [nodeV_eq] at h
  simp only [Bool.and_eq_true] at h
  obtain ⟨hA, _, hL, _⟩ := h
  refine .mk x (fun hop hnil => ?_) fun y hy => IH y hy (nodeL_mem hL y hy).1
  simp only [nodeA, Bool.and_eq_true] at hA
  have := hA.2.1
  rw [hnil] at this
  rcases hop with h | h | h | h | h <;> rw [h] at this <;> simp [partsM, wiM] at this
end Go.Proofs.YtpopmiodjibljaaGreatDoor


namespace Go.Proofs.YtpopmiodjibljaaGreatDoor
open Go Go.Abs
set_option linter.unusedVariables false
set_option maxRecDepth 100000
set_option linter.unusedSimpArgs false

mutual
def opnP : Pat → List Pat
  | .mk op n mn mx nm st l => (if op = 7 then [.mk op n mn mx nm st l] else []) ++ opnL l
def opnL : List Pat → List Pat
  | [] => []
  | y :: l => opnP y ++ opnL l
end
theorem opnP_eq (x : Pat) : opnP x = (if x.op = 7 then [x] else []) ++ opnL x.l := by cases x; rw [opnP]; rfl
mutual
def nodesN : Pat → Nat
  | .mk _ _ _ _ _ _ l => 1 + nodesL l
def nodesL : List Pat → Nat
  | [] => 0
  | y :: l => nodesN y + nodesL l
end
theorem nodesN_eq (x : Pat) : nodesN x = 1 + nodesL x.l := by cases x; rw [nodesN]; rfl
theorem opnL_app (a b : List Pat) : opnL (a ++ b) = opnL a ++ opnL b := by
  induction a with
  | nil => rfl
  | cons y l ih => simp only [List.cons_append, opnL, ih, List.append_assoc]
mutual
theorem opn_le : ∀ x : Pat, (opnP x).length ≤ nodesN x
  | .mk op n mn mx nm st l => by
    rw [opnP, nodesN, List.length_append]
    have := opnL_le l
    split <;> simp <;> omega
theorem opnL_le : ∀ l : List Pat, (opnL l).length ≤ nodesL l
  | [] => by simp [opnL]
  | y :: l => by
    rw [opnL, nodesL, List.length_append]
    have := opn_le y
    have := opnL_le l
    omega
end
theorem nodesL_mem {y : Pat} : ∀ {l : List Pat}, y ∈ l → nodesN y ≤ nodesL l
  | [], h => by cases h
  | x :: l, h => by
    rw [nodesL]
    rcases List.mem_cons.1 h with rfl | h
    · omega
    · have := nodesL_mem h; omega
theorem nodesL_take (k : Nat) : ∀ l : List Pat, nodesL (l.take k) ≤ nodesL l := by
  induction k with
  | zero => intro l; simp [nodesL]
  | succ k ih =>
    intro l
    cases l with
    | nil => simp [nodesL]
    | cons y l => simp only [List.take_succ_cons, nodesL]; have := ih l; omega
theorem cells_leaf (x : Pat) : allLeaf x.C = true := rfl
theorem cells_mem {l : List Pat} {c : List A} (h : c ∈ l.map Pat.cells) : c.length = 7 ∧ allLeaf c = true := by
  obtain ⟨y, _, rfl⟩ := List.mem_map.1 h
  rw [Pat.cells_eq]; exact ⟨rfl, rfl⟩
theorem openings_tr (x : Pat) : nodesN x ≤ 1000000 → PTr Tryz.prog 105 [.agg x.C] (.ds ((opnP x).map Pat.cells)) := by
  induction x using Pat.ind with | h x IH => _
  intro hb
  refine PTr.of_body (N := 28) Tryz.func105 rfl rfl rfl ?_
  refine AWp.know (t := 0) rfl (Known.agg mem_C (Known.ds _)) fun hlen => ?_
  rw [List.length_map] at hlen
  refine ae0 (ag 2 rfl (AC.pln (AOp.box rfl rfl (isVal_or rfl) rfl rfl (fun _ _ => (ab (ag 12 rfl (AC.pln (AOp.load okL rfl (.head _) rfl rfl rfl rfl (ab (ag 3 rfl (AC.toCode ?_)))))))))))
  rename_i r _
  refine AWp.join (α := Option Nat × List Pat) (fun a => [(1, .ptr r 7 0 0), (3, outV 7 a.1 (a.2.map Pat.cells).length)]) (fun a => [(r, .row 25 7 [x.C])] ++ outH 25 7 a.1 (a.2.map Pat.cells)) (fun a => (a.1 = none → a.2 = []) ∧ a.2 = if x.op = 7 then [x] else []) ?_ fun R K hR => ?_
  · rintro ⟨g0, l0⟩ ⟨hg0, hl0⟩
    simp only at hg0 hl0 ⊢
    refine ae (ag 7 rfl (AC.toCode ?_))
    refine AWp.loopM (α := Nat × Option Nat × List Pat) (fun a => x.l.length - a.1) (fun a => [(1, .ptr r 7 0 0), (3, outV 7 a.2.1 (a.2.2.map Pat.cells).length), (4, i64 a.1)]) (fun a => [(r, .row 25 7 [x.C])] ++ outH 25 7 a.2.1 (a.2.2.map Pat.cells))
      (fun a => a.1 ≤ x.l.length ∧ (a.2.1 = none → a.2.2 = []) ∧ a.2.2 = (if x.op = 7 then [x] else []) ++ opnL (x.l.take a.1)) (0, g0, l0) ⟨Nat.zero_le _, hg0, by simp [hl0, opnL]⟩ ?_ (List.Perm.refl _) ?_
    · simp only [AllIn]
      refine ⟨rfl, rfl, rfl, trivial⟩
    rintro ⟨k, g, o⟩ ⟨hk, hg, ho⟩ ih
    simp only at hk hg ho
    refine ae0 (ag 5 rfl (AC.pln (AOp.load okL rfl (.head _) rfl rfl rfl rfl (ab (ag 4 rfl (AC.toCode ?_))))))
    (refine AWp.condCase rfl (fun h => ?_) (fun h => ?_))
    · have h := of_decide_eq_true h
      simp only [List.length_map] at h
      obtain ⟨y, hy⟩ : ∃ y, x.l[k]? = some y := ⟨x.l[k], by simp [show k < x.l.length by omega]⟩
      have nx := nxt (k := k) (n := x.l.length) (by omega) hlen
      have hym := List.mem_of_getElem? hy
      have hyn := nodesL_mem hym
      rw [nodesN_eq] at hb
      have hc := IH y hym (by omega)
      have htk : x.l.take (k + 1) = x.l.take k ++ [y] := by rw [List.take_add_one, hy]; rfl
      have hol : o.length + (opnP y).length ≤ 2000001 := by
        have h1 := opnL_le (x.l.take k)
        have h2 := nodesL_take k x.l
        have h3 := opn_le y
        rw [ho, List.length_append]
        split <;> simp <;> omega
      refine ae (ag 7 rfl (AC.pln (AOp.load okL rfl (.head _) rfl rfl rfl rfl (ab (ag 1 rfl (AC.sim okL (sOp_idxD rfl rfl rfl rfl rfl (by omega) (getC hy) rfl) rfl (ag 1 rfl (AC.pln (AOp.callP rfl rfl rfl (hc) (ab (AC.toOps ?_)))))))))))
      refine AOps.pln (AOp.appendG (g := g) (elems := o.map Pat.cells) (news := (opnP y).map Pat.cells) (pre := [(r, .row 25 7 [x.C])]) okL rfl (fun h => by rw [hg h]; rfl) rfl rfl (.ds _) rfl rfl rfl rfl (fun c hc => (cells_mem hc).1) (fun c hc => (cells_mem hc).2) (by simp only [List.length_map, maxLen]; omega) (by simp only [List.length_map]; omega) rfl fun g' hg' => ?_)
      rw [← List.map_append]
      refine ab (ag 9 rfl (AC.nilE (seqQ_n ?_)))
      (refine AIn.nextN 0 (ih ((k + 1, g', o ++ opnP y)) (⟨by omega, fun h => by have := hg' h; simpa using this, by rw [htk, opnL_app, ho, List.append_assoc]; simp [opnL]⟩) (by omega)) ?_ rfl; repeat (first | exact trivial | refine ⟨rfl, ?_⟩ | refine ⟨congrArg some nx, ?_⟩))
    · have h := of_decide_eq_false h
      simp only [List.length_map] at h
      rw [List.take_of_length_le (by omega)] at ho
      refine AWp.freezeG (t := 3) (g := g) (elems := o.map Pat.cells) (pre := [(r, .row 25 7 [x.C])]) rfl (fun h => by rw [hg h]; rfl) rfl ?_
      refine ae (ag 2 rfl (AC.nilE (ae (ag 7 rfl (AC.nilE ?_)))))
      refine bodyQ_r (ResOk.one rfl rfl) ?_
      rw [opnP_eq, ho]
  · refine ae0 (AC.toCode ?_)
    (refine AWp.condCase rfl (fun h => ?_) (fun h => ?_))
    · refine ae (ag 2 rfl (AC.pln (AOp.load okL rfl (.head _) rfl rfl rfl rfl (ab (AC.pln (AOp.buildSlice okL rfl rfl rfl rfl rfl rfl rfl rfl rfl rfl rfl (fun _ _ => (ab (AC.toOps ?_)))))))))
      rename_i rb _
      refine AOps.pln (AOp.appendG (g := none) (elems := []) (news := [x.C]) (pre := [(rb, .row 25 7 [x.C]), (r, .row 25 7 [x.C])]) okL rfl (fun _ => rfl) rfl rfl (.os List.mem_cons_self (Nat.le_refl _)) rfl rfl rfl rfl (fun c hc => by rw [List.mem_singleton.1 hc]; rfl) (fun c hc => by rw [List.mem_singleton.1 hc]; rfl) (by simp [maxLen]) (by simp) rfl fun g' hg' => ?_)
      rw [show ([] ++ [x.C] : List (List A)) = [x].map Pat.cells from by simp [Pat.cells_eq]]
      refine ab (ag 2 rfl (AC.nilE ?_))
      refine K (g', [x]) ⟨fun h => by have := hg' h; simp at this, by simp at h; simp [h]⟩ 1 _ _ ⟨rfl, rfl, trivial⟩ rfl
    · refine ae (ag 1 rfl (AC.nilE ?_))
      refine K (none, []) ⟨fun _ => rfl, by simp at h; simp [h]⟩ 0 _ _ ⟨rfl, rfl, trivial⟩ rfl
end Go.Proofs.YtpopmiodjibljaaGreatDoor


namespace Go.Proofs.YtpopmiodjibljaaGreatDoor
open Go Go.Abs
set_option linter.unusedVariables false
set_option maxRecDepth 100000
set_option linter.unusedSimpArgs false

def sameN (y z : Pat) : Bool := !decide (y.name = []) && decide (y.name = z.name)
def grpGo (pre : List Pat) : List Pat → Bool
  | [] => true
  | y :: l => (decide (y.n = ((pre.length + 1 : Nat) : Int)) && !pre.any (sameN y)) && grpGo (pre ++ [y]) l
def validR (fx : Pat → Bool) (x : Pat) : Int :=
  if largeM x then 3 else if nodeV fx x (opnP x).length false && grpGo [] (opnP x) then 0 else 1
theorem take_get {l : List Pat} {k : Nat} {y : Pat} (h : l[k]? = some y) : l.take (k + 1) = l.take k ++ [y] := by rw [List.take_add_one, h]; rfl
set_option maxHeartbeats 4000000 in
theorem refValidate_tr (fx : Pat → Bool) (hN : ∀ (x : Pat) (g : Int) (k : Bool), PTr Tryz.prog 106 [.agg x.C, i64 g, .bool k] (.bool (nodeV fx x g k))) (x : Pat) (hb : nodesN x ≤ 1000000) : PTr Tryz.prog 53 [.agg x.C] (i64 (validR fx x)) := by
  refine PTr.of_body (N := 53) Tryz.func53 rfl rfl rfl ?_
  have ho := openings_tr x hb
  have hlen : (opnP x).length ≤ 1000000 := Nat.le_trans (opn_le x) hb
  have hlm : (opnP x).length ≤ maxLen := by unfold maxLen; omega
  refine ae0 (ag 2 rfl (AC.pln (AOp.box rfl rfl (isVal_or rfl) rfl rfl (fun _ _ => (ab (ag 6 rfl (AC.pln (AOp.load okL rfl (.head _) rfl rfl rfl rfl (ab (AC.pln (AOp.callP rfl rfl rfl (isLarge_tr x) (ab (ag 2 rfl (AC.toCode ?_))))))))))))))
  (refine AWp.condCase rfl (fun hlg => ?_) (fun hlg => ?_))
  · refine ae (ag 7 rfl (AC.nilE ?_))
    refine bodyQ_r (ResOk.one rfl rfl) ?_
    simp only [validR, hlg, if_true]
  refine ae (ag 4 rfl (AC.pln (AOp.load okL rfl (.head _) rfl rfl rfl rfl (ab (AC.pln (AOp.callP rfl rfl rfl (ho) (ab (ag 6 rfl (AC.pln (AOp.load okL rfl (.head _) rfl rfl rfl rfl (ab (ag 2 rfl (AC.pln (AOp.callP rfl rfl rfl (hN x ((opnP x).map Pat.cells).length false) (ab (ag 3 rfl (AC.toCode ?_)))))))))))))))))
  (refine AWp.condCase rfl (fun hnd => ?_) (fun hnd => ?_))
  · refine ae (ag 7 rfl (AC.nilE ?_))
    refine bodyQ_r (ResOk.one rfl rfl) ?_
    simp at hnd
    simp [validR, hlg, hnd]
  simp at hnd
  refine ae (ag 9 rfl (AC.toCode ?_))
  rename_i r _
  refine AWp.loopM (α := Nat) (fun a => (opnP x).length - a) (fun a => [(3, .ds ((opnP x).map Pat.cells)), (4, i64 a)]) (fun _ => [(r, .row 25 7 [x.C])])
    (fun a => a ≤ (opnP x).length ∧ grpGo ((opnP x).take a) ((opnP x).drop a) = grpGo [] (opnP x)) 0 ⟨Nat.zero_le _, rfl⟩ ?_ (List.Perm.refl _) ?_
  · simp only [AllIn]
    refine ⟨rfl, rfl, trivial⟩
  rintro i ⟨hi, hm⟩ ih
  refine ae0 (ag 9 rfl (AC.toCode ?_))
  (refine AWp.condCase rfl (fun h => ?_) (fun h => ?_))
  · have h := of_decide_eq_true h
    simp only [List.length_map] at h
    obtain ⟨y, hy⟩ : ∃ y, (opnP x)[i]? = some y := ⟨(opnP x)[i], by simp [show i < (opnP x).length by omega]⟩
    have nx := nxt (k := i) (n := (opnP x).length) (by omega) hlm
    have nxw : IntKind.i64.wrap ((i : Int) + 1) = ((i + 1 : Nat) : Int) := (A.int.inj nx).2
    have htl : ((opnP x).take i).length = i := by simp; omega
    rw [drop_get hy, grpGo, htl] at hm
    refine ae (ag 9 rfl (AC.sim okL (sOp_idxD rfl rfl rfl rfl rfl (by omega) (getC hy) rfl) rfl (ag 7 rfl (AC.toCode ?_))))
    (refine AWp.condCase rfl (fun h1 => ?_) (fun h1 => ?_))
    · refine ae (ag 9 rfl (AC.nilE (ax (ag 2 rfl (AC.nilE ?_)))))
      refine bodyQ_r (ResOk.one rfl rfl) ?_
      have hg : grpGo [] (opnP x) = false := by
        rw [← hm]
        rw [nxw] at h1
        simp at h1
        simp [h1]
      simp [validR, hlg, hnd, hg]
    rw [nxw] at h1
    have h1 : y.n = ((i + 1 : Nat) : Int) := by simpa using h1
    have h1d : decide (y.n = ((i + 1 : Nat) : Int)) = true := decide_eq_true h1
    rw [h1d, Bool.true_and] at hm
    refine ae (ag 8 rfl (AC.toCode ?_))
    have iho := ih; clear ih
    refine AWp.loopM (α := Nat) (fun a => i - a) (fun a => [(3, .ds ((opnP x).map Pat.cells)), (4, i64 i), (5, i64 a)]) (fun _ => [(r, .row 25 7 [x.C])])
      (fun a => a ≤ i ∧ ((opnP x).take a).any (sameN y) = false) 0 ⟨Nat.zero_le _, by simp⟩ ?_ (List.Perm.refl _) ?_
    · simp only [AllIn]
      refine ⟨rfl, rfl, rfl, trivial⟩
    rintro k ⟨hk, hn⟩ ih
    refine ae0 (ag 8 rfl (AC.toCode ?_))
    (refine AWp.condCase rfl (fun h2 => ?_) (fun h2 => ?_))
    · have h2 := of_decide_eq_true h2
      obtain ⟨z, hz⟩ : ∃ z, (opnP x)[k]? = some z := ⟨(opnP x)[k]'(by omega), by simp [show k < (opnP x).length by omega]⟩
      have nx := nxt (k := k) (n := (opnP x).length) (by omega) hlm
      have hzm : z ∈ (opnP x).take i := by
        have : ((opnP x).take i)[k]? = some z := by rw [List.getElem?_take, if_pos (by omega)]; exact hz
        exact List.mem_of_getElem? this
      have hany : sameN y z = true → ((opnP x).take i).any (sameN y) = true := fun hs => List.any_eq_true.2 ⟨z, hzm, hs⟩
      have htk := take_get hz
      refine ae (ag 5 rfl (AC.drawn okL hmix (by kernel_rfl) (ag 2 rfl (AC.toPl (Pl.pure rfl (sOp_idxD rfl rfl rfl rfl rfl (by omega) (getC hy) rfl) (ap (ag 4 rfl (AC.toPl ?_))))))))
      refine Pl.guardCase rfl rfl (fun h => ?_) (fun h => ?_)
      · refine ap (ag 2 rfl (AC.toPl (Pl.pureW rfl rfl (sOp_idxD rfl rfl rfl rfl rfl (by omega) (getC hy) rfl) (ap (ag 4 rfl (AC.toPl (Pl.pureW rfl rfl (sOp_idxD rfl rfl rfl rfl rfl (by omega) (getC hz) rfl) (ap (ag 6 rfl (AC.toCode ?_))))))))))
        refine AWp.condCase rfl (fun h => ?_) (fun h => ?_)
        · refine ae (ag 8 rfl (AC.nilE (ax (ag 3 rfl (AC.nilE (ax (ag 2 rfl (AC.nilE ?_))))))))
          (refine bodyQ_r (ResOk.one rfl rfl) ?_; have hs : sameN y z = true := (by clear ih iho hany hm; simp_all [sameN]; done); have hgf : grpGo [] (opnP x) = false := (by rw [← hm, hany hs]; rfl); clear ih iho; simp [validR, hlg, hnd, hgf]; done)
        · refine ae (ag 8 rfl (AC.nilE (seqQ_n ?_)))
          (refine AIn.nextN 0 (ih (k + 1) (⟨by omega, by rw [htk, List.any_append, hn]; clear ih iho hany hm; simp_all [sameN]⟩) (by omega)) ?_ rfl; repeat (first | exact trivial | refine ⟨rfl, ?_⟩ | refine ⟨congrArg some nx, ?_⟩))
      · refine ap (ag 23 rfl (AC.nilE (seqQ_n ?_)))
        (refine AIn.nextN 0 (ih (k + 1) (⟨by omega, by rw [htk, List.any_append, hn]; clear ih iho hany hm; simp_all [sameN]⟩) (by omega)) ?_ rfl; repeat (first | exact trivial | refine ⟨rfl, ?_⟩ | refine ⟨congrArg some nx, ?_⟩))
    · have h2 := of_decide_eq_false h2
      have hki : k = i := by omega
      subst hki
      rw [hn, Bool.not_false, Bool.true_and] at hm
      have ih := iho
      refine ae (ag 2 rfl (AC.nilE (ae (ag 5 rfl (AC.nilE (seqQ_n ?_))))))
      (refine AIn.nextN 0 (ih (k + 1) (⟨by omega, by rw [take_get hy]; exact hm⟩) (by omega)) ?_ rfl; repeat (first | exact trivial | refine ⟨rfl, ?_⟩ | refine ⟨congrArg some nx, ?_⟩))
  · have h := of_decide_eq_false h
    simp only [List.length_map] at h
    rw [List.drop_eq_nil_of_le (by omega), grpGo] at hm
    refine ae (ag 2 rfl (AC.nilE (ae (ag 6 rfl (AC.nilE ?_)))))
    refine bodyQ_r (ResOk.one rfl rfl) ?_
    simp [validR, hlg, hnd, ← hm]
end Go.Proofs.YtpopmiodjibljaaGreatDoor


namespace Go.Proofs.YtpopmiodjibljaaGreatDoor
open Go Go.Abs
set_option linter.unusedVariables false
set_option maxRecDepth 100000
set_option linter.unusedSimpArgs false

theorem perm6 {α : Type} (a b c d e f : α) : [a, b, c, d, e, f].Perm [b, c, e, a, d, f] := by
  have h : [0, 1, 2, 3, 4, 5].Perm [1, 2, 4, 0, 3, 5] := by decide
  exact h.map fun i => match i with | 0 => a | 1 => b | 2 => c | 3 => d | 4 => e | _ => f
theorem isRight_tr (x : Pat) : PTr Tryz.prog 112 [.agg x.C] (.bool (rgtP x (szP x).2.1 false (0, [])).isSome) := by
  refine PTr.of_body (N := 15) Tryz.func112 rfl rfl rfl ?_
  refine ae0 (ag 2 rfl (AC.pln (AOp.box rfl rfl (isVal_or rfl) rfl rfl (fun _ _ => (ab (ag 5 rfl (AC.pln (AOp.load okL rfl (.head _) rfl rfl rfl rfl (ab (AC.pln (AOp.callP rfl rfl rfl (measure_tr x) (ab (ag 1 rfl (AC.pln (AOp.alloc okL rfl rfl rfl (fun _ _ => (ab (AC.pln (AOp.store okL rfl rfl rfl (isVal_or rfl) rfl rfl rfl .here rfl rfl rfl (ab (ag 4 rfl (AC.toOps ?_))))))))))))))))))))))
  rename_i r1 _ rg _
  refine AOps.pln (AOp.makeMap rfl fun rm _ => ?_)
  refine ab (AC.pln (AOp.alloc okL rfl rfl rfl (fun _ _ => (ab (AC.pln (AOp.store okL rfl rfl rfl (isVal_or rfl) rfl rfl rfl .here rfl rfl rfl (ab (ag 4 rfl (AC.pln (AOp.alloc okL rfl rfl rfl (fun _ _ => (ab (AC.pln (AOp.store okL rfl rfl rfl (isVal_or rfl) rfl rfl rfl .here rfl rfl rfl (ab (ag 4 rfl (AC.pln (AOp.alloc okL rfl rfl rfl (fun _ _ => (ab (ag 5 rfl (AC.pln (AOp.store okL rfl rfl rfl (isVal_or rfl) rfl rfl rfl .here rfl rfl rfl (ab (ag 4 rfl (AC.pln (AOp.load okL rfl (.head _) rfl rfl rfl rfl (ab (AC.pln (AOp.load okL rfl (.tail _ (.tail _ (.tail _ (.tail _ (.tail _ (.head _)))))) rfl rfl rfl rfl (ab (AC.toOps ?_))))))))))))))))))))))))))))))))
  rename_i rn _ rs _ rl _
  refine AOps.pln (AOp.callFn (Hc := HP rs rn rm rg rl 0 [] (szP x).2.1) (F := [(r1, .row 25 7 [x.C])]) rfl rfl rfl (perm6 _ _ _ _ _ _) (right1_tr rs rn rm rg rl (szP x).2.1 x false 0 [] [] NM_nil) ?_)
  rintro _ H' ⟨G, s3, n3, e3, rfl, hN3, (⟨rfl, ho⟩ | ⟨rfl, ho⟩)⟩
  · refine ab (ag 4 rfl (AC.nilE ?_))
    refine bodyQ_r (ResOk.one rfl rfl) ?_
    rw [ho]; rfl
  · refine ab (ag 4 rfl (AC.nilE ?_))
    refine bodyQ_r (ResOk.one rfl rfl) ?_
    rw [ho]; rfl
def valP (x : Pat) : Int := if largeM x = true then 3 else if (rgtP x (szP x).2.1 false (0, [])).isSome = true then 0 else 1
theorem patValidate_tr (x : Pat) : PTr Tryz.prog 58 [.agg x.C] (i64 (valP x)) := by
  refine PTr.of_body (N := 22) Tryz.func58 rfl rfl rfl ?_
  refine ae0 (ag 2 rfl (AC.pln (AOp.box rfl rfl (isVal_or rfl) rfl rfl (fun _ _ => (ab (ag 6 rfl (AC.pln (AOp.load okL rfl (.head _) rfl rfl rfl rfl (ab (AC.pln (AOp.callP rfl rfl rfl (measure_tr x) (ab (AC.pln (AOp.alloc okL rfl rfl rfl (fun _ _ => (ab (AC.pln (AOp.store okL rfl rfl rfl (isVal_or rfl) rfl rfl rfl .here rfl rfl rfl (ab (ag 5 rfl (AC.pln (AOp.load okL rfl (.head _) rfl rfl rfl rfl (ab (ag 2 rfl (AC.toOps ?_)))))))))))))))))))))))))
  refine AOps.guardCase rfl rfl rfl (fun h => ?_) (fun h => ?_)
  · refine ab (ag 19 rfl (AC.nilE ?_))
    (refine bodyQ_r (ResOk.one rfl rfl) ?_; simp_all [valP, largeM])
  · refine ab (ag 1 rfl (AC.wtd rfl rfl rfl (AOp.load okL rfl (.head _) rfl rfl rfl rfl (ab (ag 3 rfl (AC.toOps ?_))))))
    refine AOps.guardCase rfl rfl rfl (fun h => ?_) (fun h => ?_)
    · refine ab (ag 14 rfl (AC.nilE ?_))
      (refine bodyQ_r (ResOk.one rfl rfl) ?_; simp_all [valP, largeM])
    · refine ab (ag 1 rfl (AC.wtd rfl rfl rfl (AOp.load okL rfl (.head _) rfl rfl rfl rfl (ab (ag 4 rfl (AC.toCode ?_))))))
      refine AWp.condCase rfl (fun h => ?_) (fun h => ?_)
      · refine ae (ag 7 rfl (AC.nilE ?_))
        (refine bodyQ_r (ResOk.one rfl rfl) ?_; simp_all [valP, largeM])
      · refine ae (ag 5 rfl (AC.pln (AOp.load okL rfl (.tail _ (.head _)) rfl rfl rfl rfl (ab (AC.pln (AOp.callP rfl rfl rfl (isRight_tr x) (ab (ag 3 rfl (AC.toCode ?_)))))))))
        refine AWp.condCase rfl (fun h => ?_) (fun h => ?_)
        · refine ae (ag 7 rfl (AC.nilE ?_))
          (refine bodyQ_r (ResOk.one rfl rfl) ?_; simp_all [valP, largeM])
        · refine ae (ag 8 rfl (AC.nilE ?_))
          (refine bodyQ_r (ResOk.one rfl rfl) ?_; simp_all [valP, largeM])
end Go.Proofs.YtpopmiodjibljaaGreatDoor


namespace Go.Proofs.YtpopmiodjibljaaGreatDoor
open Go Go.Abs
set_option linter.unusedVariables false
set_option maxRecDepth 100000
set_option linter.unusedSimpArgs false

def catS (a b : Int × Int) : Int × Int := (w64 (a.1 + b.1), if b.2 < 0 ∨ a.2 < 0 then -1 else w64 (a.2 + b.2))
def altS (a b : Int × Int) : Int × Int := (if b.1 < a.1 then b.1 else a.1, if b.2 < 0 ∨ a.2 < 0 then -1 else if b.2 > a.2 then b.2 else a.2)
mutual
def spanP : Pat → Int × Int
  | .mk op _ mn mx _ _ l =>
    if op = 1 ∨ op = 2 ∨ op = 3 then (1, 1) else if op = 7 ∨ op = 8 then spanH l else if op = 10 ∨ op = 14 then (0, -1)
    else if op = 6 then (if (spanH l).2 = 0 then (0, 0) else if (spanH l).2 < 0 ∨ mx < 0 then (w64 ((spanH l).1 * mn), -1) else (w64 ((spanH l).1 * mn), w64 ((spanH l).2 * mx)))
    else if op = 4 then spanC4 l (0, 0) else if op = 5 ∨ op = 15 then spanT l else (0, 0)
def spanH : List Pat → Int × Int
  | [] => (0, 0)
  | y :: _ => spanP y
def spanC4 : List Pat → Int × Int → Int × Int
  | [], a => a
  | y :: l, a => spanC4 l (catS a (spanP y))
def spanA : List Pat → Int × Int → Int × Int
  | [], a => a
  | y :: l, a => spanA l (altS a (spanP y))
def spanT : List Pat → Int × Int
  | [] => (0, 0)
  | y :: l => spanA l (spanP y)
end
theorem spanP_eq (x : Pat) : spanP x = if x.op = 1 ∨ x.op = 2 ∨ x.op = 3 then (1, 1) else if x.op = 7 ∨ x.op = 8 then spanH x.l else if x.op = 10 ∨ x.op = 14 then (0, -1)
    else if x.op = 6 then (if (spanH x.l).2 = 0 then (0, 0) else if (spanH x.l).2 < 0 ∨ x.max < 0 then (w64 ((spanH x.l).1 * x.min), -1) else (w64 ((spanH x.l).1 * x.min), w64 ((spanH x.l).2 * x.max)))
    else if x.op = 4 then spanC4 x.l (0, 0) else if x.op = 5 ∨ x.op = 15 then spanT x.l else (0, 0) := by cases x; rw [spanP]; rfl
theorem span6 {x y0 : Pat} (h6 : x.op = 6) (hH : spanH x.l = spanP y0) (h1 : ¬ (spanP y0).2 = 0) (h2 : 0 ≤ (spanP y0).2) (h3 : 0 ≤ x.max) : spanP x = (w64 ((spanP y0).1 * x.min), w64 ((spanP y0).2 * x.max)) := by
  rw [spanP_eq, hH, if_neg (by omega), if_neg (by omega), if_neg (by omega), if_pos h6, if_neg h1, if_neg (by omega)]
set_option maxHeartbeats 2000000 in
theorem refSpan_tr (x : Pat) (hs : Sh x) : PTr Tryz.prog 209 [.agg x.C] (.tup [i64 (spanP x).1, i64 (spanP x).2]) := by
  induction x using Pat.ind with | h x IH => _
  refine PTr.of_body (N := 141) Tryz.func209 rfl rfl rfl ?_
  refine AWp.know (t := 0) rfl (Known.agg mem_C (Known.ds _)) fun hlen => ?_
  rw [List.length_map] at hlen
  by_cases h4 : x.op = 4
  · obtain ⟨op, n, mn, mx, nm, st, l⟩ := x
    simp only [Pat.op] at h4
    subst h4
    have hP : spanP (.mk 4 n mn mx nm st l) = spanC4 l (0, 0) := by rw [spanP_eq]; rfl
    simp only [Pat.l] at IH hlen
    refine ae0 (ag 2 rfl (AC.pln (AOp.box rfl rfl (isVal_or rfl) rfl rfl (fun _ _ => (ab (ag 8 rfl (AC.pln (AOp.load okL rfl (.head _) rfl rfl rfl rfl (ab (ag 79 rfl (AC.toCode ?_)))))))))))
    rename_i r _
    refine AWp.loopM (α := Nat × Int × Int) (fun a => l.length - a.1) (fun a => [(1, .ptr r 7 0 0), (6, i64 a.2.1), (7, i64 a.2.2), (8, i64 a.1)]) (fun _ => _)
      (fun a => a.1 ≤ l.length ∧ spanC4 (l.drop a.1) a.2 = spanP (.mk 4 n mn mx nm st l)) (0, 0, 0) ⟨Nat.zero_le _, hP.symm⟩ ?_ (List.Perm.refl _) ?_
    · simp only [AllIn]
      refine ⟨rfl, rfl, rfl, rfl, trivial⟩
    rintro ⟨k, m⟩ ⟨hk, hm⟩ ih
    simp only at hk hm
    refine ae0 (ag 5 rfl (AC.pln (AOp.load okL rfl (.head _) rfl rfl rfl rfl (ab (ag 4 rfl (AC.toCode ?_))))))
    (refine AWp.condCase rfl (fun h => ?_) (fun h => ?_))
    · have h := of_decide_eq_true h
      simp only [List.length_map, Pat.l] at h
      obtain ⟨y, hy⟩ : ∃ y, l[k]? = some y := ⟨l[k], by simp [show k < l.length by omega]⟩
      have nx := nxt (k := k) (n := l.length) (by omega) hlen
      rw [drop_get hy, spanC4] at hm
      have hc := IH y (List.mem_of_getElem? hy) (hs.tl y (List.mem_of_getElem? hy))
      refine ae (ag 7 rfl (AC.pln (AOp.load okL rfl (.head _) rfl rfl rfl rfl (ab (ag 1 rfl (AC.sim okL (sOp_idxD rfl rfl rfl rfl rfl (by omega) (getC hy) rfl) rfl (ag 1 rfl (AC.pln (AOp.callP rfl rfl rfl (hc) (ab (ag 20 rfl (AC.toOps ?_))))))))))))
      refine AOps.guardCase rfl rfl rfl (fun h => ?_) (fun h => ?_)
      · refine ab (ag 16 rfl (AC.nilE (seqQ_n ?_)))
        (refine AIn.nextN 0 (ih ((k + 1, catS m (spanP y))) (⟨by omega, hm⟩) (by omega)) ?_ rfl; repeat (first | exact trivial | refine ⟨rfl, ?_⟩ | refine ⟨congrArg some nx, ?_⟩ | refine ⟨congrArg (fun v => some (A.int .i64 v)) (by clear ih IH hc hm hP; simp_all [catS, w64] <;> omega), ?_⟩))
      · refine ab (ag 5 rfl (AC.toCode ?_))
        refine AWp.condCase rfl (fun h => ?_) (fun h => ?_)
        · refine ae (ag 10 rfl (AC.nilE (seqQ_n ?_)))
          (refine AIn.nextN 0 (ih ((k + 1, catS m (spanP y))) (⟨by omega, hm⟩) (by omega)) ?_ rfl; repeat (first | exact trivial | refine ⟨rfl, ?_⟩ | refine ⟨congrArg some nx, ?_⟩ | refine ⟨congrArg (fun v => some (A.int .i64 v)) (by clear ih IH hc hm hP; simp_all [catS, w64] <;> omega), ?_⟩))
        · refine ae (ag 13 rfl (AC.nilE (seqQ_n ?_)))
          (refine AIn.nextN 0 (ih ((k + 1, catS m (spanP y))) (⟨by omega, hm⟩) (by omega)) ?_ rfl; repeat (first | exact trivial | refine ⟨rfl, ?_⟩ | refine ⟨congrArg some nx, ?_⟩ | refine ⟨congrArg (fun v => some (A.int .i64 v)) (by clear ih IH hc hm hP; simp_all [catS, w64] <;> omega), ?_⟩))
    · have h := of_decide_eq_false h
      simp only [List.length_map, Pat.l] at h
      rw [List.drop_eq_nil_of_le (by omega), spanC4] at hm
      refine ae (ag 2 rfl (AC.nilE (ae (ag 11 rfl (AC.nilE ?_)))))
      refine bodyQ_r (ResOk.two rfl rfl rfl) ?_
      rw [← hm]
  by_cases h5 : x.op = 5
  · obtain ⟨op, n, mn, mx, nm, st, l⟩ := x
    simp only [Pat.op] at h5
    subst h5
    cases l with
    | nil => exact absurd rfl (hs.hd (by simp [Pat.op]))
    | cons y0 l0 =>
    have hP : spanP (.mk 5 n mn mx nm st (y0 :: l0)) = spanA l0 (spanP y0) := by rw [spanP_eq]; rfl
    simp only [Pat.l] at IH hlen
    have hc0 := IH y0 List.mem_cons_self (hs.tl y0 List.mem_cons_self)
    refine ae0 (ag 2 rfl (AC.pln (AOp.box rfl rfl (isVal_or rfl) rfl rfl (fun _ _ => (ab (ag 8 rfl (AC.pln (AOp.load okL rfl (.head _) rfl rfl rfl rfl (ab (ag 80 rfl (AC.pln (AOp.load okL rfl (.head _) rfl rfl rfl rfl (ab (AC.sim okL (sOp_idxD rfl rfl rfl rfl rfl (Int.le_refl _) (getC (l := y0 :: l0) (k := 0) rfl) rfl) rfl (ag 1 rfl (AC.pln (AOp.callP rfl rfl rfl (hc0) (ab (ag 14 rfl (AC.toCode ?_))))))))))))))))))))
    rename_i r _
    refine AWp.loopM (α := Nat × Int × Int) (fun a => (y0 :: l0).length - a.1) (fun a => [(1, .ptr r 7 0 0), (11, i64 a.2.1), (12, i64 a.2.2), (13, i64 a.1)]) (fun _ => _)
      (fun a => 1 ≤ a.1 ∧ a.1 ≤ (y0 :: l0).length ∧ spanA ((y0 :: l0).drop a.1) a.2 = spanP (.mk 5 n mn mx nm st (y0 :: l0))) (1, spanP y0) ⟨Nat.le_refl _, by simp, hP.symm⟩ ?_ (List.Perm.refl _) ?_
    · simp only [AllIn]
      refine ⟨rfl, rfl, rfl, rfl, trivial⟩
    rintro ⟨k, m⟩ ⟨hk1, hk, hm⟩ ih
    simp only at hk1 hk hm
    refine ae0 (ag 5 rfl (AC.pln (AOp.load okL rfl (.head _) rfl rfl rfl rfl (ab (ag 4 rfl (AC.toCode ?_))))))
    (refine AWp.condCase rfl (fun h => ?_) (fun h => ?_))
    · have h := of_decide_eq_true h
      simp only [List.length_map, Pat.l] at h
      obtain ⟨y, hy⟩ : ∃ y, (y0 :: l0)[k]? = some y := ⟨(y0 :: l0)[k]'(by omega), by simp [show k < (y0 :: l0).length by omega]⟩
      have nx := nxt (k := k) (n := (y0 :: l0).length) (by omega) hlen
      rw [drop_get hy, spanA] at hm
      have hc := IH y (List.mem_of_getElem? hy) (hs.tl y (List.mem_of_getElem? hy))
      refine ae (ag 7 rfl (AC.pln (AOp.load okL rfl (.head _) rfl rfl rfl rfl (ab (ag 1 rfl (AC.sim okL (sOp_idxD rfl rfl rfl rfl rfl (by omega) (getC hy) rfl) rfl (ag 1 rfl (AC.pln (AOp.callP rfl rfl rfl (hc) (ab (ag 20 rfl (AC.toOps ?_))))))))))))
      refine AOps.guardCase rfl rfl rfl (fun h => ?_) (fun h => ?_)
      · refine ab (ag 16 rfl (AC.nilE (seqQ_n ?_)))
        (refine AIn.nextN 0 (ih ((k + 1, altS m (spanP y))) (⟨by omega, by omega, hm⟩) (by omega)) ?_ rfl; repeat (first | exact trivial | refine ⟨rfl, ?_⟩ | refine ⟨congrArg some nx, ?_⟩ | refine ⟨congrArg (fun v => some (A.int .i64 v)) (by clear ih IH hc hc0 hm hP hy hs; simp_all [altS, w64] <;> omega), ?_⟩))
      · refine ab (ag 5 rfl (AC.toCode ?_))
        refine AWp.condCase rfl (fun h => ?_) (fun h => ?_)
        · refine ae (ag 10 rfl (AC.nilE (seqQ_n ?_)))
          (refine AIn.nextN 0 (ih ((k + 1, altS m (spanP y))) (⟨by omega, by omega, hm⟩) (by omega)) ?_ rfl; repeat (first | exact trivial | refine ⟨rfl, ?_⟩ | refine ⟨congrArg some nx, ?_⟩ | refine ⟨congrArg (fun v => some (A.int .i64 v)) (by clear ih IH hc hc0 hm hP hy hs; simp_all [altS, w64] <;> omega), ?_⟩))
        · refine ae (ag 13 rfl (AC.nilE (seqQ_n ?_)))
          (refine AIn.nextN 0 (ih ((k + 1, altS m (spanP y))) (⟨by omega, by omega, hm⟩) (by omega)) ?_ rfl; repeat (first | exact trivial | refine ⟨rfl, ?_⟩ | refine ⟨congrArg some nx, ?_⟩ | refine ⟨congrArg (fun v => some (A.int .i64 v)) (by clear ih IH hc hc0 hm hP hy hs; simp_all [altS, w64] <;> omega), ?_⟩))
    · have h := of_decide_eq_false h
      simp only [List.length_map, Pat.l] at h
      rw [List.drop_eq_nil_of_le (by omega), spanA] at hm
      refine ae (ag 2 rfl (AC.nilE (ae (ag 11 rfl (AC.nilE ?_)))))
      refine bodyQ_r (ResOk.two rfl rfl rfl) ?_
      rw [← hm]
  by_cases h5' : x.op = 15
  · obtain ⟨op, n, mn, mx, nm, st, l⟩ := x
    simp only [Pat.op] at h5'
    subst h5'
    cases l with
    | nil => exact absurd rfl (hs.hd (by simp [Pat.op]))
    | cons y0 l0 =>
    have hP : spanP (.mk 15 n mn mx nm st (y0 :: l0)) = spanA l0 (spanP y0) := by rw [spanP_eq]; rfl
    simp only [Pat.l] at IH hlen
    have hc0 := IH y0 List.mem_cons_self (hs.tl y0 List.mem_cons_self)
    refine ae0 (ag 2 rfl (AC.pln (AOp.box rfl rfl (isVal_or rfl) rfl rfl (fun _ _ => (ab (ag 8 rfl (AC.pln (AOp.load okL rfl (.head _) rfl rfl rfl rfl (ab (ag 83 rfl (AC.pln (AOp.load okL rfl (.head _) rfl rfl rfl rfl (ab (AC.sim okL (sOp_idxD rfl rfl rfl rfl rfl (Int.le_refl _) (getC (l := y0 :: l0) (k := 0) rfl) rfl) rfl (ag 1 rfl (AC.pln (AOp.callP rfl rfl rfl (hc0) (ab (ag 14 rfl (AC.toCode ?_))))))))))))))))))))
    rename_i r _
    refine AWp.loopM (α := Nat × Int × Int) (fun a => (y0 :: l0).length - a.1) (fun a => [(1, .ptr r 7 0 0), (11, i64 a.2.1), (12, i64 a.2.2), (13, i64 a.1)]) (fun _ => _)
      (fun a => 1 ≤ a.1 ∧ a.1 ≤ (y0 :: l0).length ∧ spanA ((y0 :: l0).drop a.1) a.2 = spanP (.mk 15 n mn mx nm st (y0 :: l0))) (1, spanP y0) ⟨Nat.le_refl _, by simp, hP.symm⟩ ?_ (List.Perm.refl _) ?_
    · simp only [AllIn]
      refine ⟨rfl, rfl, rfl, rfl, trivial⟩
    rintro ⟨k, m⟩ ⟨hk1, hk, hm⟩ ih
    simp only at hk1 hk hm
    refine ae0 (ag 5 rfl (AC.pln (AOp.load okL rfl (.head _) rfl rfl rfl rfl (ab (ag 4 rfl (AC.toCode ?_))))))
    (refine AWp.condCase rfl (fun h => ?_) (fun h => ?_))
    · have h := of_decide_eq_true h
      simp only [List.length_map, Pat.l] at h
      obtain ⟨y, hy⟩ : ∃ y, (y0 :: l0)[k]? = some y := ⟨(y0 :: l0)[k]'(by omega), by simp [show k < (y0 :: l0).length by omega]⟩
      have nx := nxt (k := k) (n := (y0 :: l0).length) (by omega) hlen
      rw [drop_get hy, spanA] at hm
      have hc := IH y (List.mem_of_getElem? hy) (hs.tl y (List.mem_of_getElem? hy))
      refine ae (ag 7 rfl (AC.pln (AOp.load okL rfl (.head _) rfl rfl rfl rfl (ab (ag 1 rfl (AC.sim okL (sOp_idxD rfl rfl rfl rfl rfl (by omega) (getC hy) rfl) rfl (ag 1 rfl (AC.pln (AOp.callP rfl rfl rfl (hc) (ab (ag 20 rfl (AC.toOps ?_))))))))))))
      refine AOps.guardCase rfl rfl rfl (fun h => ?_) (fun h => ?_)
      · refine ab (ag 16 rfl (AC.nilE (seqQ_n ?_)))
        (refine AIn.nextN 0 (ih ((k + 1, altS m (spanP y))) (⟨by omega, by omega, hm⟩) (by omega)) ?_ rfl; repeat (first | exact trivial | refine ⟨rfl, ?_⟩ | refine ⟨congrArg some nx, ?_⟩ | refine ⟨congrArg (fun v => some (A.int .i64 v)) (by clear ih IH hc hc0 hm hP hy hs; simp_all [altS, w64] <;> omega), ?_⟩))
      · refine ab (ag 5 rfl (AC.toCode ?_))
        refine AWp.condCase rfl (fun h => ?_) (fun h => ?_)
        · refine ae (ag 10 rfl (AC.nilE (seqQ_n ?_)))
          (refine AIn.nextN 0 (ih ((k + 1, altS m (spanP y))) (⟨by omega, by omega, hm⟩) (by omega)) ?_ rfl; repeat (first | exact trivial | refine ⟨rfl, ?_⟩ | refine ⟨congrArg some nx, ?_⟩ | refine ⟨congrArg (fun v => some (A.int .i64 v)) (by clear ih IH hc hc0 hm hP hy hs; simp_all [altS, w64] <;> omega), ?_⟩))
        · refine ae (ag 13 rfl (AC.nilE (seqQ_n ?_)))
          (refine AIn.nextN 0 (ih ((k + 1, altS m (spanP y))) (⟨by omega, by omega, hm⟩) (by omega)) ?_ rfl; repeat (first | exact trivial | refine ⟨rfl, ?_⟩ | refine ⟨congrArg some nx, ?_⟩ | refine ⟨congrArg (fun v => some (A.int .i64 v)) (by clear ih IH hc hc0 hm hP hy hs; simp_all [altS, w64] <;> omega), ?_⟩))
    · have h := of_decide_eq_false h
      simp only [List.length_map, Pat.l] at h
      rw [List.drop_eq_nil_of_le (by omega), spanA] at hm
      refine ae (ag 2 rfl (AC.nilE (ae (ag 11 rfl (AC.nilE ?_)))))
      refine bodyQ_r (ResOk.two rfl rfl rfl) ?_
      rw [← hm]
  cases hxl : x.l with
  | nil =>
    refine ae0 (ag 2 rfl (AC.pln (AOp.box rfl rfl (isVal_or rfl) rfl rfl (fun _ _ => (ab (ag 8 rfl (AC.pln (AOp.load okL rfl (.head _) rfl rfl rfl rfl (ab (ag 10 rfl (AC.toCode ?_)))))))))))
    refine AWp.condCase rfl (fun h => ?_) (fun h => ?_)
    · refine ae (ag 12 rfl (AC.nilE ?_))
      (refine bodyQ_r (ResOk.two rfl rfl rfl) ?_; clear IH; rw [spanP_eq x]; simp_all; done)
    · refine ae (ag 6 rfl (AC.toCode ?_))
      refine AWp.condCase rfl (fun h => ?_) (fun h => ?_)
      · refine ae (ag 12 rfl (AC.nilE ?_))
        (refine bodyQ_r (ResOk.two rfl rfl rfl) ?_; clear IH; rw [spanP_eq x]; simp_all; done)
      · refine ae (ag 5 rfl (AC.toCode ?_))
        refine AWp.condCase rfl (fun h => ?_) (fun h => ?_)
        · refine ae (ag 9 rfl (AC.nilE ?_))
          (refine bodyQ_r (ResOk.two rfl rfl rfl) ?_; clear IH; rw [spanP_eq x]; simp_all; done)
        · refine ae (ag 7 rfl (AC.toCode ?_))
          refine AWp.condCase rfl (fun h => ?_) (fun h => ?_)
          · refine ae (ag 6 rfl (AC.pln (AOp.load okL rfl (.head _) rfl rfl rfl rfl (ab (AC.toOps (ab (AC.toOps (ab (AC.toOps (ab (AC.toOps (ab (AC.toOps (ab (AC.toOps (ab (AC.toOps (ab (AC.toOps (ab (AC.toOps (ab (AC.toOps ?_)))))))))))))))))))))))
            (exfalso; exact hs.hd (by simp_all) hxl)
          · refine ae (ag 5 rfl (AC.toCode ?_))
            refine AWp.condCase rfl (fun h => ?_) (fun h => ?_)
            · refine ae (ag 3 rfl (AC.pln (AOp.load okL rfl (.head _) rfl rfl rfl rfl (ab (AC.toOps (ab (AC.toOps (ab (AC.toOps (ab (AC.toOps (ab (AC.toOps (ab (AC.toOps (ab (AC.toOps (ab (AC.toOps (ab (AC.toOps ?_)))))))))))))))))))))
              (exfalso; exact hs.hd (by simp_all) hxl)
            · refine ae (ag 7 rfl (AC.toCode ?_))
              refine AWp.condCase rfl (fun h => ?_) (fun h => ?_)
              · refine ae (ag 12 rfl (AC.nilE ?_))
                (refine bodyQ_r (ResOk.two rfl rfl rfl) ?_; clear IH; rw [spanP_eq x]; simp_all; done)
              · refine ae (ag 5 rfl (AC.toCode ?_))
                refine AWp.condCase rfl (fun h => ?_) (fun h => ?_)
                · refine ae (ag 9 rfl (AC.nilE ?_))
                  (refine bodyQ_r (ResOk.two rfl rfl rfl) ?_; clear IH; rw [spanP_eq x]; simp_all; done)
                · refine ae (ag 6 rfl (AC.toCode ?_))
                  refine AWp.condCase rfl (fun h => ?_) (fun h => ?_)
                  · refine ae (ag 3 rfl (AC.pln (AOp.load okL rfl (.head _) rfl rfl rfl rfl (ab (AC.toOps (ab (AC.toOps (ab (AC.toOps (ab (AC.toOps (ab (AC.toOps (ab (AC.toOps ?_)))))))))))))))
                    (exfalso; exact hs.hd (by simp_all) hxl)
                  · refine ae (ag 6 rfl (AC.toCode ?_))
                    refine AWp.condCase rfl (fun h => ?_) (fun h => ?_)
                    · refine ae (ag 13 rfl (AC.toCode (ae (AC.toCode (ae (AC.toCode (ae (AC.toCode (ae (AC.toCode ?_))))))))))
                      (exfalso; exact hs.hd (by simp_all) hxl)
                    · refine ae (ag 7 rfl (AC.toCode ?_))
                      refine AWp.condCase rfl (fun h => ?_) (fun h => ?_)
                      · refine ae (ag 6 rfl (AC.pln (AOp.load okL rfl (.head _) rfl rfl rfl rfl (ab (AC.toOps (ab (AC.toOps (ab (AC.toOps (ab (AC.toOps ?_)))))))))))
                        (exfalso; exact hs.hd (by simp_all) hxl)
                      · refine ae (ag 5 rfl (AC.toCode ?_))
                        refine AWp.condCase rfl (fun h => ?_) (fun h => ?_)
                        · refine ae (ag 3 rfl (AC.pln (AOp.load okL rfl (.head _) rfl rfl rfl rfl (ab (AC.toOps (ab (AC.toOps (ab (AC.toOps ?_)))))))))
                          (exfalso; exact hs.hd (by simp_all) hxl)
                        · refine ae (ag 10 rfl (AC.nilE ?_))
                          (refine bodyQ_r (ResOk.two rfl rfl rfl) ?_; clear IH; rw [spanP_eq x]; simp_all; done)
  | cons y0 l0 =>
    have hy0 : y0 ∈ x.l := by rw [hxl]; exact List.mem_cons_self
    have hc := IH y0 hy0 (hs.tl y0 hy0)
    have hH : spanH x.l = spanP y0 := by rw [hxl]; rfl
    have hg : x.l[0]? = some y0 := by rw [hxl]; rfl
    refine ae0 (ag 2 rfl (AC.pln (AOp.box rfl rfl (isVal_or rfl) rfl rfl (fun _ _ => (ab (ag 8 rfl (AC.pln (AOp.load okL rfl (.head _) rfl rfl rfl rfl (ab (ag 10 rfl (AC.toCode ?_)))))))))))
    refine AWp.condCase rfl (fun h => ?_) (fun h => ?_)
    · refine ae (ag 12 rfl (AC.nilE ?_))
      (refine bodyQ_r (ResOk.two rfl rfl rfl) ?_; rw [spanP_eq x, hH]; clear IH hc hy0 hg hs hH hxl hlen; simp_all [w64]; done)
    · refine ae (ag 6 rfl (AC.toCode ?_))
      refine AWp.condCase rfl (fun h => ?_) (fun h => ?_)
      · refine ae (ag 12 rfl (AC.nilE ?_))
        (refine bodyQ_r (ResOk.two rfl rfl rfl) ?_; rw [spanP_eq x, hH]; clear IH hc hy0 hg hs hH hxl hlen; simp_all [w64]; done)
      · refine ae (ag 5 rfl (AC.toCode ?_))
        refine AWp.condCase rfl (fun h => ?_) (fun h => ?_)
        · refine ae (ag 9 rfl (AC.nilE ?_))
          (refine bodyQ_r (ResOk.two rfl rfl rfl) ?_; rw [spanP_eq x, hH]; clear IH hc hy0 hg hs hH hxl hlen; simp_all [w64]; done)
        · refine ae (ag 7 rfl (AC.toCode ?_))
          refine AWp.condCase rfl (fun h => ?_) (fun h => ?_)
          · refine ae (ag 6 rfl (AC.pln (AOp.load okL rfl (.head _) rfl rfl rfl rfl (ab (AC.sim okL (sOp_idxD rfl rfl rfl rfl rfl (Int.le_refl _) (getC hg) rfl) rfl (ag 1 rfl (AC.pln (AOp.callP rfl rfl rfl (hc) (ab (ag 9 rfl (AC.nilE ?_)))))))))))
            (refine bodyQ_r (ResOk.two rfl rfl rfl) ?_; rw [spanP_eq x, hH]; clear IH hc hy0 hg hs hH hxl hlen; simp_all [w64]; done)
          · refine ae (ag 5 rfl (AC.toCode ?_))
            refine AWp.condCase rfl (fun h => ?_) (fun h => ?_)
            · refine ae (ag 3 rfl (AC.pln (AOp.load okL rfl (.head _) rfl rfl rfl rfl (ab (AC.sim okL (sOp_idxD rfl rfl rfl rfl rfl (Int.le_refl _) (getC hg) rfl) rfl (ag 1 rfl (AC.pln (AOp.callP rfl rfl rfl (hc) (ab (ag 9 rfl (AC.nilE ?_)))))))))))
              (refine bodyQ_r (ResOk.two rfl rfl rfl) ?_; rw [spanP_eq x, hH]; clear IH hc hy0 hg hs hH hxl hlen; simp_all [w64]; done)
            · refine ae (ag 7 rfl (AC.toCode ?_))
              refine AWp.condCase rfl (fun h => ?_) (fun h => ?_)
              · refine ae (ag 12 rfl (AC.nilE ?_))
                (refine bodyQ_r (ResOk.two rfl rfl rfl) ?_; rw [spanP_eq x, hH]; clear IH hc hy0 hg hs hH hxl hlen; simp_all [w64]; done)
              · refine ae (ag 5 rfl (AC.toCode ?_))
                refine AWp.condCase rfl (fun h => ?_) (fun h => ?_)
                · refine ae (ag 9 rfl (AC.nilE ?_))
                  (refine bodyQ_r (ResOk.two rfl rfl rfl) ?_; rw [spanP_eq x, hH]; clear IH hc hy0 hg hs hH hxl hlen; simp_all [w64]; done)
                · refine ae (ag 6 rfl (AC.toCode ?_))
                  refine AWp.condCase rfl (fun h => ?_) (fun h => ?_)
                  · refine ae (ag 3 rfl (AC.pln (AOp.load okL rfl (.head _) rfl rfl rfl rfl (ab (AC.sim okL (sOp_idxD rfl rfl rfl rfl rfl (Int.le_refl _) (getC hg) rfl) rfl (ag 1 rfl (AC.pln (AOp.callP rfl rfl rfl (hc) (ab (ag 16 rfl (AC.toCode ?_)))))))))))
                    refine AWp.condCase rfl (fun h => ?_) (fun h => ?_)
                    · refine ae (ag 11 rfl (AC.nilE ?_))
                      (refine bodyQ_r (ResOk.two rfl rfl rfl) ?_; rw [spanP_eq x, hH]; clear IH hc hy0 hg hs hH hxl hlen; simp_all [w64]; done)
                    · refine ae (ag 5 rfl (AC.toOps ?_))
                      refine AOps.guardCase rfl rfl rfl (fun h => ?_) (fun h => ?_)
                      · refine ab (ag 12 rfl (AC.pln (AOp.load okL rfl (.head _) rfl rfl rfl rfl (ab (ag 10 rfl (AC.nilE ?_))))))
                        (refine bodyQ_r (ResOk.two rfl rfl rfl) ?_; rw [spanP_eq x, hH]; clear IH hc hy0 hg hs hH hxl hlen; simp_all [w64]; done)
                      · refine ab (ag 1 rfl (AC.wtd rfl rfl rfl (AOp.load okL rfl (.head _) rfl rfl rfl rfl (ab (ag 5 rfl (AC.toCode ?_))))))
                        refine AWp.condCase rfl (fun h => ?_) (fun h => ?_)
                        · refine ae (ag 4 rfl (AC.pln (AOp.load okL rfl (.head _) rfl rfl rfl rfl (ab (ag 10 rfl (AC.nilE ?_))))))
                          (refine bodyQ_r (ResOk.two rfl rfl rfl) ?_; rw [spanP_eq x, hH]; clear IH hc hy0 hg hs hH hxl hlen; simp_all [w64]; done)
                        · refine ae (ag 4 rfl (AC.drawn okL hmix (by kernel_rfl) (ag 2 rfl (AC.toPl (Pl.quiet rfl rfl rfl (AOp.load okL rfl (.head _) rfl rfl rfl rfl (AOps.nil (Qn_n ⟨rfl, rfl⟩))) (ap (ag 3 rfl (AC.toPl (Pl.quiet rfl rfl rfl (AOp.load okL rfl (.head _) rfl rfl rfl rfl (AOps.nil (Qn_n ⟨rfl, rfl⟩))) (ap (ag 8 rfl (AC.nilE ?_))))))))))))
                          (refine bodyQ_r (ResOk.two rfl rfl rfl) ?_; have hsp := @span6 x y0; clear IH hc hy0 hg hs hxl hlen; simp_all [w64]; done)
                  · refine ae (ag 6 rfl (AC.toCode ?_))
                    refine AWp.condCase rfl (fun h => ?_) (fun h => ?_)
                    · refine ae (ag 13 rfl (AC.toCode (ae (AC.toCode (ae (AC.toCode (ae (AC.toCode (ae (AC.toCode ?_))))))))))
                      (exfalso; clear IH hc hy0 hg hs hH hxl hlen; simp_all; done)
                    · refine ae (ag 7 rfl (AC.toCode ?_))
                      refine AWp.condCase rfl (fun h => ?_) (fun h => ?_)
                      · refine ae (ag 6 rfl (AC.pln (AOp.load okL rfl (.head _) rfl rfl rfl rfl (ab (AC.sim okL (sOp_idxD rfl rfl rfl rfl rfl (Int.le_refl _) (getC hg) rfl) rfl (ag 1 rfl (AC.pln (AOp.callP rfl rfl rfl (hc) (ab (ag 14 rfl (AC.toCode (ae (AC.toCode (ae (AC.toCode (ae (AC.toCode ?_)))))))))))))))))
                        (exfalso; clear IH hc hy0 hg hs hH hxl hlen; simp_all; done)
                      · refine ae (ag 5 rfl (AC.toCode ?_))
                        refine AWp.condCase rfl (fun h => ?_) (fun h => ?_)
                        · refine ae (ag 3 rfl (AC.pln (AOp.load okL rfl (.head _) rfl rfl rfl rfl (ab (AC.sim okL (sOp_idxD rfl rfl rfl rfl rfl (Int.le_refl _) (getC hg) rfl) rfl (ag 1 rfl (AC.pln (AOp.callP rfl rfl rfl (hc) (ab (ag 14 rfl (AC.toCode (ae (AC.toCode (ae (AC.toCode ?_)))))))))))))))
                          (exfalso; clear IH hc hy0 hg hs hH hxl hlen; simp_all; done)
                        · refine ae (ag 10 rfl (AC.nilE ?_))
                          (refine bodyQ_r (ResOk.two rfl rfl rfl) ?_; rw [spanP_eq x, hH]; clear IH hc hy0 hg hs hH hxl hlen; simp_all [w64]; done)
end Go.Proofs.YtpopmiodjibljaaGreatDoor


namespace Go.Proofs.YtpopmiodjibljaaGreatDoor
open Go Go.Abs
set_option linter.unusedVariables false
set_option maxRecDepth 100000
set_option linter.unusedSimpArgs false
def fixM (x : Pat) : Bool := decide ((spanP x).1 = (spanP x).2)
theorem isFixed_tr (x : Pat) (hs : Sh x) : PTr Tryz.prog 161 [.agg x.C] (.bool (fixM x)) := by
  refine PTr.of_body (N := 13) Tryz.func161 rfl rfl rfl ?_
  refine ae0 (ag 2 rfl (AC.pln (AOp.box rfl rfl (isVal_or rfl) rfl rfl (fun _ _ => (ab (ag 5 rfl (AC.pln (AOp.load okL rfl (.head _) rfl rfl rfl rfl (ab (AC.pln (AOp.callP rfl rfl rfl (refSpan_tr x hs) (ab (ag 16 rfl (AC.nilE ?_))))))))))))))
  refine bodyQ_r (ResOk.one rfl rfl) ?_
  rfl
end Go.Proofs.YtpopmiodjibljaaGreatDoor


namespace Go.Proofs.YtpopmiodjibljaaGreatDoor
open Go Go.Abs
set_option linter.unusedVariables false
set_option maxRecDepth 100000
set_option linter.unusedSimpArgs false

/-! The plain law: both find the same patterns valid. -/
mutual
def depthN : Pat → Nat
  | .mk _ _ _ _ _ _ l => depthL l + 1
def depthL : List Pat → Nat
  | [] => 0
  | y :: l => max (depthN y) (depthL l)
end
theorem depthN_eq (x : Pat) : depthN x = depthL x.l + 1 := by cases x; rw [depthN]; rfl
mutual
theorem depth_le : ∀ x : Pat, depthN x ≤ nodesN x
  | .mk op n mn mx nm st l => by
    rw [depthN, nodesN]
    have := depthL_le l
    omega
theorem depthL_le : ∀ l : List Pat, depthL l ≤ nodesL l
  | [] => by simp [depthL]
  | y :: l => by
    rw [depthL, nodesL]
    have := depth_le y
    have := depthL_le l
    omega
end
theorem depthL_mem {y : Pat} : ∀ {l : List Pat}, y ∈ l → depthN y ≤ depthL l
  | [], h => by cases h
  | x :: l, h => by
    rw [depthL]
    rcases List.mem_cons.1 h with rfl | h
    · omega
    · have := depthL_mem h; omega
theorem len_nodesL : ∀ l : List Pat, l.length ≤ nodesL l
  | [] => by simp
  | y :: l => by
    have := len_nodesL l
    have h : 1 ≤ nodesN y := by rw [nodesN_eq]; omega
    rw [nodesL, List.length_cons]; omega
/-! The sizes, as they are. -/
mutual
theorem szP_exact : ∀ x : Pat, nodesN x ≤ 1000000 → szP x = ((nodesN x : Int), ((opnP x).length : Int), (depthN x : Int))
  | .mk op n mn mx nm st l, h => by
    rw [nodesN] at h
    have h1 := opnL_le l
    have h2 := depthL_le l
    rw [szP, szL_exact l 1 (if op = 7 then 1 else 0) 0 (by omega) (by split <;> omega) (by omega) (by split <;> omega) (by omega) (by omega)]
    rw [nodesN, opnP, depthN, List.length_append]
    simp only [Prod.mk.injEq]
    refine ⟨by omega, by split <;> simp <;> omega, ?_⟩
    rw [w64_id (by omega) (by omega)]
    omega
theorem szL_exact : ∀ (l : List Pat) (a b c : Int), 1 ≤ a → 0 ≤ b → 0 ≤ c → b ≤ a → c ≤ a → a + nodesL l ≤ 1000001 → szL l (a, b, c) = (a + nodesL l, b + (opnL l).length, max c (depthL l))
  | [], a, b, c, _, _, hc, _, _, _ => by
    rw [szL]
    simp [nodesL, opnL, depthL]; omega
  | y :: l, a, b, c, ha, hb, hc, h1, h2, h => by
    rw [nodesL] at h
    have e1 := opn_le y
    have e2 := depth_le y
    have e3 := opnL_le l
    have e4 := depthL_le l
    rw [szL, szP_exact y (by omega)]
    simp only
    rw [w64_id (by omega) (by omega), w64_id (by omega) (by omega)]
    have hm : mxI c (depthN y) = max c (depthN y) := by unfold mxI; split <;> omega
    rw [hm, szL_exact l _ _ _ (by omega) (by omega) (by omega) (by omega) (by omega) (by omega)]
    rw [nodesL, opnL, depthL, List.length_append]
    simp only [Prod.mk.injEq]
    refine ⟨by omega, by omega, by omega⟩
end
theorem dec0 {α : Type} [DecidableEq α] (l : List α) : decide (0 < l.length) = !decide (l = []) := by cases l <;> simp
theorem dec1 (n : Nat) : (decide (1 ≤ (n : Int)) && decide ((n : Int) ≤ 1)) = decide ((n : Int) = 1) := by
  rw [← Bool.decide_and]; exact decide_eq_decide.2 (by omega)
theorem dec2 (n : Nat) : (decide (2 ≤ (n : Int)) && decide ((n : Int) ≤ 2)) = decide ((n : Int) = 2) := by
  rw [← Bool.decide_and]; exact decide_eq_decide.2 (by omega)
theorem node_eq (x : Pat) (g : Int) (k : Bool) (hl : x.l.length ≤ 60) : (nodeA x g && nodeB x k) = (nodeM x g && !(decide (x.op = 18) && k) && (!decide (x.op = 7) || wiM x.n 1 g)) := by
  obtain ⟨op, n, mn, mx, nm, st, l⟩ := x
  simp only [Pat.l] at hl
  by_cases hop : op < 0 ∨ op > 18
  · have e1 : nodeM (.mk op n mn mx nm st l) g = false := by
      unfold nodeM
      simp only [Pat.op]
      simp [show ¬ op = 0 by omega, show ¬ op = 1 by omega, show ¬ op = 2 by omega, show ¬ op = 3 by omega, show ¬ op = 4 by omega, show ¬ op = 5 by omega, show ¬ op = 6 by omega, show ¬ op = 7 by omega, show ¬ op = 8 by omega, show ¬ op = 9 by omega, show ¬ op = 10 by omega, show ¬ op = 11 by omega, show ¬ op = 12 by omega, show ¬ op = 13 by omega, show ¬ op = 14 by omega, show ¬ op = 15 by omega, show ¬ op = 16 by omega, show ¬ op = 17 by omega, show ¬ op = 18 by omega]
    have e2 : wiM op 0 18 = false := by
      unfold wiM
      rcases hop with h | h
      · rw [decide_eq_false (by omega), Bool.false_and]
      · rw [Bool.and_eq_false_iff]; right; exact decide_eq_false (by omega)
    rw [e1]
    simp only [nodeA, Pat.op, e2, Bool.false_and]
  have hop : op = 0 ∨ op = 1 ∨ op = 2 ∨ op = 3 ∨ op = 4 ∨ op = 5 ∨ op = 6 ∨ op = 7 ∨ op = 8 ∨ op = 9 ∨ op = 10 ∨ op = 11 ∨ op = 12 ∨ op = 13 ∨ op = 14 ∨ op = 15 ∨ op = 16 ∨ op = 17 ∨ op = 18 := by omega
  rcases hop with rfl | rfl | rfl | rfl | rfl | rfl | rfl | rfl | rfl | rfl | rfl | rfl | rfl | rfl | rfl | rfl | rfl | rfl | rfl
  all_goals have hst := dec0 st
  all_goals have h1 := dec1 l.length
  all_goals have h2 := dec2 l.length
  all_goals have h6 : decide ((l.length : Int) ≤ 60) = true := decide_eq_true (by omega)
  all_goals simp [nodeA, nodeB, nodeM, nodeR, numM, partsM, wiM, bareM, Pat.op, Pat.l, Pat.n, Pat.min, Pat.max, Pat.name, Pat.set, hst, h1, h2, h6]
  all_goals (try (ac_rfl; done))
theorem bes_side (op op' : Int) : besO op op' = sideM op op' := by
  unfold besO sideM
  by_cases h4 : op = 4
  · subst h4; simp
  · by_cases h5 : op = 5
    · subst h5; simp
    · simp [h4, h5]
/-! The lengths: no number leaves its range, where a pattern is no larger than it may be. -/
def B (x : Pat) : Nat := nodesN x * 20 ^ depthN x
def BL : List Pat → Nat
  | [] => 0
  | y :: l => B y + BL l
theorem BL_le (d : Nat) : ∀ l : List Pat, depthL l ≤ d → BL l ≤ nodesL l * 20 ^ d
  | [], _ => by simp [BL]
  | y :: l, h => by
    rw [depthL] at h
    have h1 := BL_le d l (by omega)
    have h2 : B y ≤ nodesN y * 20 ^ d := Nat.mul_le_mul_left _ (Nat.pow_le_pow_right (by omega) (by omega))
    rw [BL, nodesL, Nat.add_mul]
    omega
theorem BL_B (x : Pat) : 20 * BL x.l ≤ B x := by
  have h := BL_le (depthL x.l) x.l (Nat.le_refl _)
  unfold B
  rw [nodesN_eq, depthN_eq, Nat.pow_succ]
  calc 20 * BL x.l ≤ 20 * (nodesL x.l * 20 ^ depthL x.l) := Nat.mul_le_mul_left _ h
    _ = nodesL x.l * (20 ^ depthL x.l * 20) := by rw [Nat.mul_comm, Nat.mul_assoc]
    _ ≤ (1 + nodesL x.l) * (20 ^ depthL x.l * 20) := Nat.mul_le_mul_right _ (by omega)
theorem B_pos (x : Pat) : 20 ≤ B x := by
  unfold B
  rw [nodesN_eq, depthN_eq, Nat.pow_succ]
  have : 1 ≤ 20 ^ depthL x.l := Nat.one_le_pow _ _ (by omega)
  calc 20 ≤ 1 * (1 * 20) := by omega
    _ ≤ (1 + nodesL x.l) * (20 ^ depthL x.l * 20) := Nat.mul_le_mul (by omega) (Nat.mul_le_mul_right _ this)
/-- A length's two ends, in range. -/
structure In (a : Int × Int) (c : Nat) : Prop where
  lo : 0 ≤ a.1
  hi : -1 ≤ a.2
  le : a.2 = -1 ∨ a.1 ≤ a.2
  b1 : a.1 ≤ c
  b2 : a.2 ≤ c
def Gd (y : Pat) : Prop := lenP y = spanP y ∧ In (spanP y) (B y)
theorem cat_fold : ∀ (l : List Pat) (a : Int × Int) (c : Nat), (∀ y ∈ l, Gd y) → In a c → c + BL l ≤ 1000000000000000000 → lenL 4 l false a = spanC4 l a ∧ In (spanC4 l a) (c + BL l)
  | [], a, c, _, ha, _ => by
    rw [lenL, spanC4, BL]; exact ⟨rfl, ha⟩
  | y :: l, a, c, hg, ha, hc => by
    rw [BL] at hc ⊢
    obtain ⟨h1, h2⟩ := hg y List.mem_cons_self
    obtain ⟨a1, a2⟩ := a
    rw [lenL, spanC4, h1]
    generalize hb : spanP y = b at h2
    obtain ⟨b1, b2⟩ := b
    obtain ⟨p1, p2, p3, p4, p5⟩ := ha
    obtain ⟨q1, q2, q3, q4, q5⟩ := h2
    simp only at p1 p2 p3 p4 p5 q1 q2 q3 q4 q5
    have e1 : w64 (a1 + b1) = a1 + b1 := w64_id (by omega) (by omega)
    have e2 : w64 (a2 + b2) = a2 + b2 := w64_id (by omega) (by omega)
    have e : lenS 4 false (a1, a2) (b1, b2) = catS (a1, a2) (b1, b2) := by
      simp only [lenS, catS, plusM, Bool.false_eq_true, if_false, if_true, Prod.mk.injEq, true_and]
      by_cases h : a2 < 0 ∨ b2 < 0
      · rw [if_pos h, if_pos (by omega)]
      · rw [if_neg h, if_neg (by omega)]
    rw [e]
    have hin : In (catS (a1, a2) (b1, b2)) (c + B y) := by
      simp only [catS, e1, e2]
      refine ⟨by simp only; omega, by simp only; split <;> omega, by simp only; split <;> omega, by simp only; omega, by simp only; split <;> omega⟩
    obtain ⟨r1, r2⟩ := cat_fold l _ (c + B y) (fun z hz => hg z (List.mem_cons_of_mem _ hz)) hin (by omega)
    exact ⟨r1, by rw [← Nat.add_assoc]; exact r2⟩
theorem alt_fold (op : Int) (ho : op ≠ 4) : ∀ (l : List Pat) (a : Int × Int) (c : Nat), (∀ y ∈ l, Gd y) → In a c → lenL op l false a = spanA l a ∧ In (spanA l a) (c + BL l)
  | [], a, c, _, ha => by
    rw [lenL, spanA, BL]; exact ⟨rfl, ha⟩
  | y :: l, a, c, hg, ha => by
    rw [BL]
    obtain ⟨h1, h2⟩ := hg y List.mem_cons_self
    obtain ⟨a1, a2⟩ := a
    rw [lenL, spanA, h1]
    generalize hb : spanP y = b at h2
    obtain ⟨b1, b2⟩ := b
    obtain ⟨p1, p2, p3, p4, p5⟩ := ha
    obtain ⟨q1, q2, q3, q4, q5⟩ := h2
    simp only at p1 p2 p3 p4 p5 q1 q2 q3 q4 q5
    have e : lenS op false (a1, a2) (b1, b2) = altS (a1, a2) (b1, b2) := by
      simp only [lenS, altS, if_neg ho, Bool.false_eq_true, if_false, Prod.mk.injEq, true_and]
      by_cases h : b2 < 0 ∨ a2 < 0
      · rw [if_pos h]
        by_cases h' : a2 ≥ 0 ∧ (b2 < 0 ∨ b2 > a2)
        · rw [if_pos h']; omega
        · rw [if_neg h']; omega
      · rw [if_neg h]
        by_cases h' : b2 > a2
        · rw [if_pos ⟨by omega, .inr h'⟩, if_pos h']
        · rw [if_neg (by omega), if_neg h']
    rw [e]
    have hin : In (altS (a1, a2) (b1, b2)) (c + B y) := by
      simp only [altS]
      refine ⟨by simp only; split <;> omega, ?_, ?_, by simp only; split <;> omega, ?_⟩
      · simp only; split
        · omega
        · split <;> omega
      · simp only; split
        · omega
        · split <;> split <;> omega
      · simp only; split
        · omega
        · split <;> omega
    obtain ⟨r1, r2⟩ := alt_fold op ho l _ (c + B y) (fun z hz => hg z (List.mem_cons_of_mem _ hz)) hin
    exact ⟨r1, by rw [← Nat.add_assoc]; exact r2⟩
theorem nodeA_parts {x : Pat} {g : Int} (h : nodeA x g = true) : (partsM x.op).1 ≤ x.l.length ∧ x.l.length ≤ (partsM x.op).2 ∧ (x.op = 6 → 0 ≤ x.min ∧ x.min ≤ 20 ∧ (x.max = -1 ∨ 1 ≤ x.max ∧ x.min ≤ x.max ∧ x.max ≤ 20)) := by
  simp only [nodeA, wiM, Bool.and_eq_true, decide_eq_true_eq] at h
  obtain ⟨_, ⟨h1, h2⟩, _, h4⟩ := h
  refine ⟨by omega, by omega, fun h6 => ?_⟩
  rw [if_pos h6] at h4
  simp only [Bool.and_eq_true, Bool.or_eq_true, decide_eq_true_eq] at h4
  obtain ⟨⟨a, b⟩, c⟩ := h4
  refine ⟨by omega, by omega, ?_⟩
  rcases c with c | ⟨c, d⟩
  · exact .inl c
  · right
    split at c <;> omega
theorem len_span (fx : Pat → Bool) (x : Pat) : ∀ (g : Int) (k : Bool), nodeV fx x g k = true → B x ≤ 1000000000000000000 → Gd x := by
  induction x using Pat.ind with | h x IH => _
  intro g k hv hB
  rw [nodeV_eq] at hv
  simp only [Bool.and_eq_true] at hv
  obtain ⟨hA, _, hL, _⟩ := hv
  obtain ⟨h1, h2, h6⟩ := nodeA_parts hA
  have hBL := BL_B x
  have hpos := B_pos x
  have hg : ∀ y ∈ x.l, Gd y := fun y hy => by
    refine IH y hy _ _ (nodeL_mem hL y hy).1 ?_
    have : ∀ l : List Pat, y ∈ l → B y ≤ BL l := by
      intro l
      induction l with
      | nil => intro h; cases h
      | cons z l ih =>
        intro h
        rw [BL]
        rcases List.mem_cons.1 h with rfl | h
        · omega
        · have := ih h; omega
    have := this x.l hy
    omega
  have hsp := spanP_eq x
  have hln := lenP_eq x
  have hin18 : 0 ≤ x.op ∧ x.op ≤ 18 := by
    simp only [nodeA, wiM, Bool.and_eq_true, decide_eq_true_eq] at hA
    exact ⟨hA.1.1, hA.1.2⟩
  by_cases c1 : x.op = 1 ∨ x.op = 2 ∨ x.op = 3
  · rw [if_pos c1] at hsp hln
    unfold Gd
    rw [hsp, hln]
    exact ⟨rfl, by omega, by omega, .inr (by omega), by simp only; omega, by simp only; omega⟩
  rw [if_neg c1] at hsp hln
  by_cases c2 : x.op = 10 ∨ x.op = 14
  · rw [if_neg (by omega), if_pos c2] at hsp
    rw [if_pos c2] at hln
    unfold Gd
    rw [hsp, hln]
    exact ⟨rfl, by omega, by omega, .inl rfl, by simp only; omega, by simp only; omega⟩
  rw [if_neg c2] at hln
  by_cases c9 : x.op = 9
  · rw [if_neg (by omega), if_neg (by omega), if_neg (by omega), if_neg (by omega), if_neg (by omega)] at hsp
    rw [if_pos c9] at hln
    unfold Gd
    rw [hsp, hln]
    exact ⟨rfl, by omega, by omega, .inr (by omega), by simp only; omega, by simp only; omega⟩
  rw [if_neg c9] at hln
  by_cases c6 : x.op = 6
  · rw [if_neg (by omega), if_neg (by omega), if_pos c6] at hsp
    rw [if_pos c6] at hln
    have hlen : x.l.length = 1 := by simp [partsM, c6] at h1 h2; omega
    obtain ⟨y, hy⟩ := List.length_eq_one_iff.1 hlen
    obtain ⟨e, hin⟩ := hg y (by simp [hy])
    have eH : spanH x.l = spanP y := by rw [hy]; rfl
    have lH : lenH x.l = lenP y := by rw [hy]; rfl
    rw [eH] at hsp
    rw [lH, e] at hln
    have hBy : 20 * B y ≤ B x := by rw [hy] at hBL; simpa [BL] using hBL
    generalize spanP y = s at *
    obtain ⟨a1, a2⟩ := s
    obtain ⟨p1, p2, p3, p4, p5⟩ := hin
    simp only at p1 p2 p3 p4 p5 hsp hln
    obtain ⟨m0, m20, mm⟩ := h6 c6
    have k1 : 0 ≤ a1 * x.min := Int.mul_nonneg p1 m0
    have k2 : a1 * x.min ≤ a1 * 20 := Int.mul_le_mul_of_nonneg_left m20 p1
    have ew : w64 (a1 * x.min) = a1 * x.min := w64_id (by omega) (by omega)
    have t1 : timesM x.min a1 = a1 * x.min := by
      unfold timesM
      by_cases z : x.min = 0 ∨ a1 = 0
      · rw [if_pos z]; rcases z with z | z <;> simp [z]
      · rw [if_neg z, if_neg (by omega), Int.mul_comm]; exact ew
    unfold Gd
    by_cases z0 : a2 = 0
    · have ha1 : a1 = 0 := by omega
      subst z0 ha1
      rw [if_pos rfl] at hsp
      rw [hsp, hln]
      refine ⟨?_, by omega, by omega, .inr (by omega), by simp only; omega, by simp only; omega⟩
      simp [timesM]
    · rw [if_neg z0] at hsp
      by_cases zn : a2 < 0 ∨ x.max < 0
      · rw [if_pos zn] at hsp
        have t2 : timesM x.max a2 = -1 := by
          unfold timesM
          rw [if_neg (by omega), if_pos (by omega)]
        rw [hsp, hln, t1, t2, ew]
        exact ⟨rfl, k1, by omega, .inl rfl, by simp only; omega, by simp only; omega⟩
      · rw [if_neg zn] at hsp
        have hmx : 1 ≤ x.max ∧ x.min ≤ x.max ∧ x.max ≤ 20 := by omega
        have ha2 : 0 ≤ a2 := by omega
        have k3 : a2 * 1 ≤ a2 * x.max := Int.mul_le_mul_of_nonneg_left hmx.1 ha2
        have k4 : a2 * x.max ≤ a2 * 20 := Int.mul_le_mul_of_nonneg_left hmx.2.2 ha2
        have k5 : a1 * x.min ≤ a2 * x.max := Int.mul_le_mul (by omega) hmx.2.1 m0 ha2
        have ew2 : w64 (a2 * x.max) = a2 * x.max := w64_id (by omega) (by omega)
        have t2 : timesM x.max a2 = a2 * x.max := by
          unfold timesM
          rw [if_neg (by omega), if_neg (by omega), Int.mul_comm]; exact ew2
        rw [hsp, hln, t1, t2, ew, ew2]
        exact ⟨rfl, k1, by simp only; omega, .inr k5, by simp only; omega, by simp only; omega⟩
  rw [if_neg c6] at hln
  by_cases c4 : x.op = 4
  · rw [if_neg (by omega), if_neg (by omega), if_neg c6, if_pos c4] at hsp
    rw [c4] at hln
    have hlen : 2 ≤ x.l.length := by simp [partsM, c4] at h1; omega
    cases hxl : x.l with
    | nil => rw [hxl] at hlen; simp at hlen
    | cons y l =>
      rw [hxl] at hsp hln hg hBL
      rw [BL] at hBL
      obtain ⟨e, hin⟩ := hg y List.mem_cons_self
      rw [spanC4] at hsp
      rw [lenL, e] at hln
      have hl0 : lenS 4 true (0, 0) (spanP y) = spanP y := by simp [lenS]
      have hc0 : catS (0, 0) (spanP y) = spanP y := by
        generalize spanP y = s at hin
        obtain ⟨a1, a2⟩ := s
        obtain ⟨p1, p2, p3, p4, p5⟩ := hin
        simp only at p1 p2 p3 p4 p5
        simp only [catS, Int.zero_add, Prod.mk.injEq]
        refine ⟨w64_id (by omega) (by omega), ?_⟩
        split
        · omega
        · exact w64_id (by omega) (by omega)
      rw [hl0] at hln
      rw [hc0] at hsp
      obtain ⟨r1, r2⟩ := cat_fold l (spanP y) (B y) (fun z hz => hg z (List.mem_cons_of_mem _ hz)) hin (by omega)
      unfold Gd
      rw [hsp, hln, r1]
      exact ⟨rfl, r2.lo, r2.hi, r2.le, by have := r2.b1; omega, by have := r2.b2; omega⟩
  by_cases c5 : x.op = 5 ∨ x.op = 15
  · rw [if_neg (by omega), if_neg (by omega), if_neg c6, if_neg c4, if_pos c5] at hsp
    have hlen : 2 ≤ x.l.length := by rcases c5 with c5 | c5 <;> simp [partsM, c5] at h1 <;> omega
    cases hxl : x.l with
    | nil => rw [hxl] at hlen; simp at hlen
    | cons y l =>
      rw [hxl] at hsp hln hg hBL
      rw [BL] at hBL
      obtain ⟨e, hin⟩ := hg y List.mem_cons_self
      rw [spanT] at hsp
      rw [lenL, e] at hln
      have hl0 : lenS x.op true (0, 0) (spanP y) = spanP y := by simp [lenS]
      rw [hl0] at hln
      obtain ⟨r1, r2⟩ := alt_fold x.op c4 l (spanP y) (B y) (fun z hz => hg z (List.mem_cons_of_mem _ hz)) hin
      unfold Gd
      rw [hsp, hln, r1]
      exact ⟨rfl, r2.lo, r2.hi, r2.le, by have := r2.b1; omega, by have := r2.b2; omega⟩
  by_cases c7 : x.op = 7 ∨ x.op = 8
  · rw [if_pos c7] at hsp
    have hlen : x.l.length = 1 := by rcases c7 with c7 | c7 <;> simp [partsM, c7] at h1 h2 <;> omega
    obtain ⟨y, hy⟩ := List.length_eq_one_iff.1 hlen
    obtain ⟨e, hin⟩ := hg y (by simp [hy])
    have eH : spanH x.l = spanP y := by rw [hy]; rfl
    have hBy : 20 * B y ≤ B x := by rw [hy] at hBL; simpa [BL] using hBL
    rw [eH] at hsp
    rw [hy, lenL, lenL, e] at hln
    have hl0 : lenS x.op true (0, 0) (spanP y) = spanP y := by simp [lenS]
    rw [hl0] at hln
    unfold Gd
    rw [hsp, hln]
    exact ⟨rfl, hin.lo, hin.hi, hin.le, by have := hin.b1; omega, by have := hin.b2; omega⟩
  · rw [if_neg c7, if_neg (by omega), if_neg c6, if_neg c4, if_neg c5] at hsp
    have hlen : x.l = [] := by
      have : partsM x.op = (0, 0) := by unfold partsM; rw [if_neg (by omega), if_neg (by omega), if_neg (by omega)]
      rw [this] at h2
      exact List.eq_nil_of_length_eq_zero (by simp only at h2; omega)
    rw [hlen, lenL] at hln
    unfold Gd
    rw [hsp, hln]
    exact ⟨rfl, by omega, by omega, .inr (by omega), by simp only; omega, by simp only; omega⟩
theorem look_eq {x : Pat} {g : Int} {k : Bool} (hL : nodeL fixM x.op x.l g k = true) (hB : B x ≤ 1000000000000000000) : lookE x = nodeE fixM x := by
  have hd : decide (x.n ≥ 2) = !decide (x.n < 2) := by rw [← decide_not]; exact decide_eq_decide.2 (by omega)
  cases hxl : x.l with
  | nil =>
    simp only [lookE, nodeE, hxl, hd]
    cases decide (x.op = 9) <;> cases decide (x.n < 2) <;> rfl
  | cons y l =>
    have hy : y ∈ x.l := by rw [hxl]; exact List.mem_cons_self
    have hBL := BL_B x
    rw [hxl, BL] at hBL
    have := (len_span fixM y _ _ (nodeL_mem hL y hy).1 (by omega)).1
    simp only [lookE, nodeE, hxl, hd, fixM, this]
    cases decide (x.op = 9) <;> cases decide (x.n < 2) <;> simp
theorem grpGo_app (b : List Pat) : ∀ (a pre : List Pat), grpGo pre (a ++ b) = (grpGo pre a && grpGo (pre ++ a) b)
  | [], pre => by simp [grpGo]
  | y :: a, pre => by
    simp only [List.cons_append, grpGo]
    rw [grpGo_app b a (pre ++ [y])]
    simp only [Bool.and_assoc, List.append_assoc, List.cons_append, List.nil_append]
def stOf (pre : List Pat) : RSt := ((pre.length : Int), pre.map Pat.name)
theorem step_eq (x : Pat) (pre : List Pat) (hp : pre.length ≤ 1000) (h7 : x.op = 7) : grpStep x (stOf pre) = if (decide (x.n = ((pre.length + 1 : Nat) : Int)) && !pre.any (sameN x)) = true then some (stOf (pre ++ [x])) else none := by
  unfold grpStep stOf
  rw [if_pos h7]
  simp only
  have hw : w64 ((pre.length : Int) + 1) = ((pre.length + 1 : Nat) : Int) := by rw [w64_id (by omega) (by omega)]; rfl
  rw [hw]
  have hany : (pre.any (sameN x) = true) ↔ (x.name ∈ pre.map Pat.name ∧ x.name ≠ []) := by
    rw [List.any_eq_true]
    constructor
    · rintro ⟨z, hz, hs⟩
      simp only [sameN, Bool.and_eq_true, Bool.not_eq_true', decide_eq_false_iff_not, decide_eq_true_eq] at hs
      exact ⟨List.mem_map.2 ⟨z, hz, hs.2.symm⟩, hs.1⟩
    · rintro ⟨hm, hn⟩
      obtain ⟨z, hz, he⟩ := List.mem_map.1 hm
      refine ⟨z, hz, ?_⟩
      simp only [sameN, Bool.and_eq_true, Bool.not_eq_true', decide_eq_false_iff_not, decide_eq_true_eq]
      exact ⟨hn, he.symm⟩
  by_cases hc : x.n = ((pre.length + 1 : Nat) : Int) ∧ ¬ (x.name ∈ pre.map Pat.name ∧ x.name ≠ [])
  · rw [if_pos hc, if_pos]
    · simp
    · rw [decide_eq_true hc.1, Bool.true_and, Bool.not_eq_true']
      cases hq : pre.any (sameN x)
      · rfl
      · exact absurd (hany.1 hq) hc.2
  · rw [if_neg hc, if_neg]
    intro hh
    simp only [Bool.and_eq_true, decide_eq_true_eq, Bool.not_eq_true'] at hh
    refine hc ⟨hh.1, fun hx => ?_⟩
    rw [hany.2 hx] at hh
    exact absurd hh.2 (by simp)
theorem rgtP_bind (x : Pat) (g : Int) (k : Bool) (s : RSt) : rgtP x g k s = if (!nodeM x g || (decide (x.op = 18) && k)) = true then none else (grpStep x s).bind fun s1 => (rgtL x.op x.l g (k || decide (x.op = 9)) s1).bind fun s2 => if lookE x = true then some s2 else none := by
  rw [rgtP_eq]
  split
  · rfl
  · cases grpStep x s with
    | none => rfl
    | some s1 => simp only [Option.bind_some]; cases rgtL x.op x.l g (k || decide (x.op = 9)) s1 <;> rfl
mutual
theorem main_x (g : Nat) (hg : g ≤ 1000) : ∀ (x : Pat), nodesN x ≤ 60 → B x ≤ 1000000000000000000 → ∀ (k : Bool) (pre : List Pat), pre.length + (opnP x).length ≤ g →
    rgtP x g k (stOf pre) = if (nodeV fixM x g k && grpGo pre (opnP x)) = true then some (stOf (pre ++ opnP x)) else none
  | .mk op n mn mx nm st l, hn, hB, k, pre, hp => by
    have hml := main_l g hg op l
    generalize hx : Pat.mk op n mn mx nm st l = x at *
    have hxl : x.l = l := by rw [← hx]; rfl
    have hxo : x.op = op := by rw [← hx]; rfl
    have hnn := nodesN_eq x
    have hll := len_nodesL x.l
    have hBL := BL_B x
    rw [rgtP_bind, nodeV_eq]
    have hne := node_eq x g k (by omega)
    rw [← hxl, ← hxo] at hml
    -- behind the node itself
    have tail : ∀ pre' : List Pat, pre'.length + (opnL x.l).length ≤ g →
        ((rgtL x.op x.l g (k || decide (x.op = 9)) (stOf pre')).bind fun s2 => if lookE x = true then some s2 else none) =
        if (nodeL fixM x.op x.l g (k || decide (x.op = 9)) && nodeE fixM x && grpGo pre' (opnL x.l)) = true then some (stOf (pre' ++ opnL x.l)) else none := by
      intro pre' hp'
      rw [hml (by omega) (by omega) (k || decide (x.op = 9)) pre' hp']
      cases hL : nodeL fixM x.op x.l g (k || decide (x.op = 9))
      · simp
      · rw [look_eq hL hB]
        cases grpGo pre' (opnL x.l) <;> cases nodeE fixM x <;> simp
    have hcond : (!nodeM x g || (decide (x.op = 18) && k)) = !(nodeM x g && !(decide (x.op = 18) && k)) := by cases nodeM x g <;> cases (decide (x.op = 18) && k) <;> rfl
    rw [hcond]
    cases hM : (nodeM x g && !(decide (x.op = 18) && k))
    · rw [hM, Bool.false_and] at hne
      rw [Bool.not_false, if_pos rfl, if_neg]
      intro hh
      simp only [Bool.and_eq_true] at hh
      rw [hh.1.1, hh.1.2.1] at hne
      cases hne
    · rw [hM, Bool.true_and] at hne
      rw [if_neg (by simp)]
      by_cases h7 : x.op = 7
      · have ho : opnP x = x :: opnL x.l := by rw [opnP_eq, if_pos h7]; rfl
        rw [ho] at hp ⊢
        simp only [List.length_cons] at hp
        rw [step_eq x pre (by omega) h7]
        have hgg : grpGo pre (x :: opnL x.l) = ((decide (x.n = ((pre.length + 1 : Nat) : Int)) && !pre.any (sameN x)) && grpGo (pre ++ [x]) (opnL x.l)) := rfl
        rw [hgg]
        by_cases hC : (decide (x.n = ((pre.length + 1 : Nat) : Int)) && !pre.any (sameN x)) = true
        rotate_left
        · rw [if_neg hC, Bool.eq_false_iff.2 hC]
          simp
        · have hn1 : x.n = ((pre.length + 1 : Nat) : Int) := by
            simp only [Bool.and_eq_true, decide_eq_true_eq] at hC; exact hC.1
          have hin : wiM x.n 1 g = true := by
            unfold wiM
            rw [hn1, decide_eq_true (by omega), decide_eq_true (by omega)]; rfl
          rw [hin, Bool.or_true] at hne
          simp only [Bool.and_eq_true] at hne
          rw [if_pos hC, hC, Option.bind_some]
          rw [tail (pre ++ [x]) (by simp; omega), hne.1, hne.2]
          simp only [Bool.true_and, List.append_assoc, List.cons_append, List.nil_append]
      · have ho : opnP x = opnL x.l := by rw [opnP_eq, if_neg h7]; rfl
        rw [ho] at hp ⊢
        have hs : grpStep x (stOf pre) = some (stOf pre) := by unfold grpStep; rw [if_neg h7]
        rw [hs]
        rw [decide_eq_false h7, Bool.not_false, Bool.true_or] at hne
        simp only [Bool.and_eq_true] at hne
        rw [Option.bind_some, tail pre hp, hne.1, hne.2]
        simp only [Bool.true_and]
theorem main_l (g : Nat) (hg : g ≤ 1000) (op : Int) : ∀ (l : List Pat), nodesL l ≤ 60 → BL l ≤ 1000000000000000000 → ∀ (k : Bool) (pre : List Pat), pre.length + (opnL l).length ≤ g →
    rgtL op l g k (stOf pre) = if (nodeL fixM op l g k && grpGo pre (opnL l)) = true then some (stOf (pre ++ opnL l)) else none
  | [], _, _, k, pre, _ => by simp [rgtL, nodeL, opnL, grpGo]
  | y :: l, hn, hB, k, pre, hp => by
    rw [nodesL] at hn
    rw [BL] at hB
    rw [opnL, List.length_append] at hp
    rw [rgtL, nodeL, opnL, grpGo_app, bes_side, main_x g hg y (by omega) (by omega) k pre (by omega)]
    cases sideM op y.op
    · simp
    · cases nodeV fixM y g k
      · simp
      · cases grpGo pre (opnP y)
        · simp
        · simp only [Bool.true_and, if_true, Bool.and_true]
          rw [main_l g hg op l (by omega) (by omega) k (pre ++ opnP y) (by rw [List.length_append]; omega), List.append_assoc]
end
theorem valid_eq (x : Pat) (h : nodesN x ≤ 1000000) : valP x = validR fixM x := by
  unfold valP validR
  cases hl : largeM x
  · have hsz := szP_exact x h
    simp only [largeM, hsz, Bool.or_eq_false_iff, decide_eq_false_iff_not] at hl
    obtain ⟨h1, h2, h3⟩ := hl
    have hB : B x ≤ 1000000000000000000 := by
      unfold B
      calc nodesN x * 20 ^ depthN x ≤ 60 * 20 ^ 12 := Nat.mul_le_mul (by omega) (Nat.pow_le_pow_right (by omega) (by omega))
        _ ≤ 1000000000000000000 := by decide
    have hm := main_x (opnP x).length (by omega) x (by omega) hB false [] (by simp)
    have hst : stOf [] = (0, []) := rfl
    rw [hsz]
    simp only
    rw [← hst, hm]
    cases nodeV fixM x (opnP x).length false && grpGo [] (opnP x) <;> simp
  · simp
end Go.Proofs.YtpopmiodjibljaaGreatDoor


namespace Go.Proofs.YtpopmiodjibljaaGreatDoor
open Go Go.Abs
set_option maxRecDepth 100000
set_option maxHeartbeats 8000000 in
theorem refNode_tr (fx : Pat → Bool) (hF : ∀ y, Sh y → PTr Tryz.prog 161 [.agg y.C] (.bool (fx y))) (x : Pat) : ∀ (g : Int) (k : Bool), PTr Tryz.prog 106 [.agg x.C, i64 g, .bool k] (.bool (nodeV fx x g k)) := by
  induction x using Pat.ind with | h x IH => _
  intro g kk
  refine PTr.of_body (N := 180) Tryz.func106 rfl rfl rfl ?_
  refine AWp.know (t := 0) rfl (Known.agg mem_C (Known.ds _)) fun hlen => ?_
  rw [List.length_map] at hlen
  refine AWp.seq ?_
  refine AWp.region ?_
  refine AOps.pln ?_; refine AOp.box rfl rfl (isVal_or rfl) rfl rfl ?_; intro _ _
  refine AOps.sim okL rfl rfl ?_
  refine AOps.nil ?_
  refine AWp.seq ?_
  refine AWp.region ?_
  refine AOps.sim okL rfl rfl ?_
  refine AOps.pln ?_; refine AOp.load okL rfl (.head _) rfl rfl rfl rfl ?_
  refine AOps.pln ?_; focus (refine AOp.callP (v := ?_) rfl rfl rfl ?_ ?_; rotate_left; exact (parts_tr _))
  refine AOps.sim okL rfl rfl ?_
  refine AOps.sim okL rfl rfl ?_
  refine AOps.sim okL rfl rfl ?_
  refine AOps.sim okL rfl rfl ?_
  refine AOps.sim okL rfl rfl ?_
  refine AOps.nil ?_
  refine AWp.seq ?_
  rename_i r _
  refine AWp.join (α := Unit) (fun _ => [(1, i64 g), (2, .bool kk), (3, .ptr r 7 0 0)]) (fun _ => [(r, .row 25 7 [x.C])]) (fun _ => nodeA x g = true) ?_ fun R K hR => ?_
  · rintro _ hA
    refine AWp.seq ?_
    refine AWp.join (α := Unit) (fun _ => [(1, i64 g), (2, .bool kk), (3, .ptr r 7 0 0)]) (fun _ => [(r, .row 25 7 [x.C])]) (fun _ => nodeB x kk = true) ?_ fun R K hR => ?_
    · rintro _ hB
      have hVV : nodeV fx x g kk = (nodeL fx x.op x.l g (kk || (x.op == 9)) && nodeE fx x) := by rw [nodeV_eq, hA, hB]; rfl
      refine AWp.seq ?_
      refine AWp.seq ?_
      refine AWp.region ?_
      refine AOps.sim okL rfl rfl ?_
      refine AOps.nil ?_
      refine AWp.block ?_
      refine AWp.loopM (α := Nat) (fun a => x.l.length - a) (fun a => [(1, i64 g), (2, .bool kk), (3, .ptr r 7 0 0), (9, i64 a)]) (fun _ => [(r, .row 25 7 [x.C])])
        (fun a => a ≤ x.l.length ∧ nodeL fx x.op (x.l.drop a) g (kk || (x.op == 9)) = nodeL fx x.op x.l g (kk || (x.op == 9))) 0 ⟨Nat.zero_le _, rfl⟩ ?_ (List.Perm.refl _) ?_
      · simp only [AllIn]
        refine ⟨rfl, rfl, rfl, rfl, trivial⟩
      rintro k ⟨hk, hm⟩ ih
      refine AWp.seq ?_
      refine AWp.seq ?_
      refine AWp.region ?_
      refine AOps.sim okL rfl rfl ?_
      refine AOps.sim okL rfl rfl ?_
      refine AOps.pln ?_; refine AOp.load okL rfl (.head _) rfl rfl rfl rfl ?_
      refine AOps.sim okL rfl rfl ?_
      refine AOps.sim okL rfl rfl ?_
      refine AOps.nil ?_
      refine seqQ_n ?_
      first | refine AWp.condCase rfl (fun h => ?_) (fun h => ?_) | refine AWp.cond rfl (fun h => ?_) (fun h => ?_)
      · have h := of_decide_eq_true h
        simp only [List.length_map] at h
        obtain ⟨y, hy⟩ : ∃ y, x.l[k]? = some y := ⟨x.l[k], by simp [show k < x.l.length by omega]⟩
        have nx := nxt (k := k) (n := x.l.length) (by omega) hlen
        rw [drop_get hy, nodeL] at hm
        have hc := IH y (List.mem_of_getElem? hy)
        refine AWp.skip ?_
        refine AWp.seq ?_
        refine AWp.block ?_
        refine AWp.seq ?_
        refine AWp.region ?_
        refine AOps.sim okL rfl rfl ?_
        refine AOps.pln ?_; refine AOp.load okL rfl (.head _) rfl rfl rfl rfl ?_
        refine AOps.sim okL rfl rfl ?_
        refine AOps.sim okL (sOp_idxD rfl rfl rfl rfl rfl (by omega) (getC hy) rfl) rfl ?_
        refine AOps.sim okL rfl rfl ?_
        refine AOps.pln ?_; refine AOp.alloc okL rfl rfl rfl ?_; intro _ _
        refine AOps.pln ?_; refine AOp.store okL rfl rfl rfl (isVal_or rfl) rfl rfl rfl .here rfl rfl rfl ?_
        refine AOps.nil ?_
        refine AWp.seq ?_
        refine AWp.region ?_
        refine AOps.pln ?_; refine AOp.load okL rfl (.head _) rfl rfl rfl rfl ?_
        refine AOps.sim okL rfl rfl ?_
        refine AOps.sim okL rfl rfl ?_
        refine AOps.sim okL rfl rfl ?_
        refine AOps.guardCase rfl rfl rfl (fun h => ?_) (fun h => ?_)
        · refine AOps.unw rfl rfl rfl rfl ?_
          refine AOps.unw rfl rfl rfl rfl ?_
          refine AOps.unw rfl rfl rfl rfl ?_
          refine AOps.sim okL rfl rfl ?_
          refine AOps.pln ?_; focus (refine AOp.callP (v := ?_) rfl rfl rfl ?_ ?_; rotate_left; exact (hc _ _))
          refine AOps.sim okL rfl rfl ?_
          refine AOps.sim okL rfl rfl ?_
          refine AOps.guardCase rfl rfl rfl (fun h => ?_) (fun h => ?_)
          · refine AOps.unw rfl rfl rfl rfl ?_
            refine AOps.unw rfl rfl rfl rfl ?_
            refine AOps.unw rfl rfl rfl rfl ?_
            refine AOps.unw rfl rfl rfl rfl ?_
            refine AOps.unwU rfl rfl rfl ?_
            refine AOps.unwU rfl rfl rfl ?_
            refine AOps.unwU rfl rfl rfl ?_
            refine AOps.unwU rfl rfl rfl ?_
            refine AOps.unwU rfl rfl rfl ?_
            refine AOps.unwU rfl rfl rfl ?_
            refine AOps.unwU rfl rfl rfl ?_
            refine AOps.unwU rfl rfl rfl ?_
            refine AOps.unw rfl rfl rfl rfl ?_
            refine AOps.sim okL rfl rfl ?_
            refine AOps.sim okL rfl rfl ?_
            refine AOps.unw rfl rfl rfl rfl ?_
            refine AOps.unw rfl rfl rfl rfl ?_
            refine AOps.unw rfl rfl rfl rfl ?_
            refine AOps.unw rfl rfl rfl rfl ?_
            refine AOps.unwU rfl rfl rfl ?_
            refine AOps.unwU rfl rfl rfl ?_
            refine AOps.unwU rfl rfl rfl ?_
            refine AOps.unw rfl rfl rfl rfl ?_
            refine AOps.sim okL rfl rfl ?_
            refine AOps.nil ?_
            refine AWp.condT rfl ?_
            refine AWp.seq ?_
            refine AWp.region ?_
            refine AOps.sim okL rfl rfl ?_
            refine AOps.nil ?_
            refine AWp.ret ?_
            refine blockQ_r ?_
            refine seqQ_r ?_
            refine seqQ_r ?_
            refine blockQ_r ?_
            refine seqQ_r ?_
            first | (refine bodyQ_r (ResOk.one rfl rfl) ?_; rw [hVV, ← hm]; clear ih IH hc hm hVV; simp_all [sideM]; done) | (refine AIn.nextN 1 (ih (k + 1) (⟨by omega, by rw [← hm]; clear ih IH hc hm hVV; simp_all [sideM]⟩) (by first | omega | (simp only; omega))) ?_ rfl; repeat (first | exact trivial | refine ⟨rfl, ?_⟩ | refine ⟨congrArg some nx, ?_⟩ | refine ⟨congrArg (fun v => some (A.int .i64 v)) (by skip), ?_⟩))
          · refine AOps.simW okL rfl rfl rfl rfl ?_
            refine AOps.wtd rfl rfl rfl ?_; refine AOp.load okL rfl (.tail _ (.head _)) rfl rfl rfl rfl ?_
            refine AOps.simW okL rfl rfl rfl rfl ?_
            refine AOps.simW okL rfl rfl rfl rfl ?_
            refine AOps.guardCase rfl rfl rfl (fun h => ?_) (fun h => ?_)
            · refine AOps.simW okL rfl rfl rfl rfl ?_
              refine AOps.wtd rfl rfl rfl ?_; refine AOp.load okL rfl (.head _) rfl rfl rfl rfl ?_
              refine AOps.simW okL rfl rfl rfl rfl ?_
              refine AOps.simW okL rfl rfl rfl rfl ?_
              refine AOps.guardCase rfl rfl rfl (fun h => ?_) (fun h => ?_)
              · refine AOps.unw rfl rfl rfl rfl ?_
                refine AOps.unw rfl rfl rfl rfl ?_
                refine AOps.unw rfl rfl rfl rfl ?_
                refine AOps.simW okL rfl rfl rfl rfl ?_
                refine AOps.simW okL rfl rfl rfl rfl ?_
                refine AOps.sim okL rfl rfl ?_
                refine AOps.sim okL rfl rfl ?_
                refine AOps.unw rfl rfl rfl rfl ?_
                refine AOps.unw rfl rfl rfl rfl ?_
                refine AOps.unw rfl rfl rfl rfl ?_
                refine AOps.unw rfl rfl rfl rfl ?_
                refine AOps.unwU rfl rfl rfl ?_
                refine AOps.unwU rfl rfl rfl ?_
                refine AOps.unwU rfl rfl rfl ?_
                refine AOps.unw rfl rfl rfl rfl ?_
                refine AOps.sim okL rfl rfl ?_
                refine AOps.nil ?_
                refine AWp.condT rfl ?_
                refine AWp.seq ?_
                refine AWp.region ?_
                refine AOps.sim okL rfl rfl ?_
                refine AOps.nil ?_
                refine AWp.ret ?_
                refine blockQ_r ?_
                refine seqQ_r ?_
                refine seqQ_r ?_
                refine blockQ_r ?_
                refine seqQ_r ?_
                first | (refine bodyQ_r (ResOk.one rfl rfl) ?_; rw [hVV, ← hm]; clear ih IH hc hm hVV; simp_all [sideM]; done) | (refine AIn.nextN 1 (ih (k + 1) (⟨by omega, by rw [← hm]; clear ih IH hc hm hVV; simp_all [sideM]⟩) (by first | omega | (simp only; omega))) ?_ rfl; repeat (first | exact trivial | refine ⟨rfl, ?_⟩ | refine ⟨congrArg some nx, ?_⟩ | refine ⟨congrArg (fun v => some (A.int .i64 v)) (by skip), ?_⟩))
              · refine AOps.simW okL rfl rfl rfl rfl ?_
                refine AOps.wtd rfl rfl rfl ?_; refine AOp.load okL rfl (.head _) rfl rfl rfl rfl ?_
                refine AOps.simW okL rfl rfl rfl rfl ?_
                refine AOps.simW okL rfl rfl rfl rfl ?_
                refine AOps.simW okL rfl rfl rfl rfl ?_
                refine AOps.sim okL rfl rfl ?_
                refine AOps.sim okL rfl rfl ?_
                refine AOps.guardCase rfl rfl rfl (fun h => ?_) (fun h => ?_)
                · refine AOps.unw rfl rfl rfl rfl ?_
                  refine AOps.unw rfl rfl rfl rfl ?_
                  refine AOps.unw rfl rfl rfl rfl ?_
                  refine AOps.unw rfl rfl rfl rfl ?_
                  refine AOps.unwU rfl rfl rfl ?_
                  refine AOps.unwU rfl rfl rfl ?_
                  refine AOps.unwU rfl rfl rfl ?_
                  refine AOps.unw rfl rfl rfl rfl ?_
                  refine AOps.sim okL rfl rfl ?_
                  refine AOps.nil ?_
                  refine AWp.condT rfl ?_
                  refine AWp.seq ?_
                  refine AWp.region ?_
                  refine AOps.sim okL rfl rfl ?_
                  refine AOps.nil ?_
                  refine AWp.ret ?_
                  refine blockQ_r ?_
                  refine seqQ_r ?_
                  refine seqQ_r ?_
                  refine blockQ_r ?_
                  refine seqQ_r ?_
                  first | (refine bodyQ_r (ResOk.one rfl rfl) ?_; rw [hVV, ← hm]; clear ih IH hc hm hVV; simp_all [sideM]; done) | (refine AIn.nextN 1 (ih (k + 1) (⟨by omega, by rw [← hm]; clear ih IH hc hm hVV; simp_all [sideM]⟩) (by first | omega | (simp only; omega))) ?_ rfl; repeat (first | exact trivial | refine ⟨rfl, ?_⟩ | refine ⟨congrArg some nx, ?_⟩ | refine ⟨congrArg (fun v => some (A.int .i64 v)) (by skip), ?_⟩))
                · refine AOps.simW okL rfl rfl rfl rfl ?_
                  refine AOps.wtd rfl rfl rfl ?_; refine AOp.load okL rfl (.tail _ (.head _)) rfl rfl rfl rfl ?_
                  refine AOps.simW okL rfl rfl rfl rfl ?_
                  refine AOps.simW okL rfl rfl rfl rfl ?_
                  refine AOps.guardCase rfl rfl rfl (fun h => ?_) (fun h => ?_)
                  · refine AOps.simW okL rfl rfl rfl rfl ?_
                    refine AOps.wtd rfl rfl rfl ?_; refine AOp.load okL rfl (.head _) rfl rfl rfl rfl ?_
                    refine AOps.simW okL rfl rfl rfl rfl ?_
                    refine AOps.simW okL rfl rfl rfl rfl ?_
                    refine AOps.sim okL rfl rfl ?_
                    refine AOps.nil ?_
                    refine seqQ_n ?_
                    refine AWp.condCase rfl (fun h => ?_) (fun h => ?_)
                    · refine AWp.seq ?_
                      refine AWp.region ?_
                      refine AOps.sim okL rfl rfl ?_
                      refine AOps.nil ?_
                      refine AWp.ret ?_
                      refine blockQ_r ?_
                      refine seqQ_r ?_
                      refine seqQ_r ?_
                      refine blockQ_r ?_
                      refine seqQ_r ?_
                      first | (refine bodyQ_r (ResOk.one rfl rfl) ?_; rw [hVV, ← hm]; clear ih IH hc hm hVV; simp_all [sideM]; done) | (refine AIn.nextN 1 (ih (k + 1) (⟨by omega, by rw [← hm]; clear ih IH hc hm hVV; simp_all [sideM]⟩) (by first | omega | (simp only; omega))) ?_ rfl; repeat (first | exact trivial | refine ⟨rfl, ?_⟩ | refine ⟨congrArg some nx, ?_⟩ | refine ⟨congrArg (fun v => some (A.int .i64 v)) (by skip), ?_⟩))
                    · refine AWp.skip ?_
                      refine AWp.region ?_
                      refine AOps.sim okL rfl rfl ?_
                      refine AOps.sim okL rfl rfl ?_
                      refine AOps.sim okL rfl rfl ?_
                      refine AOps.nil ?_
                      refine seqQ_n ?_
                      first | (refine bodyQ_r (ResOk.one rfl rfl) ?_; rw [hVV, ← hm]; clear ih IH hc hm hVV; simp_all [sideM]; done) | (refine AIn.nextN 1 (ih (k + 1) (⟨by omega, by rw [← hm]; clear ih IH hc hm hVV; simp_all [sideM]⟩) (by first | omega | (simp only; omega))) ?_ rfl; repeat (first | exact trivial | refine ⟨rfl, ?_⟩ | refine ⟨congrArg some nx, ?_⟩ | refine ⟨congrArg (fun v => some (A.int .i64 v)) (by skip), ?_⟩))
                  · refine AOps.unw rfl rfl rfl rfl ?_
                    refine AOps.unw rfl rfl rfl rfl ?_
                    refine AOps.unw rfl rfl rfl rfl ?_
                    refine AOps.simW okL rfl rfl rfl rfl ?_
                    refine AOps.sim okL rfl rfl ?_
                    refine AOps.nil ?_
                    refine AWp.condF rfl ?_
                    refine AWp.skip ?_
                    refine AWp.region ?_
                    refine AOps.sim okL rfl rfl ?_
                    refine AOps.sim okL rfl rfl ?_
                    refine AOps.sim okL rfl rfl ?_
                    refine AOps.nil ?_
                    refine seqQ_n ?_
                    first | (refine bodyQ_r (ResOk.one rfl rfl) ?_; rw [hVV, ← hm]; clear ih IH hc hm hVV; simp_all [sideM]; done) | (refine AIn.nextN 1 (ih (k + 1) (⟨by omega, by rw [← hm]; clear ih IH hc hm hVV; simp_all [sideM]⟩) (by first | omega | (simp only; omega))) ?_ rfl; repeat (first | exact trivial | refine ⟨rfl, ?_⟩ | refine ⟨congrArg some nx, ?_⟩ | refine ⟨congrArg (fun v => some (A.int .i64 v)) (by skip), ?_⟩))
            · refine AOps.unw rfl rfl rfl rfl ?_
              refine AOps.unw rfl rfl rfl rfl ?_
              refine AOps.unw rfl rfl rfl rfl ?_
              refine AOps.unw rfl rfl rfl rfl ?_
              refine AOps.unwU rfl rfl rfl ?_
              refine AOps.unwU rfl rfl rfl ?_
              refine AOps.unwU rfl rfl rfl ?_
              refine AOps.unw rfl rfl rfl rfl ?_
              refine AOps.simW okL rfl rfl rfl rfl ?_
              refine AOps.sim okL rfl rfl ?_
              refine AOps.sim okL rfl rfl ?_
              refine AOps.simW okL rfl rfl rfl rfl ?_
              refine AOps.wtd rfl rfl rfl ?_; refine AOp.load okL rfl (.tail _ (.head _)) rfl rfl rfl rfl ?_
              refine AOps.simW okL rfl rfl rfl rfl ?_
              refine AOps.simW okL rfl rfl rfl rfl ?_
              refine AOps.guardCase rfl rfl rfl (fun h => ?_) (fun h => ?_)
              · refine AOps.simW okL rfl rfl rfl rfl ?_
                refine AOps.wtd rfl rfl rfl ?_; refine AOp.load okL rfl (.head _) rfl rfl rfl rfl ?_
                refine AOps.simW okL rfl rfl rfl rfl ?_
                refine AOps.simW okL rfl rfl rfl rfl ?_
                refine AOps.sim okL rfl rfl ?_
                refine AOps.nil ?_
                refine seqQ_n ?_
                refine AWp.condCase rfl (fun h => ?_) (fun h => ?_)
                · refine AWp.seq ?_
                  refine AWp.region ?_
                  refine AOps.sim okL rfl rfl ?_
                  refine AOps.nil ?_
                  refine AWp.ret ?_
                  refine blockQ_r ?_
                  refine seqQ_r ?_
                  refine seqQ_r ?_
                  refine blockQ_r ?_
                  refine seqQ_r ?_
                  first | (refine bodyQ_r (ResOk.one rfl rfl) ?_; rw [hVV, ← hm]; clear ih IH hc hm hVV; simp_all [sideM]; done) | (refine AIn.nextN 1 (ih (k + 1) (⟨by omega, by rw [← hm]; clear ih IH hc hm hVV; simp_all [sideM]⟩) (by first | omega | (simp only; omega))) ?_ rfl; repeat (first | exact trivial | refine ⟨rfl, ?_⟩ | refine ⟨congrArg some nx, ?_⟩ | refine ⟨congrArg (fun v => some (A.int .i64 v)) (by skip), ?_⟩))
                · refine AWp.skip ?_
                  refine AWp.region ?_
                  refine AOps.sim okL rfl rfl ?_
                  refine AOps.sim okL rfl rfl ?_
                  refine AOps.sim okL rfl rfl ?_
                  refine AOps.nil ?_
                  refine seqQ_n ?_
                  first | (refine bodyQ_r (ResOk.one rfl rfl) ?_; rw [hVV, ← hm]; clear ih IH hc hm hVV; simp_all [sideM]; done) | (refine AIn.nextN 1 (ih (k + 1) (⟨by omega, by rw [← hm]; clear ih IH hc hm hVV; simp_all [sideM]⟩) (by first | omega | (simp only; omega))) ?_ rfl; repeat (first | exact trivial | refine ⟨rfl, ?_⟩ | refine ⟨congrArg some nx, ?_⟩ | refine ⟨congrArg (fun v => some (A.int .i64 v)) (by skip), ?_⟩))
              · refine AOps.unw rfl rfl rfl rfl ?_
                refine AOps.unw rfl rfl rfl rfl ?_
                refine AOps.unw rfl rfl rfl rfl ?_
                refine AOps.simW okL rfl rfl rfl rfl ?_
                refine AOps.sim okL rfl rfl ?_
                refine AOps.nil ?_
                refine AWp.condF rfl ?_
                refine AWp.skip ?_
                refine AWp.region ?_
                refine AOps.sim okL rfl rfl ?_
                refine AOps.sim okL rfl rfl ?_
                refine AOps.sim okL rfl rfl ?_
                refine AOps.nil ?_
                refine seqQ_n ?_
                first | (refine bodyQ_r (ResOk.one rfl rfl) ?_; rw [hVV, ← hm]; clear ih IH hc hm hVV; simp_all [sideM]; done) | (refine AIn.nextN 1 (ih (k + 1) (⟨by omega, by rw [← hm]; clear ih IH hc hm hVV; simp_all [sideM]⟩) (by first | omega | (simp only; omega))) ?_ rfl; repeat (first | exact trivial | refine ⟨rfl, ?_⟩ | refine ⟨congrArg some nx, ?_⟩ | refine ⟨congrArg (fun v => some (A.int .i64 v)) (by skip), ?_⟩))
        · refine AOps.simW okL rfl rfl rfl rfl ?_
          refine AOps.wtd rfl rfl rfl ?_; refine AOp.load okL rfl (.tail _ (.head _)) rfl rfl rfl rfl ?_
          refine AOps.simW okL rfl rfl rfl rfl ?_
          refine AOps.sim okL rfl rfl ?_
          refine AOps.pln ?_; focus (refine AOp.callP (v := ?_) rfl rfl rfl ?_ ?_; rotate_left; exact (hc _ _))
          refine AOps.sim okL rfl rfl ?_
          refine AOps.sim okL rfl rfl ?_
          refine AOps.guardCase rfl rfl rfl (fun h => ?_) (fun h => ?_)
          · refine AOps.unw rfl rfl rfl rfl ?_
            refine AOps.unw rfl rfl rfl rfl ?_
            refine AOps.unw rfl rfl rfl rfl ?_
            refine AOps.unw rfl rfl rfl rfl ?_
            refine AOps.unwU rfl rfl rfl ?_
            refine AOps.unwU rfl rfl rfl ?_
            refine AOps.unwU rfl rfl rfl ?_
            refine AOps.unwU rfl rfl rfl ?_
            refine AOps.unwU rfl rfl rfl ?_
            refine AOps.unwU rfl rfl rfl ?_
            refine AOps.unwU rfl rfl rfl ?_
            refine AOps.unwU rfl rfl rfl ?_
            refine AOps.unw rfl rfl rfl rfl ?_
            refine AOps.sim okL rfl rfl ?_
            refine AOps.sim okL rfl rfl ?_
            refine AOps.unw rfl rfl rfl rfl ?_
            refine AOps.unw rfl rfl rfl rfl ?_
            refine AOps.unw rfl rfl rfl rfl ?_
            refine AOps.unw rfl rfl rfl rfl ?_
            refine AOps.unwU rfl rfl rfl ?_
            refine AOps.unwU rfl rfl rfl ?_
            refine AOps.unwU rfl rfl rfl ?_
            refine AOps.unw rfl rfl rfl rfl ?_
            refine AOps.sim okL rfl rfl ?_
            refine AOps.nil ?_
            refine AWp.condT rfl ?_
            refine AWp.seq ?_
            refine AWp.region ?_
            refine AOps.sim okL rfl rfl ?_
            refine AOps.nil ?_
            refine AWp.ret ?_
            refine blockQ_r ?_
            refine seqQ_r ?_
            refine seqQ_r ?_
            refine blockQ_r ?_
            refine seqQ_r ?_
            first | (refine bodyQ_r (ResOk.one rfl rfl) ?_; rw [hVV, ← hm]; clear ih IH hc hm hVV; simp_all [sideM]; done) | (refine AIn.nextN 1 (ih (k + 1) (⟨by omega, by rw [← hm]; clear ih IH hc hm hVV; simp_all [sideM]⟩) (by first | omega | (simp only; omega))) ?_ rfl; repeat (first | exact trivial | refine ⟨rfl, ?_⟩ | refine ⟨congrArg some nx, ?_⟩ | refine ⟨congrArg (fun v => some (A.int .i64 v)) (by skip), ?_⟩))
          · refine AOps.simW okL rfl rfl rfl rfl ?_
            refine AOps.wtd rfl rfl rfl ?_; refine AOp.load okL rfl (.tail _ (.head _)) rfl rfl rfl rfl ?_
            refine AOps.simW okL rfl rfl rfl rfl ?_
            refine AOps.simW okL rfl rfl rfl rfl ?_
            refine AOps.guardCase rfl rfl rfl (fun h => ?_) (fun h => ?_)
            · refine AOps.simW okL rfl rfl rfl rfl ?_
              refine AOps.wtd rfl rfl rfl ?_; refine AOp.load okL rfl (.head _) rfl rfl rfl rfl ?_
              refine AOps.simW okL rfl rfl rfl rfl ?_
              refine AOps.simW okL rfl rfl rfl rfl ?_
              refine AOps.guardCase rfl rfl rfl (fun h => ?_) (fun h => ?_)
              · refine AOps.unw rfl rfl rfl rfl ?_
                refine AOps.unw rfl rfl rfl rfl ?_
                refine AOps.unw rfl rfl rfl rfl ?_
                refine AOps.simW okL rfl rfl rfl rfl ?_
                refine AOps.simW okL rfl rfl rfl rfl ?_
                refine AOps.sim okL rfl rfl ?_
                refine AOps.sim okL rfl rfl ?_
                refine AOps.unw rfl rfl rfl rfl ?_
                refine AOps.unw rfl rfl rfl rfl ?_
                refine AOps.unw rfl rfl rfl rfl ?_
                refine AOps.unw rfl rfl rfl rfl ?_
                refine AOps.unwU rfl rfl rfl ?_
                refine AOps.unwU rfl rfl rfl ?_
                refine AOps.unwU rfl rfl rfl ?_
                refine AOps.unw rfl rfl rfl rfl ?_
                refine AOps.sim okL rfl rfl ?_
                refine AOps.nil ?_
                refine AWp.condT rfl ?_
                refine AWp.seq ?_
                refine AWp.region ?_
                refine AOps.sim okL rfl rfl ?_
                refine AOps.nil ?_
                refine AWp.ret ?_
                refine blockQ_r ?_
                refine seqQ_r ?_
                refine seqQ_r ?_
                refine blockQ_r ?_
                refine seqQ_r ?_
                first | (refine bodyQ_r (ResOk.one rfl rfl) ?_; rw [hVV, ← hm]; clear ih IH hc hm hVV; simp_all [sideM]; done) | (refine AIn.nextN 1 (ih (k + 1) (⟨by omega, by rw [← hm]; clear ih IH hc hm hVV; simp_all [sideM]⟩) (by first | omega | (simp only; omega))) ?_ rfl; repeat (first | exact trivial | refine ⟨rfl, ?_⟩ | refine ⟨congrArg some nx, ?_⟩ | refine ⟨congrArg (fun v => some (A.int .i64 v)) (by skip), ?_⟩))
              · refine AOps.simW okL rfl rfl rfl rfl ?_
                refine AOps.wtd rfl rfl rfl ?_; refine AOp.load okL rfl (.head _) rfl rfl rfl rfl ?_
                refine AOps.simW okL rfl rfl rfl rfl ?_
                refine AOps.simW okL rfl rfl rfl rfl ?_
                refine AOps.simW okL rfl rfl rfl rfl ?_
                refine AOps.sim okL rfl rfl ?_
                refine AOps.sim okL rfl rfl ?_
                refine AOps.guardCase rfl rfl rfl (fun h => ?_) (fun h => ?_)
                · refine AOps.unw rfl rfl rfl rfl ?_
                  refine AOps.unw rfl rfl rfl rfl ?_
                  refine AOps.unw rfl rfl rfl rfl ?_
                  refine AOps.unw rfl rfl rfl rfl ?_
                  refine AOps.unwU rfl rfl rfl ?_
                  refine AOps.unwU rfl rfl rfl ?_
                  refine AOps.unwU rfl rfl rfl ?_
                  refine AOps.unw rfl rfl rfl rfl ?_
                  refine AOps.sim okL rfl rfl ?_
                  refine AOps.nil ?_
                  refine AWp.condT rfl ?_
                  refine AWp.seq ?_
                  refine AWp.region ?_
                  refine AOps.sim okL rfl rfl ?_
                  refine AOps.nil ?_
                  refine AWp.ret ?_
                  refine blockQ_r ?_
                  refine seqQ_r ?_
                  refine seqQ_r ?_
                  refine blockQ_r ?_
                  refine seqQ_r ?_
                  first | (refine bodyQ_r (ResOk.one rfl rfl) ?_; rw [hVV, ← hm]; clear ih IH hc hm hVV; simp_all [sideM]; done) | (refine AIn.nextN 1 (ih (k + 1) (⟨by omega, by rw [← hm]; clear ih IH hc hm hVV; simp_all [sideM]⟩) (by first | omega | (simp only; omega))) ?_ rfl; repeat (first | exact trivial | refine ⟨rfl, ?_⟩ | refine ⟨congrArg some nx, ?_⟩ | refine ⟨congrArg (fun v => some (A.int .i64 v)) (by skip), ?_⟩))
                · refine AOps.simW okL rfl rfl rfl rfl ?_
                  refine AOps.wtd rfl rfl rfl ?_; refine AOp.load okL rfl (.tail _ (.head _)) rfl rfl rfl rfl ?_
                  refine AOps.simW okL rfl rfl rfl rfl ?_
                  refine AOps.simW okL rfl rfl rfl rfl ?_
                  refine AOps.guardCase rfl rfl rfl (fun h => ?_) (fun h => ?_)
                  · refine AOps.simW okL rfl rfl rfl rfl ?_
                    refine AOps.wtd rfl rfl rfl ?_; refine AOp.load okL rfl (.head _) rfl rfl rfl rfl ?_
                    refine AOps.simW okL rfl rfl rfl rfl ?_
                    refine AOps.simW okL rfl rfl rfl rfl ?_
                    refine AOps.sim okL rfl rfl ?_
                    refine AOps.nil ?_
                    refine seqQ_n ?_
                    refine AWp.condCase rfl (fun h => ?_) (fun h => ?_)
                    · refine AWp.seq ?_
                      refine AWp.region ?_
                      refine AOps.sim okL rfl rfl ?_
                      refine AOps.nil ?_
                      refine AWp.ret ?_
                      refine blockQ_r ?_
                      refine seqQ_r ?_
                      refine seqQ_r ?_
                      refine blockQ_r ?_
                      refine seqQ_r ?_
                      first | (refine bodyQ_r (ResOk.one rfl rfl) ?_; rw [hVV, ← hm]; clear ih IH hc hm hVV; simp_all [sideM]; done) | (refine AIn.nextN 1 (ih (k + 1) (⟨by omega, by rw [← hm]; clear ih IH hc hm hVV; simp_all [sideM]⟩) (by first | omega | (simp only; omega))) ?_ rfl; repeat (first | exact trivial | refine ⟨rfl, ?_⟩ | refine ⟨congrArg some nx, ?_⟩ | refine ⟨congrArg (fun v => some (A.int .i64 v)) (by skip), ?_⟩))
                    · refine AWp.skip ?_
                      refine AWp.region ?_
                      refine AOps.sim okL rfl rfl ?_
                      refine AOps.sim okL rfl rfl ?_
                      refine AOps.sim okL rfl rfl ?_
                      refine AOps.nil ?_
                      refine seqQ_n ?_
                      first | (refine bodyQ_r (ResOk.one rfl rfl) ?_; rw [hVV, ← hm]; clear ih IH hc hm hVV; simp_all [sideM]; done) | (refine AIn.nextN 1 (ih (k + 1) (⟨by omega, by rw [← hm]; clear ih IH hc hm hVV; simp_all [sideM]⟩) (by first | omega | (simp only; omega))) ?_ rfl; repeat (first | exact trivial | refine ⟨rfl, ?_⟩ | refine ⟨congrArg some nx, ?_⟩ | refine ⟨congrArg (fun v => some (A.int .i64 v)) (by skip), ?_⟩))
                  · refine AOps.unw rfl rfl rfl rfl ?_
                    refine AOps.unw rfl rfl rfl rfl ?_
                    refine AOps.unw rfl rfl rfl rfl ?_
                    refine AOps.simW okL rfl rfl rfl rfl ?_
                    refine AOps.sim okL rfl rfl ?_
                    refine AOps.nil ?_
                    refine AWp.condF rfl ?_
                    refine AWp.skip ?_
                    refine AWp.region ?_
                    refine AOps.sim okL rfl rfl ?_
                    refine AOps.sim okL rfl rfl ?_
                    refine AOps.sim okL rfl rfl ?_
                    refine AOps.nil ?_
                    refine seqQ_n ?_
                    first | (refine bodyQ_r (ResOk.one rfl rfl) ?_; rw [hVV, ← hm]; clear ih IH hc hm hVV; simp_all [sideM]; done) | (refine AIn.nextN 1 (ih (k + 1) (⟨by omega, by rw [← hm]; clear ih IH hc hm hVV; simp_all [sideM]⟩) (by first | omega | (simp only; omega))) ?_ rfl; repeat (first | exact trivial | refine ⟨rfl, ?_⟩ | refine ⟨congrArg some nx, ?_⟩ | refine ⟨congrArg (fun v => some (A.int .i64 v)) (by skip), ?_⟩))
            · refine AOps.unw rfl rfl rfl rfl ?_
              refine AOps.unw rfl rfl rfl rfl ?_
              refine AOps.unw rfl rfl rfl rfl ?_
              refine AOps.unw rfl rfl rfl rfl ?_
              refine AOps.unwU rfl rfl rfl ?_
              refine AOps.unwU rfl rfl rfl ?_
              refine AOps.unwU rfl rfl rfl ?_
              refine AOps.unw rfl rfl rfl rfl ?_
              refine AOps.simW okL rfl rfl rfl rfl ?_
              refine AOps.sim okL rfl rfl ?_
              refine AOps.sim okL rfl rfl ?_
              refine AOps.simW okL rfl rfl rfl rfl ?_
              refine AOps.wtd rfl rfl rfl ?_; refine AOp.load okL rfl (.tail _ (.head _)) rfl rfl rfl rfl ?_
              refine AOps.simW okL rfl rfl rfl rfl ?_
              refine AOps.simW okL rfl rfl rfl rfl ?_
              refine AOps.guardCase rfl rfl rfl (fun h => ?_) (fun h => ?_)
              · refine AOps.simW okL rfl rfl rfl rfl ?_
                refine AOps.wtd rfl rfl rfl ?_; refine AOp.load okL rfl (.head _) rfl rfl rfl rfl ?_
                refine AOps.simW okL rfl rfl rfl rfl ?_
                refine AOps.simW okL rfl rfl rfl rfl ?_
                refine AOps.sim okL rfl rfl ?_
                refine AOps.nil ?_
                refine seqQ_n ?_
                refine AWp.condCase rfl (fun h => ?_) (fun h => ?_)
                · refine AWp.seq ?_
                  refine AWp.region ?_
                  refine AOps.sim okL rfl rfl ?_
                  refine AOps.nil ?_
                  refine AWp.ret ?_
                  refine blockQ_r ?_
                  refine seqQ_r ?_
                  refine seqQ_r ?_
                  refine blockQ_r ?_
                  refine seqQ_r ?_
                  first | (refine bodyQ_r (ResOk.one rfl rfl) ?_; rw [hVV, ← hm]; clear ih IH hc hm hVV; simp_all [sideM]; done) | (refine AIn.nextN 1 (ih (k + 1) (⟨by omega, by rw [← hm]; clear ih IH hc hm hVV; simp_all [sideM]⟩) (by first | omega | (simp only; omega))) ?_ rfl; repeat (first | exact trivial | refine ⟨rfl, ?_⟩ | refine ⟨congrArg some nx, ?_⟩ | refine ⟨congrArg (fun v => some (A.int .i64 v)) (by skip), ?_⟩))
                · refine AWp.skip ?_
                  refine AWp.region ?_
                  refine AOps.sim okL rfl rfl ?_
                  refine AOps.sim okL rfl rfl ?_
                  refine AOps.sim okL rfl rfl ?_
                  refine AOps.nil ?_
                  refine seqQ_n ?_
                  first | (refine bodyQ_r (ResOk.one rfl rfl) ?_; rw [hVV, ← hm]; clear ih IH hc hm hVV; simp_all [sideM]; done) | (refine AIn.nextN 1 (ih (k + 1) (⟨by omega, by rw [← hm]; clear ih IH hc hm hVV; simp_all [sideM]⟩) (by first | omega | (simp only; omega))) ?_ rfl; repeat (first | exact trivial | refine ⟨rfl, ?_⟩ | refine ⟨congrArg some nx, ?_⟩ | refine ⟨congrArg (fun v => some (A.int .i64 v)) (by skip), ?_⟩))
              · refine AOps.unw rfl rfl rfl rfl ?_
                refine AOps.unw rfl rfl rfl rfl ?_
                refine AOps.unw rfl rfl rfl rfl ?_
                refine AOps.simW okL rfl rfl rfl rfl ?_
                refine AOps.sim okL rfl rfl ?_
                refine AOps.nil ?_
                refine AWp.condF rfl ?_
                refine AWp.skip ?_
                refine AWp.region ?_
                refine AOps.sim okL rfl rfl ?_
                refine AOps.sim okL rfl rfl ?_
                refine AOps.sim okL rfl rfl ?_
                refine AOps.nil ?_
                refine seqQ_n ?_
                first | (refine bodyQ_r (ResOk.one rfl rfl) ?_; rw [hVV, ← hm]; clear ih IH hc hm hVV; simp_all [sideM]; done) | (refine AIn.nextN 1 (ih (k + 1) (⟨by omega, by rw [← hm]; clear ih IH hc hm hVV; simp_all [sideM]⟩) (by first | omega | (simp only; omega))) ?_ rfl; repeat (first | exact trivial | refine ⟨rfl, ?_⟩ | refine ⟨congrArg some nx, ?_⟩ | refine ⟨congrArg (fun v => some (A.int .i64 v)) (by skip), ?_⟩))
      · have h := of_decide_eq_false h
        simp only [List.length_map] at h
        rw [List.drop_eq_nil_of_le (by omega), nodeL] at hm
        have hV : nodeV fx x g kk = nodeE fx x := by rw [hVV, ← hm]; simp
        cases hxl : x.l with
        | nil =>
          refine AWp.exit ?_
          refine AWp.seq ?_
          refine AWp.region ?_
          refine AOps.sim okL rfl rfl ?_
          refine AOps.pln ?_; refine AOp.load okL rfl (.head _) rfl rfl rfl rfl ?_
          refine AOps.sim okL rfl rfl ?_
          refine AOps.sim okL rfl rfl ?_
          refine AOps.guardCase rfl rfl rfl (fun h => ?_) (fun h => ?_)
          · refine AOps.unw rfl rfl rfl rfl ?_
            refine AOps.unw rfl rfl rfl rfl ?_
            refine AOps.unw rfl rfl rfl rfl ?_
            refine AOps.sim okL rfl rfl ?_
            refine AOps.sim okL rfl rfl ?_
            refine AOps.unw rfl rfl rfl rfl ?_
            refine AOps.unw rfl rfl rfl rfl ?_
            refine AOps.unw rfl rfl rfl rfl ?_
            refine AOps.unw rfl rfl rfl rfl ?_
            refine AOps.unw rfl rfl rfl rfl ?_
            refine AOps.sim okL rfl rfl ?_
            refine AOps.sim okL rfl rfl ?_
            refine AOps.nil ?_
            refine AWp.ret ?_
            first | (refine bodyQ_r (ResOk.one rfl rfl) ?_; rw [hV]; clear ih IH; first | (simp_all [nodeE]; done) | (simp_all [nodeE]; intro _; exfalso; omega)) | (exfalso; clear ih IH; simp_all [nodeA, partsM, wiM]; done)
          · refine AOps.simW okL rfl rfl rfl rfl ?_
            refine AOps.wtd rfl rfl rfl ?_; refine AOp.load okL rfl (.head _) rfl rfl rfl rfl ?_
            refine AOps.simW okL rfl rfl rfl rfl ?_
            refine AOps.sim okL rfl rfl ?_
            refine AOps.sim okL rfl rfl ?_
            refine AOps.guardCase rfl rfl rfl (fun h => ?_) (fun h => ?_)
            · refine AOps.unw rfl rfl rfl rfl ?_
              refine AOps.unw rfl rfl rfl rfl ?_
              refine AOps.unw rfl rfl rfl rfl ?_
              refine AOps.unw rfl rfl rfl rfl ?_
              refine AOps.unw rfl rfl rfl rfl ?_
              refine AOps.sim okL rfl rfl ?_
              refine AOps.sim okL rfl rfl ?_
              refine AOps.nil ?_
              refine AWp.ret ?_
              first | (refine bodyQ_r (ResOk.one rfl rfl) ?_; rw [hV]; clear ih IH; first | (simp_all [nodeE]; done) | (simp_all [nodeE]; intro _; exfalso; omega)) | (exfalso; clear ih IH; simp_all [nodeA, partsM, wiM]; done)
            · refine AOps.simW okL rfl rfl rfl rfl ?_
              refine AOps.wtd rfl rfl rfl ?_; refine AOp.load okL rfl (.head _) rfl rfl rfl rfl ?_
              refine AOps.guardCase rfl rfl rfl (fun h => ?_) (fun h => ?_)
              · refine AOps.unw rfl rfl rfl rfl ?_
                refine AOps.unw rfl rfl rfl rfl ?_
                refine AOps.unw rfl rfl rfl rfl ?_
                refine AOps.sim okL rfl rfl ?_
                refine AOps.sim okL rfl rfl ?_
                refine AOps.nil ?_
                refine AWp.ret ?_
                first | (refine bodyQ_r (ResOk.one rfl rfl) ?_; rw [hV]; clear ih IH; first | (simp_all [nodeE]; done) | (simp_all [nodeE]; intro _; exfalso; omega)) | (exfalso; clear ih IH; simp_all [nodeA, partsM, wiM]; done)
              · refine AOps.guardCase rfl rfl rfl (fun h => ?_) (fun h => ?_)
                · refine AOps.unw rfl rfl rfl rfl ?_
                  refine AOps.unw rfl rfl rfl rfl ?_
                  refine AOps.unw rfl rfl rfl rfl ?_
                  refine AOps.sim okL rfl rfl ?_
                  refine AOps.sim okL rfl rfl ?_
                  refine AOps.nil ?_
                  refine AWp.ret ?_
                  first | (refine bodyQ_r (ResOk.one rfl rfl) ?_; rw [hV]; clear ih IH; first | (simp_all [nodeE]; done) | (simp_all [nodeE]; intro _; exfalso; omega)) | (exfalso; clear ih IH; simp_all [nodeA, partsM, wiM]; done)
                · refine AOps.guardCase rfl rfl rfl (fun h => ?_) (fun h => ?_)
                  · refine AOps.unw rfl rfl rfl rfl ?_
                    refine AOps.unw rfl rfl rfl rfl ?_
                    refine AOps.unw rfl rfl rfl rfl ?_
                    refine AOps.sim okL rfl rfl ?_
                    refine AOps.sim okL rfl rfl ?_
                    refine AOps.nil ?_
                    refine AWp.ret ?_
                    first | (refine bodyQ_r (ResOk.one rfl rfl) ?_; rw [hV]; clear ih IH; first | (simp_all [nodeE]; done) | (simp_all [nodeE]; intro _; exfalso; omega)) | (exfalso; clear ih IH; simp_all [nodeA, partsM, wiM]; done)
                  · refine AOps.guardCase rfl rfl rfl (fun h => ?_) (fun h => ?_)
                    · refine AOps.unw rfl rfl rfl rfl ?_
                      refine AOps.unw rfl rfl rfl rfl ?_
                      refine AOps.unw rfl rfl rfl rfl ?_
                      refine AOps.sim okL rfl rfl ?_
                      refine AOps.sim okL rfl rfl ?_
                      refine AOps.nil ?_
                      refine AWp.ret ?_
                      first | (refine bodyQ_r (ResOk.one rfl rfl) ?_; rw [hV]; clear ih IH; first | (simp_all [nodeE]; done) | (simp_all [nodeE]; intro _; exfalso; omega)) | (exfalso; clear ih IH; simp_all [nodeA, partsM, wiM]; done)
                    · refine AOps.guardCase rfl rfl rfl (fun h => ?_) (fun h => ?_)
                      · refine AOps.unw rfl rfl rfl rfl ?_
                        refine AOps.unw rfl rfl rfl rfl ?_
                        refine AOps.unw rfl rfl rfl rfl ?_
                        refine AOps.sim okL rfl rfl ?_
                        refine AOps.sim okL rfl rfl ?_
                        refine AOps.nil ?_
                        refine AWp.ret ?_
                        first | (refine bodyQ_r (ResOk.one rfl rfl) ?_; rw [hV]; clear ih IH; first | (simp_all [nodeE]; done) | (simp_all [nodeE]; intro _; exfalso; omega)) | (exfalso; clear ih IH; simp_all [nodeA, partsM, wiM]; done)
                      · refine AOps.guardCase rfl rfl rfl (fun h => ?_) (fun h => ?_)
                        · refine AOps.unw rfl rfl rfl rfl ?_
                          refine AOps.unw rfl rfl rfl rfl ?_
                          refine AOps.unw rfl rfl rfl rfl ?_
                          refine AOps.sim okL rfl rfl ?_
                          refine AOps.sim okL rfl rfl ?_
                          refine AOps.nil ?_
                          refine AWp.ret ?_
                          first | (refine bodyQ_r (ResOk.one rfl rfl) ?_; rw [hV]; clear ih IH; first | (simp_all [nodeE]; done) | (simp_all [nodeE]; intro _; exfalso; omega)) | (exfalso; clear ih IH; simp_all [nodeA, partsM, wiM]; done)
                        · first | (refine bodyQ_r (ResOk.one rfl rfl) ?_; rw [hV]; clear ih IH; first | (simp_all [nodeE]; done) | (simp_all [nodeE]; intro _; exfalso; omega)) | (exfalso; clear ih IH; simp_all [nodeA, partsM, wiM]; done)
        | cons y0 l0 =>
          have hg : x.l[0]? = some y0 := by rw [hxl]; rfl
          have hS : Sh y0 := nodeV_Sh y0 (nodeL_mem hm.symm y0 (by rw [hxl]; exact List.mem_cons_self)).1
          refine AWp.exit ?_
          refine AWp.seq ?_
          refine AWp.region ?_
          refine AOps.sim okL rfl rfl ?_
          refine AOps.pln ?_; refine AOp.load okL rfl (.head _) rfl rfl rfl rfl ?_
          refine AOps.sim okL rfl rfl ?_
          refine AOps.sim okL rfl rfl ?_
          refine AOps.guardCase rfl rfl rfl (fun h => ?_) (fun h => ?_)
          · refine AOps.unw rfl rfl rfl rfl ?_
            refine AOps.unw rfl rfl rfl rfl ?_
            refine AOps.unw rfl rfl rfl rfl ?_
            refine AOps.sim okL rfl rfl ?_
            refine AOps.sim okL rfl rfl ?_
            refine AOps.unw rfl rfl rfl rfl ?_
            refine AOps.unw rfl rfl rfl rfl ?_
            refine AOps.unw rfl rfl rfl rfl ?_
            refine AOps.unw rfl rfl rfl rfl ?_
            refine AOps.unw rfl rfl rfl rfl ?_
            refine AOps.sim okL rfl rfl ?_
            refine AOps.sim okL rfl rfl ?_
            refine AOps.nil ?_
            refine AWp.ret ?_
            (refine bodyQ_r (ResOk.one rfl rfl) ?_; rw [hV]; clear ih IH; first | (simp_all [nodeE]; done) | (simp_all [nodeE]; intro _; exfalso; omega))
          · refine AOps.simW okL rfl rfl rfl rfl ?_
            refine AOps.wtd rfl rfl rfl ?_; refine AOp.load okL rfl (.head _) rfl rfl rfl rfl ?_
            refine AOps.simW okL rfl rfl rfl rfl ?_
            refine AOps.sim okL rfl rfl ?_
            refine AOps.sim okL rfl rfl ?_
            refine AOps.guardCase rfl rfl rfl (fun h => ?_) (fun h => ?_)
            · refine AOps.unw rfl rfl rfl rfl ?_
              refine AOps.unw rfl rfl rfl rfl ?_
              refine AOps.unw rfl rfl rfl rfl ?_
              refine AOps.unw rfl rfl rfl rfl ?_
              refine AOps.unw rfl rfl rfl rfl ?_
              refine AOps.sim okL rfl rfl ?_
              refine AOps.sim okL rfl rfl ?_
              refine AOps.nil ?_
              refine AWp.ret ?_
              (refine bodyQ_r (ResOk.one rfl rfl) ?_; rw [hV]; clear ih IH; first | (simp_all [nodeE]; done) | (simp_all [nodeE]; intro _; exfalso; omega))
            · refine AOps.simW okL rfl rfl rfl rfl ?_
              refine AOps.wtd rfl rfl rfl ?_; refine AOp.load okL rfl (.head _) rfl rfl rfl rfl ?_
              refine AOps.simW okL rfl rfl (sOp_idxD rfl rfl rfl rfl rfl (Int.le_refl _) (getC hg) rfl) rfl ?_
              refine AOps.simW okL rfl rfl rfl rfl ?_
              refine AOps.wtd rfl rfl rfl ?_; focus (refine AOp.callP (v := ?_) rfl rfl rfl ?_ ?_; rotate_left; exact (hF y0 hS))
              refine AOps.sim okL rfl rfl ?_
              refine AOps.sim okL rfl rfl ?_
              refine AOps.nil ?_
              refine AWp.ret ?_
              (refine bodyQ_r (ResOk.one rfl rfl) ?_; rw [hV]; clear ih IH; first | (simp_all [nodeE]; done) | (simp_all [nodeE]; intro _; exfalso; omega))
    · refine AWp.seq ?_
      refine AWp.region ?_
      refine AOps.sim okL rfl rfl ?_
      refine AOps.pln ?_; refine AOp.load okL rfl (.head _) rfl rfl rfl rfl ?_
      refine AOps.sim okL rfl rfl ?_
      refine AOps.sim okL rfl rfl ?_
      refine AOps.guardCase rfl rfl rfl (fun h => ?_) (fun h => ?_)
      · refine AOps.simW okL rfl rfl rfl rfl ?_
        refine AOps.wtd rfl rfl rfl ?_; refine AOp.load okL rfl (.head _) rfl rfl rfl rfl ?_
        refine AOps.simW okL rfl rfl rfl rfl ?_
        refine AOps.sim okL rfl rfl ?_
        refine AOps.sim okL rfl rfl ?_
        refine AOps.guardCase rfl rfl rfl (fun h => ?_) (fun h => ?_)
        · refine AOps.unw rfl rfl rfl rfl ?_
          refine AOps.unw rfl rfl rfl rfl ?_
          refine AOps.unw rfl rfl rfl rfl ?_
          refine AOps.unw rfl rfl rfl rfl ?_
          refine AOps.unwU rfl rfl rfl ?_
          refine AOps.unwU rfl rfl rfl ?_
          refine AOps.unwU rfl rfl rfl ?_
          refine AOps.unw rfl rfl rfl rfl ?_
          refine AOps.unw rfl rfl rfl rfl ?_
          refine AOps.unwU rfl rfl rfl ?_
          refine AOps.unwU rfl rfl rfl ?_
          refine AOps.unwU rfl rfl rfl ?_
          refine AOps.unwU rfl rfl rfl ?_
          refine AOps.unw rfl rfl rfl rfl ?_
          refine AOps.sim okL rfl rfl ?_
          refine AOps.sim okL rfl rfl ?_
          refine AOps.unw rfl rfl rfl rfl ?_
          refine AOps.unw rfl rfl rfl rfl ?_
          refine AOps.unw rfl rfl rfl rfl ?_
          refine AOps.unw rfl rfl rfl rfl ?_
          refine AOps.unwU rfl rfl rfl ?_
          refine AOps.unwU rfl rfl rfl ?_
          refine AOps.unwU rfl rfl rfl ?_
          refine AOps.unwU rfl rfl rfl ?_
          refine AOps.unw rfl rfl rfl rfl ?_
          refine AOps.sim okL rfl rfl ?_
          refine AOps.sim okL rfl rfl ?_
          refine AOps.unw rfl rfl rfl rfl ?_
          refine AOps.unw rfl rfl rfl rfl ?_
          refine AOps.unw rfl rfl rfl rfl ?_
          refine AOps.unw rfl rfl rfl rfl ?_
          refine AOps.unwU rfl rfl rfl ?_
          refine AOps.unwU rfl rfl rfl ?_
          refine AOps.unwU rfl rfl rfl ?_
          refine AOps.unwU rfl rfl rfl ?_
          refine AOps.unw rfl rfl rfl rfl ?_
          refine AOps.sim okL rfl rfl ?_
          refine AOps.sim okL rfl rfl ?_
          refine AOps.unw rfl rfl rfl rfl ?_
          refine AOps.unw rfl rfl rfl rfl ?_
          refine AOps.unw rfl rfl rfl rfl ?_
          refine AOps.unw rfl rfl rfl rfl ?_
          refine AOps.unwU rfl rfl rfl ?_
          refine AOps.unw rfl rfl rfl rfl ?_
          refine AOps.sim okL rfl rfl ?_
          refine AOps.nil ?_
          refine AWp.condT rfl ?_
          refine AWp.seq ?_
          refine AWp.region ?_
          refine AOps.sim okL rfl rfl ?_
          refine AOps.nil ?_
          refine AWp.ret ?_
          first | (refine hR _ _ _ (by intro h; cases h) ?_; refine bodyQ_r (ResOk.one rfl rfl) ?_; clear K hR IH; rw [nodeV_eq]; simp_all [nodeB]; done) | (refine K () ?_ 0 _ _ ⟨rfl, rfl, rfl, trivial⟩ rfl; clear K hR IH; simp_all [nodeB]; done)
        · refine AOps.simW okL rfl rfl rfl rfl ?_
          refine AOps.wtd rfl rfl rfl ?_; refine AOp.load okL rfl (.head _) rfl rfl rfl rfl ?_
          refine AOps.simW okL rfl rfl rfl rfl ?_
          refine AOps.simW okL rfl rfl rfl rfl ?_
          refine AOps.guardCase rfl rfl rfl (fun h => ?_) (fun h => ?_)
          · exfalso; clear K hR IH; simp_all; done
          · refine AOps.unw rfl rfl rfl rfl ?_
            refine AOps.unw rfl rfl rfl rfl ?_
            refine AOps.unw rfl rfl rfl rfl ?_
            refine AOps.simW okL rfl rfl rfl rfl ?_
            refine AOps.simW okL rfl rfl rfl rfl ?_
            refine AOps.unw rfl rfl rfl rfl ?_
            refine AOps.unw rfl rfl rfl rfl ?_
            refine AOps.unw rfl rfl rfl rfl ?_
            refine AOps.unw rfl rfl rfl rfl ?_
            refine AOps.simW okL rfl rfl rfl rfl ?_
            refine AOps.sim okL rfl rfl ?_
            refine AOps.sim okL rfl rfl ?_
            refine AOps.simW okL rfl rfl rfl rfl ?_
            refine AOps.wtd rfl rfl rfl ?_; refine AOp.load okL rfl (.head _) rfl rfl rfl rfl ?_
            refine AOps.simW okL rfl rfl rfl rfl ?_
            refine AOps.simW okL rfl rfl rfl rfl ?_
            refine AOps.guardCase rfl rfl rfl (fun h => ?_) (fun h => ?_)
            · refine AOps.simW okL rfl rfl rfl rfl ?_
              refine AOps.wtd rfl rfl rfl ?_; refine AOp.load okL rfl (.head _) rfl rfl rfl rfl ?_
              refine AOps.wtd rfl rfl rfl ?_; focus (refine AOp.callP (v := ?_) rfl rfl rfl ?_ ?_; rotate_left; exact (refIsSet_tr _))
              refine AOps.simW okL rfl rfl rfl rfl ?_
              refine AOps.simW okL rfl rfl rfl rfl ?_
              refine AOps.sim okL rfl rfl ?_
              refine AOps.sim okL rfl rfl ?_
              refine AOps.guardCase rfl rfl rfl (fun h => ?_) (fun h => ?_)
              · refine AOps.unw rfl rfl rfl rfl ?_
                refine AOps.unw rfl rfl rfl rfl ?_
                refine AOps.unw rfl rfl rfl rfl ?_
                refine AOps.unw rfl rfl rfl rfl ?_
                refine AOps.unwU rfl rfl rfl ?_
                refine AOps.unwU rfl rfl rfl ?_
                refine AOps.unwU rfl rfl rfl ?_
                refine AOps.unwU rfl rfl rfl ?_
                refine AOps.unw rfl rfl rfl rfl ?_
                refine AOps.sim okL rfl rfl ?_
                refine AOps.sim okL rfl rfl ?_
                refine AOps.unw rfl rfl rfl rfl ?_
                refine AOps.unw rfl rfl rfl rfl ?_
                refine AOps.unw rfl rfl rfl rfl ?_
                refine AOps.unw rfl rfl rfl rfl ?_
                refine AOps.unwU rfl rfl rfl ?_
                refine AOps.unw rfl rfl rfl rfl ?_
                refine AOps.sim okL rfl rfl ?_
                refine AOps.nil ?_
                refine AWp.condT rfl ?_
                refine AWp.seq ?_
                refine AWp.region ?_
                refine AOps.sim okL rfl rfl ?_
                refine AOps.nil ?_
                refine AWp.ret ?_
                first | (refine hR _ _ _ (by intro h; cases h) ?_; refine bodyQ_r (ResOk.one rfl rfl) ?_; clear K hR IH; rw [nodeV_eq]; simp_all [nodeB]; done) | (refine K () ?_ 0 _ _ ⟨rfl, rfl, rfl, trivial⟩ rfl; clear K hR IH; simp_all [nodeB]; done)
              · refine AOps.simW okL rfl rfl rfl rfl ?_
                refine AOps.wtd rfl rfl rfl ?_; refine AOp.load okL rfl (.head _) rfl rfl rfl rfl ?_
                refine AOps.simW okL rfl rfl rfl rfl ?_
                refine AOps.simW okL rfl rfl rfl rfl ?_
                refine AOps.guardCase rfl rfl rfl (fun h => ?_) (fun h => ?_)
                · exfalso; clear K hR IH; simp_all; done
                · refine AOps.unw rfl rfl rfl rfl ?_
                  refine AOps.unw rfl rfl rfl rfl ?_
                  refine AOps.unw rfl rfl rfl rfl ?_
                  refine AOps.unw rfl rfl rfl rfl ?_
                  refine AOps.simW okL rfl rfl rfl rfl ?_
                  refine AOps.sim okL rfl rfl ?_
                  refine AOps.sim okL rfl rfl ?_
                  refine AOps.simW okL rfl rfl rfl rfl ?_
                  refine AOps.wtd rfl rfl rfl ?_; refine AOp.load okL rfl (.head _) rfl rfl rfl rfl ?_
                  refine AOps.simW okL rfl rfl rfl rfl ?_
                  refine AOps.simW okL rfl rfl rfl rfl ?_
                  refine AOps.guardCase rfl rfl rfl (fun h => ?_) (fun h => ?_)
                  · exfalso; clear K hR IH; simp_all; done
                  · refine AOps.unw rfl rfl rfl rfl ?_
                    refine AOps.simW okL rfl rfl rfl rfl ?_
                    refine AOps.sim okL rfl rfl ?_
                    refine AOps.nil ?_
                    refine AWp.condF rfl ?_
                    refine AWp.skip ?_
                    first | (refine hR _ _ _ (by intro h; cases h) ?_; refine bodyQ_r (ResOk.one rfl rfl) ?_; clear K hR IH; rw [nodeV_eq]; simp_all [nodeB]; done) | (refine K () ?_ 0 _ _ ⟨rfl, rfl, rfl, trivial⟩ rfl; clear K hR IH; simp_all [nodeB]; done)
            · refine AOps.unw rfl rfl rfl rfl ?_
              refine AOps.unw rfl rfl rfl rfl ?_
              refine AOps.unw rfl rfl rfl rfl ?_
              refine AOps.unw rfl rfl rfl rfl ?_
              refine AOps.simW okL rfl rfl rfl rfl ?_
              refine AOps.sim okL rfl rfl ?_
              refine AOps.sim okL rfl rfl ?_
              refine AOps.simW okL rfl rfl rfl rfl ?_
              refine AOps.wtd rfl rfl rfl ?_; refine AOp.load okL rfl (.head _) rfl rfl rfl rfl ?_
              refine AOps.simW okL rfl rfl rfl rfl ?_
              refine AOps.simW okL rfl rfl rfl rfl ?_
              refine AOps.guardCase rfl rfl rfl (fun h => ?_) (fun h => ?_)
              · refine AOps.simW okL rfl rfl rfl rfl ?_
                refine AOps.wtd rfl rfl rfl ?_; refine AOp.load okL rfl (.head _) rfl rfl rfl rfl ?_
                refine AOps.simW okL rfl rfl rfl rfl ?_
                refine AOps.simW okL rfl rfl rfl rfl ?_
                refine AOps.simW okL rfl rfl rfl rfl ?_
                refine AOps.sim okL rfl rfl ?_
                refine AOps.sim okL rfl rfl ?_
                refine AOps.guardCase rfl rfl rfl (fun h => ?_) (fun h => ?_)
                · refine AOps.unw rfl rfl rfl rfl ?_
                  refine AOps.unw rfl rfl rfl rfl ?_
                  refine AOps.unw rfl rfl rfl rfl ?_
                  refine AOps.unw rfl rfl rfl rfl ?_
                  refine AOps.unwU rfl rfl rfl ?_
                  refine AOps.unw rfl rfl rfl rfl ?_
                  refine AOps.sim okL rfl rfl ?_
                  refine AOps.nil ?_
                  refine AWp.condT rfl ?_
                  refine AWp.seq ?_
                  refine AWp.region ?_
                  refine AOps.sim okL rfl rfl ?_
                  refine AOps.nil ?_
                  refine AWp.ret ?_
                  first | (refine hR _ _ _ (by intro h; cases h) ?_; refine bodyQ_r (ResOk.one rfl rfl) ?_; clear K hR IH; rw [nodeV_eq]; simp_all [nodeB]; done) | (refine K () ?_ 0 _ _ ⟨rfl, rfl, rfl, trivial⟩ rfl; clear K hR IH; simp_all [nodeB]; done)
                · refine AOps.simW okL rfl rfl rfl rfl ?_
                  refine AOps.wtd rfl rfl rfl ?_; refine AOp.load okL rfl (.head _) rfl rfl rfl rfl ?_
                  refine AOps.simW okL rfl rfl rfl rfl ?_
                  refine AOps.simW okL rfl rfl rfl rfl ?_
                  refine AOps.guardCase rfl rfl rfl (fun h => ?_) (fun h => ?_)
                  · refine AOps.simW okL rfl rfl rfl rfl ?_
                    refine AOps.simW okL rfl rfl rfl rfl ?_
                    refine AOps.sim okL rfl rfl ?_
                    refine AOps.nil ?_
                    refine seqQ_n ?_
                    refine AWp.condCase rfl (fun h => ?_) (fun h => ?_)
                    · refine AWp.seq ?_
                      refine AWp.region ?_
                      refine AOps.sim okL rfl rfl ?_
                      refine AOps.nil ?_
                      refine AWp.ret ?_
                      first | (refine hR _ _ _ (by intro h; cases h) ?_; refine bodyQ_r (ResOk.one rfl rfl) ?_; clear K hR IH; rw [nodeV_eq]; simp_all [nodeB]; done) | (refine K () ?_ 0 _ _ ⟨rfl, rfl, rfl, trivial⟩ rfl; clear K hR IH; simp_all [nodeB]; done)
                    · refine AWp.skip ?_
                      first | (refine hR _ _ _ (by intro h; cases h) ?_; refine bodyQ_r (ResOk.one rfl rfl) ?_; clear K hR IH; rw [nodeV_eq]; simp_all [nodeB]; done) | (refine K () ?_ 0 _ _ ⟨rfl, rfl, rfl, trivial⟩ rfl; clear K hR IH; simp_all [nodeB]; done)
                  · refine AOps.unw rfl rfl rfl rfl ?_
                    refine AOps.simW okL rfl rfl rfl rfl ?_
                    refine AOps.sim okL rfl rfl ?_
                    refine AOps.nil ?_
                    refine AWp.condF rfl ?_
                    refine AWp.skip ?_
                    first | (refine hR _ _ _ (by intro h; cases h) ?_; refine bodyQ_r (ResOk.one rfl rfl) ?_; clear K hR IH; rw [nodeV_eq]; simp_all [nodeB]; done) | (refine K () ?_ 0 _ _ ⟨rfl, rfl, rfl, trivial⟩ rfl; clear K hR IH; simp_all [nodeB]; done)
              · exfalso; clear K hR IH; simp_all; done
      · refine AOps.unw rfl rfl rfl rfl ?_
        refine AOps.unw rfl rfl rfl rfl ?_
        refine AOps.unw rfl rfl rfl rfl ?_
        refine AOps.sim okL rfl rfl ?_
        refine AOps.sim okL rfl rfl ?_
        refine AOps.simW okL rfl rfl rfl rfl ?_
        refine AOps.wtd rfl rfl rfl ?_; refine AOp.load okL rfl (.head _) rfl rfl rfl rfl ?_
        refine AOps.simW okL rfl rfl rfl rfl ?_
        refine AOps.simW okL rfl rfl rfl rfl ?_
        refine AOps.guardCase rfl rfl rfl (fun h => ?_) (fun h => ?_)
        · refine AOps.simW okL rfl rfl rfl rfl ?_
          refine AOps.wtd rfl rfl rfl ?_; refine AOp.load okL rfl (.head _) rfl rfl rfl rfl ?_
          refine AOps.simW okL rfl rfl rfl rfl ?_
          refine AOps.simW okL rfl rfl rfl rfl ?_
          refine AOps.simW okL rfl rfl rfl rfl ?_
          refine AOps.guardCase rfl rfl rfl (fun h => ?_) (fun h => ?_)
          · refine AOps.simW okL rfl rfl rfl rfl ?_
            refine AOps.wtd rfl rfl rfl ?_; refine AOp.load okL rfl (.head _) rfl rfl rfl rfl ?_
            refine AOps.wtd rfl rfl rfl ?_; focus (refine AOp.callP (v := ?_) rfl rfl rfl ?_ ?_; rotate_left; exact (refIsName_tr _))
            refine AOps.simW okL rfl rfl rfl rfl ?_
            refine AOps.simW okL rfl rfl rfl rfl ?_
            refine AOps.sim okL rfl rfl ?_
            refine AOps.sim okL rfl rfl ?_
            refine AOps.guardCase rfl rfl rfl (fun h => ?_) (fun h => ?_)
            · refine AOps.unw rfl rfl rfl rfl ?_
              refine AOps.unw rfl rfl rfl rfl ?_
              refine AOps.unw rfl rfl rfl rfl ?_
              refine AOps.unw rfl rfl rfl rfl ?_
              refine AOps.unwU rfl rfl rfl ?_
              refine AOps.unwU rfl rfl rfl ?_
              refine AOps.unwU rfl rfl rfl ?_
              refine AOps.unwU rfl rfl rfl ?_
              refine AOps.unw rfl rfl rfl rfl ?_
              refine AOps.sim okL rfl rfl ?_
              refine AOps.sim okL rfl rfl ?_
              refine AOps.unw rfl rfl rfl rfl ?_
              refine AOps.unw rfl rfl rfl rfl ?_
              refine AOps.unw rfl rfl rfl rfl ?_
              refine AOps.unw rfl rfl rfl rfl ?_
              refine AOps.unwU rfl rfl rfl ?_
              refine AOps.unwU rfl rfl rfl ?_
              refine AOps.unwU rfl rfl rfl ?_
              refine AOps.unwU rfl rfl rfl ?_
              refine AOps.unw rfl rfl rfl rfl ?_
              refine AOps.sim okL rfl rfl ?_
              refine AOps.sim okL rfl rfl ?_
              refine AOps.unw rfl rfl rfl rfl ?_
              refine AOps.unw rfl rfl rfl rfl ?_
              refine AOps.unw rfl rfl rfl rfl ?_
              refine AOps.unw rfl rfl rfl rfl ?_
              refine AOps.unwU rfl rfl rfl ?_
              refine AOps.unw rfl rfl rfl rfl ?_
              refine AOps.sim okL rfl rfl ?_
              refine AOps.nil ?_
              refine AWp.condT rfl ?_
              refine AWp.seq ?_
              refine AWp.region ?_
              refine AOps.sim okL rfl rfl ?_
              refine AOps.nil ?_
              refine AWp.ret ?_
              first | (refine hR _ _ _ (by intro h; cases h) ?_; refine bodyQ_r (ResOk.one rfl rfl) ?_; clear K hR IH; rw [nodeV_eq]; simp_all [nodeB]; done) | (refine K () ?_ 0 _ _ ⟨rfl, rfl, rfl, trivial⟩ rfl; clear K hR IH; simp_all [nodeB]; done)
            · refine AOps.simW okL rfl rfl rfl rfl ?_
              refine AOps.wtd rfl rfl rfl ?_; refine AOp.load okL rfl (.head _) rfl rfl rfl rfl ?_
              refine AOps.simW okL rfl rfl rfl rfl ?_
              refine AOps.simW okL rfl rfl rfl rfl ?_
              refine AOps.guardCase rfl rfl rfl (fun h => ?_) (fun h => ?_)
              · exfalso; clear K hR IH; simp_all; done
              · refine AOps.unw rfl rfl rfl rfl ?_
                refine AOps.unw rfl rfl rfl rfl ?_
                refine AOps.unw rfl rfl rfl rfl ?_
                refine AOps.unw rfl rfl rfl rfl ?_
                refine AOps.simW okL rfl rfl rfl rfl ?_
                refine AOps.sim okL rfl rfl ?_
                refine AOps.sim okL rfl rfl ?_
                refine AOps.simW okL rfl rfl rfl rfl ?_
                refine AOps.wtd rfl rfl rfl ?_; refine AOp.load okL rfl (.head _) rfl rfl rfl rfl ?_
                refine AOps.simW okL rfl rfl rfl rfl ?_
                refine AOps.simW okL rfl rfl rfl rfl ?_
                refine AOps.guardCase rfl rfl rfl (fun h => ?_) (fun h => ?_)
                · refine AOps.simW okL rfl rfl rfl rfl ?_
                  refine AOps.wtd rfl rfl rfl ?_; refine AOp.load okL rfl (.head _) rfl rfl rfl rfl ?_
                  refine AOps.simW okL rfl rfl rfl rfl ?_
                  refine AOps.simW okL rfl rfl rfl rfl ?_
                  refine AOps.simW okL rfl rfl rfl rfl ?_
                  refine AOps.sim okL rfl rfl ?_
                  refine AOps.sim okL rfl rfl ?_
                  refine AOps.guardCase rfl rfl rfl (fun h => ?_) (fun h => ?_)
                  · refine AOps.unw rfl rfl rfl rfl ?_
                    refine AOps.unw rfl rfl rfl rfl ?_
                    refine AOps.unw rfl rfl rfl rfl ?_
                    refine AOps.unw rfl rfl rfl rfl ?_
                    refine AOps.unwU rfl rfl rfl ?_
                    refine AOps.unw rfl rfl rfl rfl ?_
                    refine AOps.sim okL rfl rfl ?_
                    refine AOps.nil ?_
                    refine AWp.condT rfl ?_
                    refine AWp.seq ?_
                    refine AWp.region ?_
                    refine AOps.sim okL rfl rfl ?_
                    refine AOps.nil ?_
                    refine AWp.ret ?_
                    first | (refine hR _ _ _ (by intro h; cases h) ?_; refine bodyQ_r (ResOk.one rfl rfl) ?_; clear K hR IH; rw [nodeV_eq]; simp_all [nodeB]; done) | (refine K () ?_ 0 _ _ ⟨rfl, rfl, rfl, trivial⟩ rfl; clear K hR IH; simp_all [nodeB]; done)
                  · refine AOps.simW okL rfl rfl rfl rfl ?_
                    refine AOps.wtd rfl rfl rfl ?_; refine AOp.load okL rfl (.head _) rfl rfl rfl rfl ?_
                    refine AOps.simW okL rfl rfl rfl rfl ?_
                    refine AOps.simW okL rfl rfl rfl rfl ?_
                    refine AOps.guardCase rfl rfl rfl (fun h => ?_) (fun h => ?_)
                    · exfalso; clear K hR IH; simp_all; done
                    · refine AOps.unw rfl rfl rfl rfl ?_
                      refine AOps.simW okL rfl rfl rfl rfl ?_
                      refine AOps.sim okL rfl rfl ?_
                      refine AOps.nil ?_
                      refine AWp.condF rfl ?_
                      refine AWp.skip ?_
                      first | (refine hR _ _ _ (by intro h; cases h) ?_; refine bodyQ_r (ResOk.one rfl rfl) ?_; clear K hR IH; rw [nodeV_eq]; simp_all [nodeB]; done) | (refine K () ?_ 0 _ _ ⟨rfl, rfl, rfl, trivial⟩ rfl; clear K hR IH; simp_all [nodeB]; done)
                · exfalso; clear K hR IH; simp_all; done
          · refine AOps.unw rfl rfl rfl rfl ?_
            refine AOps.unw rfl rfl rfl rfl ?_
            refine AOps.unw rfl rfl rfl rfl ?_
            refine AOps.unw rfl rfl rfl rfl ?_
            refine AOps.simW okL rfl rfl rfl rfl ?_
            refine AOps.sim okL rfl rfl ?_
            refine AOps.sim okL rfl rfl ?_
            refine AOps.simW okL rfl rfl rfl rfl ?_
            refine AOps.wtd rfl rfl rfl ?_; refine AOp.load okL rfl (.head _) rfl rfl rfl rfl ?_
            refine AOps.simW okL rfl rfl rfl rfl ?_
            refine AOps.simW okL rfl rfl rfl rfl ?_
            refine AOps.guardCase rfl rfl rfl (fun h => ?_) (fun h => ?_)
            · exfalso; clear K hR IH; simp_all; done
            · refine AOps.unw rfl rfl rfl rfl ?_
              refine AOps.unw rfl rfl rfl rfl ?_
              refine AOps.unw rfl rfl rfl rfl ?_
              refine AOps.unw rfl rfl rfl rfl ?_
              refine AOps.simW okL rfl rfl rfl rfl ?_
              refine AOps.sim okL rfl rfl ?_
              refine AOps.sim okL rfl rfl ?_
              refine AOps.simW okL rfl rfl rfl rfl ?_
              refine AOps.wtd rfl rfl rfl ?_; refine AOp.load okL rfl (.head _) rfl rfl rfl rfl ?_
              refine AOps.simW okL rfl rfl rfl rfl ?_
              refine AOps.simW okL rfl rfl rfl rfl ?_
              refine AOps.guardCase rfl rfl rfl (fun h => ?_) (fun h => ?_)
              · refine AOps.simW okL rfl rfl rfl rfl ?_
                refine AOps.wtd rfl rfl rfl ?_; refine AOp.load okL rfl (.head _) rfl rfl rfl rfl ?_
                refine AOps.simW okL rfl rfl rfl rfl ?_
                refine AOps.simW okL rfl rfl rfl rfl ?_
                refine AOps.simW okL rfl rfl rfl rfl ?_
                refine AOps.sim okL rfl rfl ?_
                refine AOps.sim okL rfl rfl ?_
                refine AOps.guardCase rfl rfl rfl (fun h => ?_) (fun h => ?_)
                · refine AOps.unw rfl rfl rfl rfl ?_
                  refine AOps.unw rfl rfl rfl rfl ?_
                  refine AOps.unw rfl rfl rfl rfl ?_
                  refine AOps.unw rfl rfl rfl rfl ?_
                  refine AOps.unwU rfl rfl rfl ?_
                  refine AOps.unw rfl rfl rfl rfl ?_
                  refine AOps.sim okL rfl rfl ?_
                  refine AOps.nil ?_
                  refine AWp.condT rfl ?_
                  refine AWp.seq ?_
                  refine AWp.region ?_
                  refine AOps.sim okL rfl rfl ?_
                  refine AOps.nil ?_
                  refine AWp.ret ?_
                  first | (refine hR _ _ _ (by intro h; cases h) ?_; refine bodyQ_r (ResOk.one rfl rfl) ?_; clear K hR IH; rw [nodeV_eq]; simp_all [nodeB]; done) | (refine K () ?_ 0 _ _ ⟨rfl, rfl, rfl, trivial⟩ rfl; clear K hR IH; simp_all [nodeB]; done)
                · refine AOps.simW okL rfl rfl rfl rfl ?_
                  refine AOps.wtd rfl rfl rfl ?_; refine AOp.load okL rfl (.head _) rfl rfl rfl rfl ?_
                  refine AOps.simW okL rfl rfl rfl rfl ?_
                  refine AOps.simW okL rfl rfl rfl rfl ?_
                  refine AOps.guardCase rfl rfl rfl (fun h => ?_) (fun h => ?_)
                  · exfalso; clear K hR IH; simp_all; done
                  · refine AOps.unw rfl rfl rfl rfl ?_
                    refine AOps.simW okL rfl rfl rfl rfl ?_
                    refine AOps.sim okL rfl rfl ?_
                    refine AOps.nil ?_
                    refine AWp.condF rfl ?_
                    refine AWp.skip ?_
                    first | (refine hR _ _ _ (by intro h; cases h) ?_; refine bodyQ_r (ResOk.one rfl rfl) ?_; clear K hR IH; rw [nodeV_eq]; simp_all [nodeB]; done) | (refine K () ?_ 0 _ _ ⟨rfl, rfl, rfl, trivial⟩ rfl; clear K hR IH; simp_all [nodeB]; done)
              · exfalso; clear K hR IH; simp_all; done
        · exfalso; clear K hR IH; simp_all; done
  · refine AWp.block ?_
    refine AWp.seq ?_
    refine AWp.seq ?_
    refine AWp.region ?_
    refine AOps.sim okL rfl rfl ?_
    refine AOps.pln ?_; refine AOp.load okL rfl (.head _) rfl rfl rfl rfl ?_
    refine AOps.pln ?_; focus (refine AOp.callP (v := ?_) rfl rfl rfl ?_ ?_; rotate_left; exact (refWithin_tr _ _ _))
    refine AOps.sim okL rfl rfl ?_
    refine AOps.sim okL rfl rfl ?_
    refine AOps.nil ?_
    refine seqQ_n ?_
    refine AWp.condCase rfl (fun h => ?_) (fun h => ?_)
    · refine AWp.skip ?_
      refine AWp.condT rfl ?_
      refine AWp.seq ?_
      refine AWp.region ?_
      refine AOps.sim okL rfl rfl ?_
      refine AOps.nil ?_
      refine AWp.ret ?_
      refine blockQ_r ?_
      first | (refine hR _ _ _ (by intro h; cases h) ?_; refine bodyQ_r (ResOk.one rfl rfl) ?_; clear K hR IH; rw [nodeV_eq]; simp_all [nodeA]; done) | (refine K () ?_ 0 _ _ ⟨rfl, rfl, rfl, trivial⟩ rfl; clear K hR IH; simp_all [nodeA]; done)
    · refine AWp.seq ?_
      refine AWp.region ?_
      refine AOps.sim okL rfl rfl ?_
      refine AOps.pln ?_; refine AOp.load okL rfl (.head _) rfl rfl rfl rfl ?_
      refine AOps.sim okL rfl rfl ?_
      refine AOps.sim okL rfl rfl ?_
      refine AOps.sim okL rfl rfl ?_
      refine AOps.pln ?_; focus (refine AOp.callP (v := ?_) rfl rfl rfl ?_ ?_; rotate_left; exact (refWithin_tr _ _ _))
      refine AOps.sim okL rfl rfl ?_
      refine AOps.sim okL rfl rfl ?_
      refine AOps.nil ?_
      refine seqQ_n ?_
      refine AWp.condCase rfl (fun h => ?_) (fun h => ?_)
      · refine AWp.skip ?_
        refine AWp.condT rfl ?_
        refine AWp.seq ?_
        refine AWp.region ?_
        refine AOps.sim okL rfl rfl ?_
        refine AOps.nil ?_
        refine AWp.ret ?_
        refine blockQ_r ?_
        first | (refine hR _ _ _ (by intro h; cases h) ?_; refine bodyQ_r (ResOk.one rfl rfl) ?_; clear K hR IH; rw [nodeV_eq]; simp_all [nodeA]; done) | (refine K () ?_ 0 _ _ ⟨rfl, rfl, rfl, trivial⟩ rfl; clear K hR IH; simp_all [nodeA]; done)
      · refine AWp.region ?_
        refine AOps.pln ?_; refine AOp.load okL rfl (.head _) rfl rfl rfl rfl ?_
        refine AOps.sim okL rfl rfl ?_
        refine AOps.pln ?_; focus (refine AOp.callP (v := ?_) rfl rfl rfl ?_ ?_; rotate_left; exact (isNumber_tr _ _))
        refine AOps.sim okL rfl rfl ?_
        refine AOps.sim okL rfl rfl ?_
        refine AOps.nil ?_
        refine seqQ_n ?_
        refine AWp.condCase rfl (fun h => ?_) (fun h => ?_)
        · refine AWp.seq ?_
          refine AWp.region ?_
          refine AOps.sim okL rfl rfl ?_
          refine AOps.nil ?_
          refine AWp.ret ?_
          refine blockQ_r ?_
          first | (refine hR _ _ _ (by intro h; cases h) ?_; refine bodyQ_r (ResOk.one rfl rfl) ?_; clear K hR IH; rw [nodeV_eq]; simp_all [nodeA]; done) | (refine K () ?_ 0 _ _ ⟨rfl, rfl, rfl, trivial⟩ rfl; clear K hR IH; simp_all [nodeA]; done)
        · refine AWp.seq ?_
          refine AWp.region ?_
          refine AOps.sim okL rfl rfl ?_
          refine AOps.pln ?_; refine AOp.load okL rfl (.head _) rfl rfl rfl rfl ?_
          refine AOps.sim okL rfl rfl ?_
          refine AOps.sim okL rfl rfl ?_
          refine AOps.nil ?_
          refine seqQ_n ?_
          refine AWp.condCase rfl (fun h => ?_) (fun h => ?_)
          · refine AWp.seq ?_
            refine AWp.region ?_
            refine AOps.sim okL rfl rfl ?_
            refine AOps.pln ?_; refine AOp.load okL rfl (.head _) rfl rfl rfl rfl ?_
            refine AOps.pln ?_; focus (refine AOp.callP (v := ?_) rfl rfl rfl ?_ ?_; rotate_left; exact (refWithin_tr _ _ _))
            refine AOps.sim okL rfl rfl ?_
            refine AOps.sim okL rfl rfl ?_
            refine AOps.guardCase rfl rfl rfl (fun h => ?_) (fun h => ?_)
            · refine AOps.unw rfl rfl rfl rfl ?_
              refine AOps.unw rfl rfl rfl rfl ?_
              refine AOps.unw rfl rfl rfl rfl ?_
              refine AOps.unw rfl rfl rfl rfl ?_
              refine AOps.unwU rfl rfl rfl ?_
              refine AOps.unwU rfl rfl rfl ?_
              refine AOps.unwU rfl rfl rfl ?_
              refine AOps.unwU rfl rfl rfl ?_
              refine AOps.unwU rfl rfl rfl ?_
              refine AOps.unwU rfl rfl rfl ?_
              refine AOps.unwU rfl rfl rfl ?_
              refine AOps.unw rfl rfl rfl rfl ?_
              refine AOps.sim okL rfl rfl ?_
              refine AOps.nil ?_
              refine AWp.condT rfl ?_
              refine AWp.seq ?_
              refine AWp.region ?_
              refine AOps.sim okL rfl rfl ?_
              refine AOps.nil ?_
              refine AWp.ret ?_
              refine blockQ_r ?_
              first | (refine hR _ _ _ (by intro h; cases h) ?_; refine bodyQ_r (ResOk.one rfl rfl) ?_; clear K hR IH; rw [nodeV_eq]; simp_all [nodeA]; done) | (refine K () ?_ 0 _ _ ⟨rfl, rfl, rfl, trivial⟩ rfl; clear K hR IH; simp_all [nodeA]; done)
            · refine AOps.simW okL rfl rfl rfl rfl ?_
              refine AOps.wtd rfl rfl rfl ?_; refine AOp.load okL rfl (.head _) rfl rfl rfl rfl ?_
              refine AOps.simW okL rfl rfl rfl rfl ?_
              refine AOps.simW okL rfl rfl rfl rfl ?_
              refine AOps.guardCase rfl rfl rfl (fun h => ?_) (fun h => ?_)
              · refine AOps.simW okL rfl rfl rfl rfl ?_
                refine AOps.wtd rfl rfl rfl ?_; refine AOp.load okL rfl (.head _) rfl rfl rfl rfl ?_
                refine AOps.simW okL rfl rfl rfl rfl ?_
                refine AOps.wtd rfl rfl rfl ?_; refine AOp.load okL rfl (.head _) rfl rfl rfl rfl ?_
                refine AOps.simW okL rfl rfl rfl rfl ?_
                refine AOps.wtd rfl rfl rfl ?_; focus (refine AOp.callP (v := ?_) rfl rfl rfl ?_ ?_; rotate_left; exact (refWithin_tr _ _ _))
                refine AOps.simW okL rfl rfl rfl rfl ?_
                refine AOps.simW okL rfl rfl rfl rfl ?_
                refine AOps.sim okL rfl rfl ?_
                refine AOps.nil ?_
                refine seqQ_n ?_
                refine AWp.condCase rfl (fun h => ?_) (fun h => ?_)
                · refine AWp.seq ?_
                  refine AWp.region ?_
                  refine AOps.sim okL rfl rfl ?_
                  refine AOps.nil ?_
                  refine AWp.ret ?_
                  refine blockQ_r ?_
                  first | (refine hR _ _ _ (by intro h; cases h) ?_; refine bodyQ_r (ResOk.one rfl rfl) ?_; clear K hR IH; rw [nodeV_eq]; simp_all [nodeA]; done) | (refine K () ?_ 0 _ _ ⟨rfl, rfl, rfl, trivial⟩ rfl; clear K hR IH; simp_all [nodeA]; done)
                · refine AWp.skip ?_
                  refine blockQ_n ?_
                  first | (refine hR _ _ _ (by intro h; cases h) ?_; refine bodyQ_r (ResOk.one rfl rfl) ?_; clear K hR IH; rw [nodeV_eq]; simp_all [nodeA]; done) | (refine K () ?_ 0 _ _ ⟨rfl, rfl, rfl, trivial⟩ rfl; clear K hR IH; simp_all [nodeA]; done)
              · refine AOps.unw rfl rfl rfl rfl ?_
                refine AOps.unw rfl rfl rfl rfl ?_
                refine AOps.unw rfl rfl rfl rfl ?_
                refine AOps.unw rfl rfl rfl rfl ?_
                refine AOps.unw rfl rfl rfl rfl ?_
                refine AOps.unw rfl rfl rfl rfl ?_
                refine AOps.unw rfl rfl rfl rfl ?_
                refine AOps.simW okL rfl rfl rfl rfl ?_
                refine AOps.sim okL rfl rfl ?_
                refine AOps.nil ?_
                refine AWp.condF rfl ?_
                refine AWp.skip ?_
                refine blockQ_n ?_
                first | (refine hR _ _ _ (by intro h; cases h) ?_; refine bodyQ_r (ResOk.one rfl rfl) ?_; clear K hR IH; rw [nodeV_eq]; simp_all [nodeA]; done) | (refine K () ?_ 0 _ _ ⟨rfl, rfl, rfl, trivial⟩ rfl; clear K hR IH; simp_all [nodeA]; done)
          · refine AWp.seq ?_
            refine AWp.region ?_
            refine AOps.sim okL rfl rfl ?_
            refine AOps.pln ?_; refine AOp.load okL rfl (.head _) rfl rfl rfl rfl ?_
            refine AOps.sim okL rfl rfl ?_
            refine AOps.sim okL rfl rfl ?_
            refine AOps.guardCase rfl rfl rfl (fun h => ?_) (fun h => ?_)
            · refine AOps.unw rfl rfl rfl rfl ?_
              refine AOps.unw rfl rfl rfl rfl ?_
              refine AOps.unw rfl rfl rfl rfl ?_
              refine AOps.sim okL rfl rfl ?_
              refine AOps.sim okL rfl rfl ?_
              refine AOps.nil ?_
              refine AWp.condT rfl ?_
              refine AWp.seq ?_
              refine AWp.region ?_
              refine AOps.sim okL rfl rfl ?_
              refine AOps.nil ?_
              refine AWp.ret ?_
              refine blockQ_r ?_
              first | (refine hR _ _ _ (by intro h; cases h) ?_; refine bodyQ_r (ResOk.one rfl rfl) ?_; clear K hR IH; rw [nodeV_eq]; simp_all [nodeA]; done) | (refine K () ?_ 0 _ _ ⟨rfl, rfl, rfl, trivial⟩ rfl; clear K hR IH; simp_all [nodeA]; done)
            · refine AOps.simW okL rfl rfl rfl rfl ?_
              refine AOps.wtd rfl rfl rfl ?_; refine AOp.load okL rfl (.head _) rfl rfl rfl rfl ?_
              refine AOps.simW okL rfl rfl rfl rfl ?_
              refine AOps.sim okL rfl rfl ?_
              refine AOps.sim okL rfl rfl ?_
              refine AOps.nil ?_
              refine seqQ_n ?_
              refine AWp.condCase rfl (fun h => ?_) (fun h => ?_)
              · refine AWp.seq ?_
                refine AWp.region ?_
                refine AOps.sim okL rfl rfl ?_
                refine AOps.nil ?_
                refine AWp.ret ?_
                refine blockQ_r ?_
                first | (refine hR _ _ _ (by intro h; cases h) ?_; refine bodyQ_r (ResOk.one rfl rfl) ?_; clear K hR IH; rw [nodeV_eq]; simp_all [nodeA]; done) | (refine K () ?_ 0 _ _ ⟨rfl, rfl, rfl, trivial⟩ rfl; clear K hR IH; simp_all [nodeA]; done)
              · refine AWp.skip ?_
                refine blockQ_n ?_
                first | (refine hR _ _ _ (by intro h; cases h) ?_; refine bodyQ_r (ResOk.one rfl rfl) ?_; clear K hR IH; rw [nodeV_eq]; simp_all [nodeA]; done) | (refine K () ?_ 0 _ _ ⟨rfl, rfl, rfl, trivial⟩ rfl; clear K hR IH; simp_all [nodeA]; done)
end Go.Proofs.YtpopmiodjibljaaGreatDoor


namespace Go.Proofs.YtpopmiodjibljaaGreatDoor
open Go Go.Abs
set_option linter.unusedVariables false
set_option maxRecDepth 100000
set_option linter.unusedSimpArgs false
theorem refVal_tr (x : Pat) (hb : nodesN x ≤ 1000000) : PTr Tryz.prog 53 [.agg x.C] (i64 (valP x)) := by
  rw [valid_eq x hb]; exact refValidate_tr fixM (refNode_tr fixM isFixed_tr) x hb
theorem valid_node {x : Pat} (hb : nodesN x ≤ 1000000) (h : valP x = 0) : nodeV fixM x (opnP x).length false = true ∧ largeM x = false ∧ grpGo [] (opnP x) = true := by
  rw [valid_eq x hb] at h
  unfold validR at h
  split at h
  · cases h
  · rename_i hl
    split at h
    · rename_i h2
      simp only [Bool.and_eq_true] at h2
      exact ⟨h2.1, by simpa using hl, h2.2⟩
    · cases h
end Go.Proofs.YtpopmiodjibljaaGreatDoor


namespace Go.Proofs.YtpopmiodjibljaaGreatDoor
open Go Go.Abs
set_option linter.unusedVariables false
set_option maxRecDepth 100000
set_option linter.unusedSimpArgs false

theorem eqT57 : EqT Tryz.prog 166 := eqTC_ok (by kernel_rfl)
def eqS (x y : Int × Int) : Bool := decide (x.1 = y.1) && (decide (x.2 = y.2) && true)
theorem eqS_iff (x y : Int × Int) : eqS x y = decide (x = y) := by
  cases x; cases y; simp [eqS, Prod.mk.injEq, Bool.decide_and]
def eqSpans : List (Int × Int) → List (Int × Int) → Bool
  | [], [] => true
  | x :: a, y :: b => eqS x y && eqSpans a b
  | _, _ => false
theorem eqSpans_self : ∀ a : List (Int × Int), eqSpans a a = true
  | [] => rfl
  | x :: a => by rw [eqSpans, eqS_iff, eqSpans_self a]; simp
theorem eqSpans_len : ∀ {a b : List (Int × Int)}, a.length ≠ b.length → eqSpans a b = false
  | [], [], h => absurd rfl h
  | [], _ :: _, _ => rfl
  | _ :: _, [], _ => rfl
  | x :: a, y :: b, h => by rw [eqSpans, eqSpans_len (fun e => h (by simp [e]))]; simp
theorem slicesEqual_tr (a b : List (Int × Int)) : PTr Tryz.prog 256 [.ds (a.map spanC), .ds (b.map spanC)] (.bool (eqSpans a b)) := by
  refine PTr.of_body (N := 26) Tryz.func256 rfl rfl rfl ?_
  refine AWp.know (t := 0) rfl (Known.ds _) fun hlen => ?_
  rw [List.length_map] at hlen
  refine ae0 (ag 15 rfl (AC.toCode ?_))
  (refine AWp.condCase rfl (fun h0 => ?_) (fun h0 => ?_))
  · simp only [List.length_map, bne_iff_ne, ne_eq] at h0
    have e := eqSpans_len (a := a) (b := b) (by omega)
    refine ae (ag 7 rfl (AC.nilE ?_))
    refine bodyQ_r (ResOk.one rfl rfl) ?_
    rw [e]
  · simp only [List.length_map, bne_eq_false_iff_eq] at h0
    have h0 : a.length = b.length := by omega
    refine ae (ag 11 rfl (AC.toCode ?_))
    refine AWp.loopM (α := Nat) (fun k => a.length - k) (fun k => [(0, .ds (a.map spanC)), (1, .ds (b.map spanC)), (12, i64 (a.map spanC).length), (13, i64 k)]) (fun _ => _)
      (fun k => k ≤ a.length ∧ eqSpans (a.drop k) (b.drop k) = eqSpans a b) 0 ⟨Nat.zero_le _, rfl⟩ ?_ (List.Perm.refl _) ?_
    · simp only [AllIn]
      refine ⟨rfl, rfl, rfl, rfl, trivial⟩
    rintro k ⟨hk, hm⟩ ih
    refine ae0 (ag 6 rfl (AC.toCode ?_))
    (refine AWp.condCase rfl (fun h => ?_) (fun h => ?_))
    · have h := of_decide_eq_true h
      simp only [List.length_map] at h
      obtain ⟨x, hx⟩ : ∃ x, a[k]? = some x := ⟨a[k], by simp [show k < a.length by omega]⟩
      obtain ⟨y, hy⟩ : ∃ y, b[k]? = some y := ⟨b[k]'(by omega), by simp [show k < b.length by omega]⟩
      rw [drop_get hx, drop_get hy, eqSpans] at hm
      have nx := nxt (k := k) (n := a.length) (by omega) hlen
      refine ae (ag 11 rfl (AC.drawn okL hmix (by kernel_rfl) (ag 2 rfl (AC.toPl (Pl.pure rfl (sOp_idxD rfl rfl rfl rfl rfl (by omega) (getS hx) rfl) (ap (ag 3 rfl (AC.toPl (Pl.pure rfl (sOp_idxD rfl rfl rfl rfl rfl (by omega) (getS hy) rfl) (ap (ag 1 rfl (AC.toPl ?_))))))))))))
      refine Pl.eqStruct eqT57 rfl rfl rfl rfl rfl rfl rfl (b := eqS x y) rfl rfl ?_
      refine ap (ag 2 rfl (AC.toCode ?_))
      (refine AWp.condCase rfl (fun h2 => ?_) (fun h2 => ?_))
      · simp only [Bool.not_eq_true'] at h2
        refine ae (ag 8 rfl (AC.nilE (ax (ag 2 rfl (AC.nilE ?_)))))
        refine bodyQ_r (ResOk.one rfl rfl) ?_
        rw [← hm, h2]; rfl
      · simp only [Bool.not_eq_false'] at h2
        rw [h2, Bool.true_and] at hm
        refine ae (ag 7 rfl (AC.nilE (seqQ_n ?_)))
        (refine AIn.nextN 1 (ih (k + 1) (⟨by omega, hm⟩) (by omega)) ?_ rfl; repeat (first | exact trivial | refine ⟨rfl, ?_⟩ | refine ⟨congrArg some nx, ?_⟩))
    · have h := of_decide_eq_false h
      simp only [List.length_map] at h
      rw [List.drop_eq_nil_of_le (by omega), List.drop_eq_nil_of_le (by omega)] at hm
      refine ae (ag 2 rfl (AC.nilE (ae (ag 6 rfl (AC.nilE ?_)))))
      refine bodyQ_r (ResOk.one rfl rfl) ?_
      rw [← hm]; rfl
theorem sameSpans_tr (a b : List (Int × Int)) : PTr Tryz.prog 103 [.ds (a.map spanC), .ds (b.map spanC)] (.bool (eqSpans a b)) := by
  refine PTr.of_body (N := 26) Tryz.func103 rfl rfl rfl ?_
  refine AWp.know (t := 0) rfl (Known.ds _) fun hlen => ?_
  rw [List.length_map] at hlen
  refine ae0 (ag 15 rfl (AC.toCode ?_))
  (refine AWp.condCase rfl (fun h0 => ?_) (fun h0 => ?_))
  · simp only [List.length_map, bne_iff_ne, ne_eq] at h0
    have e := eqSpans_len (a := a) (b := b) (by omega)
    refine ae (ag 7 rfl (AC.nilE ?_))
    refine bodyQ_r (ResOk.one rfl rfl) ?_
    rw [e]
  · simp only [List.length_map, bne_eq_false_iff_eq] at h0
    have h0 : a.length = b.length := by omega
    refine ae (ag 9 rfl (AC.toCode ?_))
    refine AWp.loopM (α := Nat) (fun k => a.length - k) (fun k => [(0, .ds (a.map spanC)), (1, .ds (b.map spanC)), (5, i64 k)]) (fun _ => _)
      (fun k => k ≤ a.length ∧ eqSpans (a.drop k) (b.drop k) = eqSpans a b) 0 ⟨Nat.zero_le _, rfl⟩ ?_ (List.Perm.refl _) ?_
    · simp only [AllIn]
      refine ⟨rfl, rfl, rfl, trivial⟩
    rintro k ⟨hk, hm⟩ ih
    refine ae0 (ag 9 rfl (AC.toCode ?_))
    (refine AWp.condCase rfl (fun h => ?_) (fun h => ?_))
    · have h := of_decide_eq_true h
      simp only [List.length_map] at h
      obtain ⟨x, hx⟩ : ∃ x, a[k]? = some x := ⟨a[k], by simp [show k < a.length by omega]⟩
      obtain ⟨y, hy⟩ : ∃ y, b[k]? = some y := ⟨b[k]'(by omega), by simp [show k < b.length by omega]⟩
      rw [drop_get hx, drop_get hy, eqSpans] at hm
      have nx := nxt (k := k) (n := a.length) (by omega) hlen
      refine ae (ag 5 rfl (AC.drawn okL hmix (by kernel_rfl) (ag 2 rfl (AC.toPl (Pl.pure rfl (sOp_idxD rfl rfl rfl rfl rfl (by omega) (getS hx) rfl) (ap (ag 3 rfl (AC.toPl (Pl.pure rfl (sOp_idxD rfl rfl rfl rfl rfl (by omega) (getS hy) rfl) (ap (ag 1 rfl (AC.toPl ?_))))))))))))
      refine Pl.eqStruct eqT57 rfl rfl rfl rfl rfl rfl rfl (b := eqS x y) rfl rfl ?_
      refine ap (ag 2 rfl (AC.toCode ?_))
      (refine AWp.condCase rfl (fun h2 => ?_) (fun h2 => ?_))
      · simp only [Bool.not_eq_true'] at h2
        refine ae (ag 8 rfl (AC.nilE (ax (ag 2 rfl (AC.nilE ?_)))))
        refine bodyQ_r (ResOk.one rfl rfl) ?_
        rw [← hm, h2]; rfl
      · simp only [Bool.not_eq_false'] at h2
        rw [h2, Bool.true_and] at hm
        refine ae (ag 8 rfl (AC.nilE (seqQ_n ?_)))
        (refine AIn.nextN 1 (ih (k + 1) (⟨by omega, hm⟩) (by omega)) ?_ rfl; repeat (first | exact trivial | refine ⟨rfl, ?_⟩ | refine ⟨congrArg some nx, ?_⟩))
    · have h := of_decide_eq_false h
      simp only [List.length_map] at h
      rw [List.drop_eq_nil_of_le (by omega), List.drop_eq_nil_of_le (by omega)] at hm
      refine ae (ag 2 rfl (AC.nilE (ae (ag 6 rfl (AC.nilE ?_)))))
      refine bodyQ_r (ResOk.one rfl rfl) ?_
      rw [← hm]; rfl
end Go.Proofs.YtpopmiodjibljaaGreatDoor


namespace Go.Proofs.YtpopmiodjibljaaGreatDoor
open Go Go.Abs
set_option linter.unusedVariables false
set_option maxRecDepth 100000
set_option linter.unusedSimpArgs false

mutual
def longestP : Pat → Int
  | .mk _ _ _ _ nm st l => longestL l (mxI st.length nm.length)
def longestL : List Pat → Int → Int
  | [], n => n
  | y :: l, n => longestL l (mxI n (longestP y))
end
theorem longestP_eq (x : Pat) : longestP x = longestL x.l (mxI x.set.length x.name.length) := by cases x; rw [longestP]; rfl
theorem longest_tr (x : Pat) : PTr Tryz.prog 49 [.agg x.C] (i64 (longestP x)) := by
  induction x using Pat.ind with | h x IH => _
  refine PTr.of_body (N := 28) Tryz.func49 rfl rfl rfl ?_
  refine AWp.know (t := 0) rfl (Known.agg (x := .ds (x.l.map Pat.cells)) (by simp [Pat.C]) (Known.ds _)) fun hlen => ?_
  rw [List.length_map] at hlen
  refine ae0 (ag 2 rfl (AC.pln (AOp.box rfl rfl (isVal_or rfl) rfl rfl (fun _ _ => (ab (ag 6 rfl (AC.pln (AOp.load okL rfl (.head _) rfl rfl rfl rfl (ab (ag 2 rfl (AC.pln (AOp.load okL rfl (.head _) rfl rfl rfl rfl (ab (ag 12 rfl (AC.toCode ?_)))))))))))))))
  rename_i r _
  refine AWp.loopM (α := Nat × Int) (fun a => x.l.length - a.1) (fun a => [(1, .ptr r 7 0 0), (3, i64 a.2), (4, i64 a.1)]) (fun _ => _)
    (fun a => a.1 ≤ x.l.length ∧ longestL (x.l.drop a.1) a.2 = longestP x) (0, mxI x.set.length x.name.length) ⟨Nat.zero_le _, ?_⟩ ?_ (List.Perm.refl _) ?_
  · rw [longestP_eq]; rfl
  · simp only [AllIn]
    refine ⟨rfl, ?_, rfl, trivial⟩
    simp [Abs.get, put, mxI]
  rintro ⟨k, m⟩ ⟨hk, hm⟩ ih
  simp only at hk hm
  refine ae0 (ag 5 rfl (AC.pln (AOp.load okL rfl (.head _) rfl rfl rfl rfl (ab (ag 4 rfl (AC.toCode ?_))))))
  (refine AWp.condCase rfl (fun h => ?_) (fun h => ?_))
  · have h := of_decide_eq_true h
    simp only [List.length_map] at h
    obtain ⟨y, hy⟩ : ∃ y, x.l[k]? = some y := ⟨x.l[k], by simp [show k < x.l.length by omega]⟩
    have nx := nxt (k := k) (n := x.l.length) (by omega) hlen
    rw [drop_get hy, longestL] at hm
    refine ae (ag 7 rfl (AC.pln (AOp.load okL rfl (.head _) rfl rfl rfl rfl (ab (ag 1 rfl (AC.sim okL (sOp_idxD rfl rfl rfl rfl rfl (by omega) (getC hy) rfl) rfl (ag 1 rfl (AC.pln (AOp.callP rfl rfl rfl (IH y (List.mem_of_getElem? hy)) (ab (ag 10 rfl (AC.nilE (seqQ_n ?_)))))))))))))
    (refine AIn.nextN 0 (ih ((k + 1, mxI m (longestP y))) (⟨by omega, hm⟩) (by omega)) ?_ rfl; repeat (first | exact trivial | refine ⟨rfl, ?_⟩ | refine ⟨congrArg some nx, ?_⟩))
  · have h := of_decide_eq_false h
    simp only [List.length_map] at h
    rw [List.drop_eq_nil_of_le (by omega), longestL] at hm
    refine ae (ag 2 rfl (AC.nilE (ae (ag 7 rfl (AC.nilE ?_)))))
    refine bodyQ_r (ResOk.one rfl rfl) ?_
    rw [← hm]
def longM (x : Pat) : Bool := decide ((szP x).1 > 300) || (decide ((szP x).2.2 > 100) || decide (longestP x > 300))
theorem Long_tr (x : Pat) : PTr Tryz.prog 15 [.agg x.C] (.bool (longM x)) := by
  refine PTr.of_body (N := 19) Tryz.func15 rfl rfl rfl ?_
  refine ae0 (ag 2 rfl (AC.pln (AOp.box rfl rfl (isVal_or rfl) rfl rfl (fun _ _ => (ab (ag 5 rfl (AC.pln (AOp.load okL rfl (.head _) rfl rfl rfl rfl (ab (AC.pln (AOp.callP rfl rfl rfl (ref12Size_tr x) (ab (AC.pln (AOp.alloc okL rfl rfl rfl (fun _ _ => (ab (AC.pln (AOp.store okL rfl rfl rfl (isVal_or rfl) rfl rfl rfl .here rfl rfl rfl (ab (ag 5 rfl (AC.pln (AOp.load okL rfl (.head _) rfl rfl rfl rfl (ab (ag 2 rfl (AC.toOps ?_)))))))))))))))))))))))))
  refine AOps.guardCase rfl rfl rfl (fun h => ?_) (fun h => ?_)
  · refine ab (ag 13 rfl (AC.nilE ?_))
    (refine bodyQ_r (ResOk.one rfl rfl) ?_; simp_all [longM] <;> (rw [decide_eq_false (show ¬ (300 < (szP x).1) by omega), decide_eq_false (show ¬ (100 < (szP x).2.2) by omega)]; rfl))
  · refine ab (ag 1 rfl (AC.wtd rfl rfl rfl (AOp.load okL rfl (.head _) rfl rfl rfl rfl (ab (ag 3 rfl (AC.toOps ?_))))))
    refine AOps.guardCase rfl rfl rfl (fun h => ?_) (fun h => ?_)
    · refine ab (ag 8 rfl (AC.nilE ?_))
      (refine bodyQ_r (ResOk.one rfl rfl) ?_; simp_all [longM] <;> (rw [decide_eq_false (show ¬ (300 < (szP x).1) by omega), decide_eq_false (show ¬ (100 < (szP x).2.2) by omega)]; rfl))
    · refine ab (AC.wtd rfl rfl rfl (AOp.load okL rfl (.tail _ (.head _)) rfl rfl rfl rfl (ab (AC.wtd rfl rfl rfl (AOp.callP rfl rfl rfl (longest_tr x) (ab (ag 6 rfl (AC.nilE ?_))))))))
      (refine bodyQ_r (ResOk.one rfl rfl) ?_; simp_all [longM] <;> (rw [decide_eq_false (show ¬ (300 < (szP x).1) by omega), decide_eq_false (show ¬ (100 < (szP x).2.2) by omega)]; rfl))

mutual
def sameP : Pat → Pat → Bool
  | .mk o n mn mx nm st l, y => (o == y.op) && ((n == y.n) && ((mn == y.min) && ((mx == y.max) && ((nm == y.name) && (eqSpans st y.set && sameL l y.l)))))
def sameL : List Pat → List Pat → Bool
  | [], [] => true
  | x :: l, y :: m => sameP x y && sameL l m
  | _, _ => false
end
theorem sameP_eq (x y : Pat) : sameP x y = ((x.op == y.op) && ((x.n == y.n) && ((x.min == y.min) && ((x.max == y.max) && ((x.name == y.name) && (eqSpans x.set y.set && sameL x.l y.l)))))) := by cases x; rw [sameP]; rfl
theorem sameL_len : ∀ {a b : List Pat}, a.length ≠ b.length → sameL a b = false
  | [], [], h => absurd rfl h
  | [], _ :: _, _ => by simp [sameL]
  | _ :: _, [], _ => by simp [sameL]
  | x :: a, y :: b, h => by rw [sameL, sameL_len (fun e => h (by simp [e]))]; simp
mutual
theorem sameP_self : ∀ x : Pat, sameP x x = true
  | .mk o n mn mx nm st l => by rw [sameP_eq]; simp [Pat.l, sameL_self l, eqSpans_self]
theorem sameL_self : ∀ l : List Pat, sameL l l = true
  | [] => by simp [sameL]
  | x :: l => by rw [sameL, sameP_self x, sameL_self l]; rfl
end
theorem sameL_cons (x y : Pat) (a b : List Pat) : sameL (x :: a) (y :: b) = (sameP x y && sameL a b) := by rw [sameL]
theorem sameL_nil : sameL [] [] = true := by rw [sameL]
theorem refSame_tr (x : Pat) : ∀ y : Pat, PTr Tryz.prog 52 [.agg x.C, .agg y.C] (.bool (sameP x y)) := by
  induction x using Pat.ind with | h x IH => _
  intro y
  refine PTr.of_body (N := 75) Tryz.func52 rfl rfl rfl ?_
  refine AWp.know (t := 0) rfl (Known.agg (x := .ds (x.l.map Pat.cells)) (by simp [Pat.C]) (Known.ds _)) fun hlen => ?_
  rw [List.length_map] at hlen
  refine ae0 (ag 2 rfl (AC.pln (AOp.box rfl rfl (isVal_or rfl) rfl rfl (fun _ _ => (ab (AC.pln (AOp.box rfl rfl (isVal_or rfl) rfl rfl (fun _ _ => (ab (ag 7 rfl (AC.pln (AOp.load okL rfl (.tail _ (.head _)) rfl rfl rfl rfl (ab (ag 1 rfl (AC.pln (AOp.load okL rfl (.head _) rfl rfl rfl rfl (ab (ag 2 rfl (AC.toOps ?_)))))))))))))))))))
  refine AOps.guardCase rfl rfl rfl (fun h => ?_) (fun h => ?_)
  · refine ab (ag 54 rfl (AC.nilE ?_))
    first | (refine bodyQ_r (by first | exact ResOk.one rfl rfl | exact ResOk.two rfl rfl rfl | exact ResOk.three rfl rfl rfl rfl | exact ResOk.none rfl) ?_; clear IH; rw [sameP_eq]; simp_all; done) | (refine bodyQ_r (by first | exact ResOk.one rfl rfl | exact ResOk.two rfl rfl rfl | exact ResOk.three rfl rfl rfl rfl | exact ResOk.none rfl) ?_; clear IH; rw [sameP_eq, sameL_len (by simp_all <;> omega)]; simp; done) | skip
  refine ab (ag 1 rfl (AC.wtd rfl rfl rfl (AOp.load okL rfl (.tail _ (.head _)) rfl rfl rfl rfl (ab (ag 1 rfl (AC.wtd rfl rfl rfl (AOp.load okL rfl (.head _) rfl rfl rfl rfl (ab (ag 3 rfl (AC.toOps ?_))))))))))
  refine AOps.guardCase rfl rfl rfl (fun h => ?_) (fun h => ?_)
  · refine ab (ag 47 rfl (AC.nilE ?_))
    first | (refine bodyQ_r (by first | exact ResOk.one rfl rfl | exact ResOk.two rfl rfl rfl | exact ResOk.three rfl rfl rfl rfl | exact ResOk.none rfl) ?_; clear IH; rw [sameP_eq]; simp_all; done) | (refine bodyQ_r (by first | exact ResOk.one rfl rfl | exact ResOk.two rfl rfl rfl | exact ResOk.three rfl rfl rfl rfl | exact ResOk.none rfl) ?_; clear IH; rw [sameP_eq, sameL_len (by simp_all <;> omega)]; simp; done) | skip
  refine ab (ag 1 rfl (AC.wtd rfl rfl rfl (AOp.load okL rfl (.tail _ (.head _)) rfl rfl rfl rfl (ab (ag 1 rfl (AC.wtd rfl rfl rfl (AOp.load okL rfl (.head _) rfl rfl rfl rfl (ab (ag 3 rfl (AC.toOps ?_))))))))))
  refine AOps.guardCase rfl rfl rfl (fun h => ?_) (fun h => ?_)
  · refine ab (ag 40 rfl (AC.nilE ?_))
    first | (refine bodyQ_r (by first | exact ResOk.one rfl rfl | exact ResOk.two rfl rfl rfl | exact ResOk.three rfl rfl rfl rfl | exact ResOk.none rfl) ?_; clear IH; rw [sameP_eq]; simp_all; done) | (refine bodyQ_r (by first | exact ResOk.one rfl rfl | exact ResOk.two rfl rfl rfl | exact ResOk.three rfl rfl rfl rfl | exact ResOk.none rfl) ?_; clear IH; rw [sameP_eq, sameL_len (by simp_all <;> omega)]; simp; done) | skip
  refine ab (ag 1 rfl (AC.wtd rfl rfl rfl (AOp.load okL rfl (.tail _ (.head _)) rfl rfl rfl rfl (ab (ag 1 rfl (AC.wtd rfl rfl rfl (AOp.load okL rfl (.head _) rfl rfl rfl rfl (ab (ag 3 rfl (AC.toOps ?_))))))))))
  refine AOps.guardCase rfl rfl rfl (fun h => ?_) (fun h => ?_)
  · refine ab (ag 33 rfl (AC.nilE ?_))
    first | (refine bodyQ_r (by first | exact ResOk.one rfl rfl | exact ResOk.two rfl rfl rfl | exact ResOk.three rfl rfl rfl rfl | exact ResOk.none rfl) ?_; clear IH; rw [sameP_eq]; simp_all; done) | (refine bodyQ_r (by first | exact ResOk.one rfl rfl | exact ResOk.two rfl rfl rfl | exact ResOk.three rfl rfl rfl rfl | exact ResOk.none rfl) ?_; clear IH; rw [sameP_eq, sameL_len (by simp_all <;> omega)]; simp; done) | skip
  refine ab (ag 1 rfl (AC.wtd rfl rfl rfl (AOp.load okL rfl (.tail _ (.head _)) rfl rfl rfl rfl (ab (ag 1 rfl (AC.wtd rfl rfl rfl (AOp.load okL rfl (.head _) rfl rfl rfl rfl (ab (ag 3 rfl (AC.toOps ?_))))))))))
  refine AOps.guardCase rfl rfl rfl (fun h => ?_) (fun h => ?_)
  · refine ab (ag 26 rfl (AC.nilE ?_))
    first | (refine bodyQ_r (by first | exact ResOk.one rfl rfl | exact ResOk.two rfl rfl rfl | exact ResOk.three rfl rfl rfl rfl | exact ResOk.none rfl) ?_; clear IH; rw [sameP_eq]; simp_all; done) | (refine bodyQ_r (by first | exact ResOk.one rfl rfl | exact ResOk.two rfl rfl rfl | exact ResOk.three rfl rfl rfl rfl | exact ResOk.none rfl) ?_; clear IH; rw [sameP_eq, sameL_len (by simp_all <;> omega)]; simp; done) | skip
  refine ab (ag 1 rfl (AC.wtd rfl rfl rfl (AOp.load okL rfl (.tail _ (.head _)) rfl rfl rfl rfl (ab (ag 1 rfl (AC.wtd rfl rfl rfl (AOp.load okL rfl (.head _) rfl rfl rfl rfl (ab (AC.wtd rfl rfl rfl (AOp.callP rfl rfl rfl (sameSpans_tr x.set y.set) (ab (ag 3 rfl (AC.toOps ?_)))))))))))))
  refine AOps.guardCase rfl rfl rfl (fun h => ?_) (fun h => ?_)
  · refine ab (ag 18 rfl (AC.nilE ?_))
    first | (refine bodyQ_r (by first | exact ResOk.one rfl rfl | exact ResOk.two rfl rfl rfl | exact ResOk.three rfl rfl rfl rfl | exact ResOk.none rfl) ?_; clear IH; rw [sameP_eq]; simp_all; done) | (refine bodyQ_r (by first | exact ResOk.one rfl rfl | exact ResOk.two rfl rfl rfl | exact ResOk.three rfl rfl rfl rfl | exact ResOk.none rfl) ?_; clear IH; rw [sameP_eq, sameL_len (by simp_all <;> omega)]; simp; done) | skip
  refine ab (ag 1 rfl (AC.wtd rfl rfl rfl (AOp.load okL rfl (.tail _ (.head _)) rfl rfl rfl rfl (ab (ag 2 rfl (AC.wtd rfl rfl rfl (AOp.load okL rfl (.head _) rfl rfl rfl rfl (ab (ag 5 rfl (AC.toCode ?_))))))))))
  refine AWp.condCase rfl (fun h => ?_) (fun h => ?_)
  · refine ae (ag 7 rfl (AC.nilE ?_))
    first | (refine bodyQ_r (by first | exact ResOk.one rfl rfl | exact ResOk.two rfl rfl rfl | exact ResOk.three rfl rfl rfl rfl | exact ResOk.none rfl) ?_; clear IH; rw [sameP_eq]; simp_all; done) | (refine bodyQ_r (by first | exact ResOk.one rfl rfl | exact ResOk.two rfl rfl rfl | exact ResOk.three rfl rfl rfl rfl | exact ResOk.none rfl) ?_; clear IH; rw [sameP_eq, sameL_len (by simp_all <;> omega)]; simp; done) | skip
  refine ae (ag 9 rfl (AC.toCode (ae (AC.toCode (ae (AC.toCode ?_))))))
  first | (refine bodyQ_r (by first | exact ResOk.one rfl rfl | exact ResOk.two rfl rfl rfl | exact ResOk.three rfl rfl rfl rfl | exact ResOk.none rfl) ?_; clear IH; rw [sameP_eq]; simp_all; done) | (refine bodyQ_r (by first | exact ResOk.one rfl rfl | exact ResOk.two rfl rfl rfl | exact ResOk.three rfl rfl rfl rfl | exact ResOk.none rfl) ?_; clear IH; rw [sameP_eq, sameL_len (by simp_all <;> omega)]; simp; done) | skip
  rename_i rx _ ry _ h1 h2 h3 h4 h5 h6
  have h7 := h
  clear h
  have e0 : sameP x y = sameL x.l y.l := by clear IH; rw [sameP_eq]; simp_all
  have hl : x.l.length = y.l.length := by clear IH; simp only [List.length_map, bne_eq_false_iff_eq] at h7; omega
  clear h1 h2 h3 h4 h5 h6 h7
  refine AWp.loopM (α := Nat) (fun a => x.l.length - a) (fun a => [(2, .ptr rx 7 0 0), (3, .ptr ry 7 0 0), (5, i64 a)]) (fun _ => _)
    (fun a => a ≤ x.l.length ∧ sameL (x.l.drop a) (y.l.drop a) = sameP x y) 0 ⟨Nat.zero_le _, by rw [e0]; rfl⟩ ?_ (List.Perm.refl _) ?_
  · simp only [AllIn]
    refine ⟨rfl, rfl, rfl, trivial⟩
  rintro k ⟨hk, hm⟩ ih
  refine ae0 (ag 5 rfl (AC.pln (AOp.load okL rfl (.tail _ (.head _)) rfl rfl rfl rfl (ab (ag 4 rfl (AC.toCode ?_))))))
  (refine AWp.condCase rfl (fun h => ?_) (fun h => ?_))
  · have h := of_decide_eq_true h
    simp only [List.length_map] at h
    obtain ⟨x1, hx⟩ : ∃ x1, x.l[k]? = some x1 := ⟨x.l[k], by simp [show k < x.l.length by omega]⟩
    obtain ⟨y1, hy⟩ : ∃ y1, y.l[k]? = some y1 := ⟨y.l[k]'(by omega), by simp [show k < y.l.length by omega]⟩
    have nx := nxt (k := k) (n := x.l.length) (by omega) hlen
    rw [drop_get hx, drop_get hy, sameL_cons] at hm
    refine ae (ag 5 rfl (AC.drawn okL hmix (by kernel_rfl) (ag 1 rfl (AC.toPl (Pl.quiet rfl rfl rfl (AOp.load okL rfl (.tail _ (.head _)) rfl rfl rfl rfl (AOps.nil (Qn_n ⟨rfl, rfl⟩))) (ap (ag 1 rfl (AC.toPl (Pl.pure rfl (sOp_idxD rfl rfl rfl rfl rfl (by omega) (getC hx) rfl) (ap (ag 2 rfl (AC.toPl (Pl.quiet rfl rfl rfl (AOp.load okL rfl (.head _) rfl rfl rfl rfl (AOps.nil (Qn_n ⟨rfl, rfl⟩))) (ap (ag 1 rfl (AC.toPl (Pl.pure rfl (sOp_idxD rfl rfl rfl rfl rfl (by omega) (getC hy) rfl) (ap (ag 1 rfl (AC.toPl (Pl.quiet rfl rfl rfl (AOp.callP rfl rfl rfl (IH x1 (List.mem_of_getElem? hx) y1) (AOps.nil (Qn_n ⟨rfl, rfl⟩))) (ap (ag 3 rfl (AC.toCode ?_))))))))))))))))))))))))
    (refine AWp.condCase rfl (fun h2 => ?_) (fun h2 => ?_))
    · simp only [Bool.not_eq_true'] at h2
      refine ae (ag 8 rfl (AC.nilE (ax (ag 2 rfl (AC.nilE ?_)))))
      refine bodyQ_r (ResOk.one rfl rfl) ?_
      rw [← hm, h2]; rfl
    · simp only [Bool.not_eq_false'] at h2
      rw [h2, Bool.true_and] at hm
      refine ae (ag 8 rfl (AC.nilE (seqQ_n ?_)))
      (refine AIn.nextN 0 (ih (k + 1) (⟨by omega, hm⟩) (by omega)) ?_ rfl; repeat (first | exact trivial | refine ⟨rfl, ?_⟩ | refine ⟨congrArg some nx, ?_⟩))
  · have h := of_decide_eq_false h
    simp only [List.length_map] at h
    rw [List.drop_eq_nil_of_le (by omega), List.drop_eq_nil_of_le (by omega), sameL_nil] at hm
    refine ae (ag 2 rfl (AC.nilE (ae (ag 6 rfl (AC.nilE ?_)))))
    refine bodyQ_r (ResOk.one rfl rfl) ?_
    rw [← hm]

end Go.Proofs.YtpopmiodjibljaaGreatDoor

