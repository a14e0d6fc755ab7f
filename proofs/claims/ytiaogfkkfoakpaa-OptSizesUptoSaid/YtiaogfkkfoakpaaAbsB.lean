/- The layer's rules for append, slices and boxes. -/
import Derived.Lib.UnsafeStr
import Derived.Lib.Builder
import Derived.Laws.Externs
import Derived.Test.YtiaogfkkfoakpaaAbsA
set_option linter.unusedVariables false
set_option linter.unusedSimpArgs false
namespace Go.Abs
open Go
set_option linter.unusedVariables false
set_option linter.unusedSimpArgs false
section
variable {P : Program} {N : Nat} {Q : Exit → Env → Heap → Prop} {T : Env} {H : Heap} {ops rest : List Oper} {dst : Option Nat} {ty : TypeId} {pos : String} {after : Array Edge} {guard : Option (Nat × Bool)} {L : Lay}

theorem zeroCells_len (z : Array Value) (n : Nat) : (Builtin.zeroCells z n).size = n * z.size := by simp [Builtin.zeroCells]
theorem Ext.drew (H : Heap) (w : World) : Ext H w H w.drew := ⟨rfl, rfl, rfl, Nat.le_refl _, fun _ _ _ => rfl, fun _ h => .inl h, fun _ _ c _ f h => ⟨c, f, h, rfl⟩⟩
theorem Sim.drew {fr : Nat → Prop} {w : World} (s : Sim fr H w) : Sim fr H w.drew where
  nodup := s.nodup
  apart := s.apart
  old := s.old
  ok p hp := (s.ok p hp).mono (Ext.drew H w).stays rfl
theorem flat_append (a b : List (List A)) : (a ++ b).flatten = a.flatten ++ b.flatten := by simp
theorem allLeaf_append {a b : List A} (h : allLeaf a = true) (k : allLeaf b = true) : allLeaf (a ++ b) = true := by
  rw [allLeaf_iff] at *
  intro x hx
  rcases List.mem_append.1 hx with hx | hx
  · exact h x hx
  · exact k x hx

/-- append: what is appended to owns its block (or is nil); what is appended is read. The block that comes out is the old one, or a new one. -/
theorem append_sem {t e : Nat} {x y : Operand} {r : Nat} {elems news : List (List A)} {sv xv : A} {ti ei : TI} {Hr : Heap} (hL : LayOk P L) (hx : ev T x = some sv) (hy : ev T y = some xv) (ht : lay L t = some ti) (he : ti.td = .slice e)
    (hei : lay L e = some ei) (hpos : 0 < ei.size)
    (hs : (sv = .nils ∧ elems = [] ∧ H.Perm Hr) ∨ (sv = .os r ei.size 0 elems.length ∧ ∃ all, elems = all.take elems.length ∧ H.Perm ((r, .row e ei.size all) :: Hr)))
    (hy' : RowOf H xv news) (hnl : ∀ i (hi : i < news.length), news[i].length = ei.size) (hnf : ∀ c ∈ news, allLeaf c = true) (hne : sv = .nils → news ≠ [])
    (hb1 : elems.length + news.length ≤ maxLen) (hb2 : (elems.length + news.length) * ei.bytes ≤ 140737488355328) :
    OpSem P N { dst := dst, op := .call { callee := .builtin .append, args := [x, y].toArray, argTypes := [t, t].toArray }, type := ty, pos := pos, after := after, guard := guard } T H
      fun v H' => ∃ r', r' ∉ keys Hr ∧ v = .os r' ei.size 0 (elems.length + news.length) ∧ H' = (r', .row e ei.size (elems ++ news)) :: Hr := by
  intro fr w act s st
  obtain ⟨info, zv, hinfo, hi1, hi2, hi3, hzs, hzr, _⟩ := (hL _ _ hei).info
  have hund := td_slice (hL _ _ ht) he
  by_cases hnil : act.eval y = .slice none 0 0
  · -- nothing is appended
    have hnews : news = [] := by
      rcases hy'.lies s (ev_rep st hy) with ⟨h, _⟩ | ⟨a, cap, sz, vs, h1, _⟩
      · exact h
      · rw [hnil] at h1; cases h1
    subst hnews
    rcases hs with ⟨rfl, rfl, hp⟩ | ⟨rfl, all, hall, hp⟩
    · exact absurd rfl (hne rfl)
    have hu := ev_rep st hx
    generalize h1 : act.eval x = u at hu
    have sp := s.perm hp
    have hnd := List.nodup_cons.1 (show (r :: keys Hr).Nodup from sp.nodup)
    cases hu with
    | os _ _ _ _ cap hrr hcap hmax hroom =>
    have hb := blkOk_flat (sp.ok _ List.mem_cons_self)
    obtain ⟨cur, g1, g3, g2, g4, g5⟩ := hb
    have hle : elems.length ≤ all.length := by
      have := congrArg List.length hall
      rw [List.length_take] at this; omega
    have hown := own_perm (fr := fr) hp
    have hat : At ((r, Blk.row e ei.size all) :: Hr) r (.row e ei.size all) (.row e ei.size (elems ++ [])) ((r, .row e ei.size (elems ++ [])) :: Hr) := .here
    refine ⟨w, .os r ei.size 0 (elems.length + [].length), act.eval x, (r, .row e ei.size (elems ++ [])) :: Hr, .inl ?_, ⟨r, hnd.1, rfl, rfl⟩, ⟨sp.nodup, sp.apart, sp.old, fun p hp' => ?_⟩, ?_, ?_⟩
    · simp only [execOp, resolve, invoke, builtin, Sem.run_bind, Sem.run_pure, Result.andThen_ok, List.map_toArray, List.map_cons, List.map_nil, h1, hnil]
      have hroom0 : elems.length + 0 ≤ cap := by omega
      simp [Builtin.append_, run_underlying hund, sizeOf, typeInfo, hinfo, Builtin.lenOf, hcap, Builtin.firstCells, storeCells]
    · rcases hat.cases' sp.nodup p hp' with rfl | ⟨h2, _⟩
      · refine blkOk_of_flat (vs := (cur.toList.take (all.length * ei.size)).take (elems.length * ei.size)) g1 (fun i hi => ?_) ?_ ?_ (fun j u hj => ?_)
        · simp only [List.append_nil] at hi ⊢
          have : elems[i] = all[i]'(by omega) := by
            have h2 : elems[i]? = (all.take elems.length)[i]? := by rw [← hall]
            rw [List.getElem?_eq_getElem hi, List.getElem?_take, if_pos hi, List.getElem?_eq_getElem (show i < all.length by omega)] at h2
            exact Option.some.inj h2
          rw [this]; exact g3 _ _
        · rw [List.append_nil]
          have e1 : elems.flatten = all.flatten.take (elems.length * ei.size) := by
            have := flat_take (sz := ei.size) all elems.length g3
            rw [← hall] at this; exact this
          rw [e1]; exact g4.take _
        · rw [List.append_nil, allLeaf_iff]
          intro q hq
          rw [hall] at hq
          obtain ⟨l, hl1, hl2⟩ := List.mem_flatten.1 hq
          exact allLeaf_iff.1 g5 q (List.mem_flatten.2 ⟨l, List.mem_of_mem_take hl1, hl2⟩)
        · rw [List.getElem?_take] at hj
          split at hj
          · rw [List.getElem?_take] at hj
            split at hj
            · rw [Array.getElem?_toList] at hj; exact hj
            · cases hj
          · cases hj
      · exact sp.ok p h2
    · rw [h1]
      exact .os _ _ _ _ cap hrr (by simpa using hcap) hmax hroom
    · refine ⟨rfl, rfl, rfl, Nat.le_refl _, fun _ _ _ => rfl, fun k hk => .inl ?_, fun _ _ c _ f h => ⟨c, f, h, rfl⟩⟩
      exact (hp.map _).mem_iff.2 hk
  obtain ⟨a, m, c, news', e1, e2, e3, e4, e5, e6⟩ : ∃ (a : Addr) (m c : Nat) (vs : List Value), act.eval y = .slice (some a) m c ∧ m = news.length ∧ vs.length = m * info.size ∧ RepL w (own fr H) news.flatten vs ∧ CellsAt w a vs ∧ ∀ u ∈ vs, u.oneCell' = true := by
    rcases hy'.lies s (ev_rep st hy) with ⟨_, h⟩ | ⟨a, cap, sz, vs, h1, h2, h3, h4⟩
    · exact absurd h hnil
    refine ⟨a, _, cap, vs, h1, rfl, ?_, h4.rep, h4.at_, fun u hu => ?_⟩
    · rw [h4.rep.length, flat_len hnl, hi1]
    · obtain ⟨j, hj⟩ := List.getElem?_of_mem hu
      have hlt : j < news.flatten.length := by rw [← h4.rep.length]; exact (List.getElem?_eq_some_iff.1 hj).1
      obtain ⟨v, hv, hr⟩ := h4.rep.get j news.flatten[j] (by simp [List.getElem?_eq_getElem hlt])
      rw [hj] at hv; cases hv
      exact hr.one (allLeaf_iff.1 (RepL.flatLeaf hnf) _ (List.getElem_mem hlt))
  subst e2
  have hnl1 : news'.length = news.length * ei.size := by rw [e3, hi1]
  have hexec : ∀ u, act.eval x = u → (execOp act.eval { dst := dst, op := .call { callee := .builtin .append, args := [x, y].toArray, argTypes := [t, t].toArray }, type := ty, pos := pos, after := after, guard := guard }).run P w =
      ((Builtin.append_ #[t, t] ty #[u, .slice (some a) news.length c]).run P w).andThen fun v w' => .ok (.value v) w' := by
    intro u hu
    simp only [execOp, resolve, invoke, builtin, Sem.run_bind, Sem.run_pure, Result.andThen_ok, List.map_toArray, List.map_cons, List.map_nil, hu, e1]
  -- the new block's state
  have fresh : ∀ (olds : List Value) (old : Nat), RepL w (own fr H) elems.flatten olds → olds.length = elems.length * ei.size → allLeaf elems.flatten = true → (∀ i (hi : i < elems.length), elems[i].length = ei.size) → keys Hr ⊆ keys H → (∀ p ∈ Hr, p ∈ H) →
      ∀ (wn : World), wn = w.drew.alloc (.cells (olds.toArray ++ news'.toArray ++ Builtin.zeroCells zv.cells (grownCap w (elems.length + news.length) old e - (elems.length + news.length))) e) →
        (keys Hr).Nodup → Sim fr ((w.heap.size, .row e ei.size (elems ++ news)) :: Hr) wn ∧ Rep wn (own fr ((w.heap.size, .row e ei.size (elems ++ news)) :: Hr)) (.os w.heap.size ei.size 0 (elems.length + news.length)) (.slice (some ⟨w.heap.size, 0, none⟩) (elems.length + news.length) (grownCap w (elems.length + news.length) old e)) ∧
        Ext H w ((w.heap.size, .row e ei.size (elems ++ news)) :: Hr) wn := by
    intro olds old ho hol hlf helen hsub hmem wn hwn hnd
    subst hwn
    have hge := grownCap_ge w (elems.length + news.length) old e
    have hcm := grownCap_le_maxLen w (elems.length + news.length) old e hb1
    have hstay : Stays w (own fr H) (w.drew.alloc (.cells (olds.toArray ++ news'.toArray ++ Builtin.zeroCells zv.cells (grownCap w (elems.length + news.length) old e - (elems.length + news.length))) e)) (own fr ((w.heap.size, .row e ei.size (elems ++ news)) :: Hr)) := by
      refine ⟨by simp, fun k hk _ => heap_old w.drew _ k hk, fun k hk hn h => ?_, fun k hk c' T' f h => ?_⟩
      · rcases h with h | h
        · exact hn (.inl h)
        · simp only [keys, List.map_cons, List.mem_cons] at h
          rcases h with h | h
          · omega
          · exact hn (.inr (hsub h))
      · have := heap_old w.drew (.cells (olds.toArray ++ news'.toArray ++ Builtin.zeroCells zv.cells (grownCap w (elems.length + news.length) old e - (elems.length + news.length))) e) k hk
        rw [this] at h
        exact ⟨c', f, h, rfl⟩
    have hsize : (olds.toArray ++ news'.toArray ++ Builtin.zeroCells zv.cells (grownCap w (elems.length + news.length) old e - (elems.length + news.length))).size = grownCap w (elems.length + news.length) old e * ei.size := by
      simp only [Array.size_append, List.size_toArray, zeroCells_len, hzs, hol, hnl1, ← Nat.add_mul]
      congr 1; omega
    refine ⟨⟨?_, ?_, ?_, ?_⟩, ?_, ?_⟩
    · exact List.nodup_cons.2 ⟨fun h => (own_new s).1 (hsub h), hnd⟩
    · intro k hk
      simp only [keys, List.map_cons, List.mem_cons] at hk
      rcases hk with rfl | hk
      · exact (own_new s).2
      · exact s.apart k (hsub hk)
    · intro k hk; have := s.old k hk; simp; omega
    · intro p hp
      rcases List.mem_cons.1 hp with rfl | hp
      · refine blkOk_of_flat (vs := olds ++ news') (heap_alloc_new w.drew _) (fun i hi => ?_) (by rw [flat_append]; exact (ho.append e4).mono hstay) (by rw [flat_append]; exact allLeaf_append hlf (RepL.flatLeaf hnf)) (fun j u hj => ?_)
        · rw [List.getElem_append]; split
          · exact helen _ _
          · exact hnl _ _
        · have hlt := (List.getElem?_eq_some_iff.1 hj).1
          rw [Array.getElem?_append_left (by simpa using hlt)]
          rw [← Array.getElem?_toList]; simpa using hj
      · exact (s.ok p (hmem p hp)).mono hstay (heap_old w.drew _ _ (s.ok p (hmem p hp)).lt)
    · have := Rep.os (w := w.drew.alloc (.cells (olds.toArray ++ news'.toArray ++ Builtin.zeroCells zv.cells (grownCap w (elems.length + news.length) old e - (elems.length + news.length))) e)) (own := own fr ((w.heap.size, .row e ei.size (elems ++ news)) :: Hr))
        w.heap.size ei.size 0 (elems.length + news.length) (grownCap w (elems.length + news.length) old e) (by simp) hge hcm (fun c' T' f h => by
          have hh := heap_alloc_new w.drew (.cells (olds.toArray ++ news'.toArray ++ Builtin.zeroCells zv.cells (grownCap w (elems.length + news.length) old e - (elems.length + news.length))) e)
          have hh' : (w.drew.alloc (.cells (olds.toArray ++ news'.toArray ++ Builtin.zeroCells zv.cells (grownCap w (elems.length + news.length) old e - (elems.length + news.length))) e)).heap[w.heap.size]? = some (.cells (olds.toArray ++ news'.toArray ++ Builtin.zeroCells zv.cells (grownCap w (elems.length + news.length) old e - (elems.length + news.length))) e) := hh
          rw [hh'] at h
          cases h
          rw [Nat.zero_add, hsize])
      simpa using this
    · refine ⟨rfl, rfl, rfl, by simp, fun k hk _ => heap_old w.drew _ k hk, fun k hk => ?_, hstay.shape⟩
      simp only [keys, List.map_cons, List.mem_cons] at hk
      rcases hk with rfl | hk
      · exact .inr (Nat.le_refl _)
      · exact .inl (hsub hk)
  have hfitting : ∀ old, old < elems.length + news.length → Builtin.nextslicecap (elems.length + news.length) old * info.bytes ≤ 281474976710656 := fun old ho => by rw [hi2]; exact growslice_fits ho hb2
  have h63 : ((elems.length + news.length : Nat) : Int) ≤ 9223372036854775807 := by simp only [maxLen] at hb1; omega
  rcases hs with ⟨rfl, rfl, hp⟩ | ⟨rfl, all, hall, hp⟩
  · -- nil
    have hu := ev_rep st hx
    generalize h1 : act.eval x = u at hu
    cases hu
    have hn0 : 0 < news.length := List.length_pos_iff.2 (hne rfl)
    have hr := run_append_nil (P := P) w t ty e info zv hund hinfo hi3 a news.length c news' e3 e5 hn0 (by simpa using h63) (by have := hfitting 0 (by simpa using hn0); rw [show ([] : List (List A)).length + news.length = news.length by simp, nextslicecap_zero hn0] at this; exact this)
    obtain ⟨f1, f2, f3⟩ := fresh [] 0 .nil (by simp) rfl (fun i hi => by simp at hi) (fun k hk => (hp.map _).mem_iff.2 hk) (fun p h => hp.mem_iff.2 h) _ rfl (by have := (s.perm hp).nodup; exact this)
    refine ⟨_, _, _, _, .inl ?_, ⟨w.heap.size, fun h => (own_new s).1 ((hp.map _).mem_iff.2 h), rfl, rfl⟩, f1, f2, f3⟩
    rw [hexec _ h1, hr]
    simp
  · -- a block of the call's own
    have hu := ev_rep st hx
    generalize h1 : act.eval x = u at hu
    have hmemr : (r, Blk.row e ei.size all) ∈ H := hp.mem_iff.2 List.mem_cons_self
    have sp := s.perm hp
    have hnd := List.nodup_cons.1 (show (r :: keys Hr).Nodup from sp.nodup)
    cases hu with
    | os _ _ _ _ cap hrr hcap hmax hroom =>
    obtain ⟨cur, g1, g3, g2, g4, g5⟩ := blkOk_flat (s.ok _ hmemr)
    have hcs := hroom _ _ _ g1
    rw [Nat.zero_add] at hcs
    have hle : elems.length ≤ all.length := by
      have := congrArg List.length hall
      rw [List.length_take] at this; omega
    have helen : ∀ i (hi : i < elems.length), elems[i].length = ei.size := by
      intro i hi
      have : elems[i] = all[i]'(by omega) := by
        have h2 : elems[i]? = (all.take elems.length)[i]? := by rw [← hall]
        rw [List.getElem?_eq_getElem hi, List.getElem?_take, if_pos hi, List.getElem?_eq_getElem (show i < all.length by omega)] at h2
        exact Option.some.inj h2
      rw [this]; exact g3 _ _
    have heflat : elems.flatten = all.flatten.take (elems.length * ei.size) := by
      have := flat_take (sz := ei.size) all elems.length g3
      rw [← hall] at this; exact this
    have hin : elems.length * ei.size ≤ all.length * ei.size := Nat.mul_le_mul_right _ hle
    have holds : RepL w (own fr H) elems.flatten (cur.toList.take (elems.length * ei.size)) := by
      rw [heflat]
      have := g4.take (elems.length * ei.size)
      rw [List.take_take, Nat.min_eq_left hin] at this; exact this
    have hol : (cur.toList.take (elems.length * ei.size)).length = elems.length * ei.size := by simp; omega
    have hlf : allLeaf elems.flatten = true := by
      rw [allLeaf_iff] at g5 ⊢
      intro q hq
      rw [heflat] at hq
      exact g5 q (List.mem_of_mem_take hq)
    have hpk : keys Hr ⊆ keys H := fun k hk => (hp.map _).mem_iff.2 (List.mem_cons_of_mem _ hk)
    have hpm : ∀ p ∈ Hr, p ∈ H := fun p h => hp.mem_iff.2 (List.mem_cons_of_mem _ h)
    simp only [Nat.zero_mul] at h1
    by_cases hroom2 : elems.length + news.length ≤ cap
    · -- room
      have hfit : elems.length * info.size + news'.length ≤ cur.size := by
        rw [hnl1, hi1, ← Nat.add_mul, ← hcs]; exact Nat.mul_le_mul_right _ hroom2
      have hr := run_append_room (P := P) w t ty e info hund hinfo r elems.length cap cur g1 a news.length c news' e3 e5 e6 hroom2 hfit
      have hsz : ((cur.toList.take (elems.length * info.size) ++ news' ++ cur.toList.drop (elems.length * info.size + news'.length)).toArray).size = cur.size := by
        simp only [List.size_toArray, List.length_append, List.length_take, List.length_drop, Array.length_toList]; omega
      have hat : At ((r, Blk.row e ei.size all) :: Hr) r (.row e ei.size all) (.row e ei.size (elems ++ news)) ((r, .row e ei.size (elems ++ news)) :: Hr) := .here
      have hext := Ext.write (c' := (cur.toList.take (elems.length * info.size) ++ news' ++ cur.toList.drop (elems.length * info.size + news'.length)).toArray) hat g1 hsz
      have hstay := hext.stays (fr := fr)
      have hown := own_perm (fr := fr) hp
      refine ⟨_, .os r ei.size 0 (elems.length + news.length), _, (r, .row e ei.size (elems ++ news)) :: Hr, .inl (by rw [hexec _ h1, hr]; rfl), ⟨r, hnd.1, rfl, rfl⟩, sp.write hat g1 hsz ?_, ?_, hext.perm hp⟩
      · refine blkOk_of_flat (vs := cur.toList.take (elems.length * ei.size) ++ news') (setRow_heap w r cur _ e (0, 0) g1) (fun i hi => ?_) ?_ (by rw [flat_append]; exact allLeaf_append hlf (RepL.flatLeaf hnf)) (fun j u hj => ?_)
        · rw [List.getElem_append]; split
          · exact helen _ _
          · exact hnl _ _
        · rw [flat_append]
          have := holds.append e4
          rw [hown] at this
          exact this.mono hstay
        · rw [List.getElem?_toArray, hi1, List.getElem?_append_left (by exact (List.getElem?_eq_some_iff.1 hj).1)]
          exact hj
      · have := Rep.os (w := w.setRow r (cur.toList.take (elems.length * info.size) ++ news' ++ cur.toList.drop (elems.length * info.size + news'.length)).toArray) (own := own fr ((r, .row e ei.size (elems ++ news)) :: Hr)) r ei.size 0 (elems.length + news.length) cap (by simpa using hrr) hroom2 hmax (fun c' T' f h => by
          rw [setRow_heap w r cur _ e (0, 0) g1] at h
          cases h
          rw [Nat.zero_add, hsz, hcs])
        simpa using this
    · -- it grows
      have hcell : ∀ (j : Nat) (v : Value), (cur.toList.take (elems.length * ei.size))[j]? = some v → w.cell? ((⟨r, 0, none⟩ : Addr).add j) = some v := by
        intro j v hj
        rw [List.getElem?_take] at hj
        split at hj
        · rw [add_plain, Nat.zero_add, cell_of_row w r _ cur e (0, 0) g1, ← Array.getElem?_toList]; exact hj
        · cases hj
      have hr := run_append_grow (P := P) w t ty e info zv hund hinfo hi3 ⟨r, 0, none⟩ elems.length cap (cur.toList.take (elems.length * ei.size)) (by rw [hol, hi1]) hcell a news.length c news' e3 e5 (by omega) h63 (hfitting cap (by omega))
      obtain ⟨f1, f2, f3⟩ := fresh _ cap holds hol hlf helen hpk hpm _ rfl hnd.2
      refine ⟨_, _, _, _, .inl ?_, ⟨w.heap.size, fun h => (own_new s).1 (hpk h), rfl, rfl⟩, f1, f2, f3⟩
      rw [hexec _ h1, hr]; rfl
end
end Go.Abs

namespace Go.Abs
open Go
set_option linter.unusedVariables false
set_option linter.unusedSimpArgs false
def Sub (x y : A) : Prop := ∀ (w : World) (o : Nat → Prop) (v : Value), Rep w o x v → Rep w o y v
theorem Sub.refl (x : A) : Sub x x := fun _ _ _ h => h
theorem Sub.nils : Sub .nils (.ds []) := fun _ _ _ h => by cases h; exact .ds0
section
variable {P : Program} {N : Nat} {Q : Exit → Env → Heap → Prop} {T : Env} {H : Heap} {ops rest : List Oper} {dst : Option Nat} {ty : TypeId} {pos : String} {after : Array Edge} {guard : Option (Nat × Bool)} {L : Lay}

theorem St.cast {w : World} {o : Nat → Prop} {T' : Env} {a : Act} (h : ∀ t x', get T' t = some x' → ∃ x, get T t = some x ∧ Sub x x') (st : St N w o T a) : St N w o T' a :=
  ⟨st.size, st.defers, fun t x' hx => let ⟨x, h1, h2⟩ := h t x' hx; let ⟨v, h3, h4⟩ := st.at_ t x h1; ⟨v, h3, h2 _ _ _ h4⟩⟩
theorem AWp.cast {c : Code} {T' : Env} (h : ∀ t x', get T' t = some x' → ∃ x, get T t = some x ∧ Sub x x') (k : AWp P N c Q T' H) : AWp P N c Q T H := ⟨fun fr w a s st => k.out fr w a s (st.cast h)⟩
theorem AOps.cast {T' : Env} (h : ∀ t x', get T' t = some x' → ∃ x, get T t = some x ∧ Sub x x') (k : AOps P N ops rest Q T' H) : AOps P N ops rest Q T H := ⟨fun fr w a s st => k.out fr w a s (st.cast h)⟩
theorem AOps.sub {T' : Env} (hs : ∀ t x, get T' t = some x → get T t = some x) (k : AOps P N ops rest Q T' H) : AOps P N ops rest Q T H := ⟨fun fr w a s st => k.out fr w a s (st.sub hs)⟩
/-- One slot is told otherwise. -/
theorem cast_slot {t : Nat} {x x' : A} (hx : get T t = some x) (h : Sub x x') : ∀ u y, get ((t, x') :: T) u = some y → ∃ x, get T u = some x ∧ Sub x y := by
  intro u y hy
  rw [get_put] at hy
  by_cases htu : t = u
  · subst htu
    rw [if_pos rfl] at hy
    cases hy
    exact ⟨x, hx, h⟩
  · rw [if_neg htu] at hy
    exact ⟨y, hy, Sub.refl y⟩
theorem AOps.slot {t : Nat} {x x' : A} (hx : get T t = some x) (h : Sub x x') (k : AOps P N ops rest Q ((t, x') :: T) H) : AOps P N ops rest Q T H := AOps.cast (cast_slot hx h) k
theorem AWp.slot {c : Code} {t : Nat} {x x' : A} (hx : get T t = some x) (h : Sub x x') (k : AWp P N c Q ((t, x') :: T) H) : AWp P N c Q T H := AWp.cast (cast_slot hx h) k
theorem AOps.drop {p : Nat × Blk} (k : AOps P N ops rest Q T H) : AOps P N ops rest Q T (p :: H) := by
  refine ⟨fun fr w a s st => ?_⟩
  refine wpList_mono ?_ _ _ _ (k.out fr w a s.drop (st.mono (Stays.less fun _ h => h.imp id (List.mem_cons_of_mem _))))
  rintro e a' w' ⟨T', H'', q, s', st', x'⟩
  exact ⟨T', H'', q, s', st', x'.drop⟩

/-! append -/
/-- append to nil. -/
theorem AOp.appendNil {t e : Nat} {x y : Operand} {news : List (List A)} {xv : A} {ti ei : TI} {Hr : Heap} (hL : LayOk P L) (hx : ev T x = some .nils) (hy : ev T y = some xv) (ht : lay L t = some ti) (he : ti.td = .slice e)
    (hei : lay L e = some ei) (hpos : Nat.ble 1 ei.size = true) (hy' : RowOf H xv news) (hp : H.Perm Hr ∨ ∃ p, H.Perm (p :: Hr)) (hnl : ∀ i (hi : i < news.length), news[i].length = ei.size) (hnf : ∀ c ∈ news, allLeaf c = true) (hne : news ≠ [])
    (hb1 : news.length ≤ maxLen) (hb2 : news.length * ei.bytes ≤ 140737488355328) (hd : dstOk N dst = true)
    (k : ∀ r, r ∉ keys Hr → AOps P N ops rest Q (put dst (.os r ei.size 0 news.length) T) ((r, .row e ei.size news) :: Hr)) :
    AOp P N ops { dst := dst, op := .call { callee := .builtin .append, args := [x, y].toArray, argTypes := [t, t].toArray }, type := ty, pos := pos, after := after, guard := guard } rest Q T H := by
  have hs := append_sem (dst := dst) (ty := ty) (pos := pos) (after := after) (guard := guard) (N := N) (r := 0) (elems := []) (Hr := H) hL hx hy ht he hei (Nat.le_of_ble_eq_true hpos) (.inl ⟨rfl, rfl, List.Perm.refl _⟩) hy' hnl hnf (fun _ => hne) (by simpa using hb1) (by simpa using hb2)
  refine AOp.sem hs hd ?_
  rintro v H' ⟨r', h1, rfl, rfl⟩
  simp only [List.length_nil, Nat.zero_add, List.nil_append]
  rcases hp with hp | ⟨p, hp⟩
  · exact AOps.perm (hp.cons _) (k r' (fun h => h1 ((hp.map _).mem_iff.2 h)))
  · refine AOps.perm ((hp.cons _).trans (List.Perm.swap _ _ _)) (AOps.drop (k r' (fun h => h1 ((hp.map _).mem_iff.2 (List.mem_cons_of_mem _ h)))))
/-- append to a row of the call's own; the block of what is appended (if it is one of the call's own) may fall away. -/
theorem AOp.append {t e : Nat} {x y : Operand} {r n : Nat} {all news : List (List A)} {xv : A} {ti ei : TI} {H1 Hr : Heap} (hL : LayOk P L) (hx : ev T x = some (.os r ei.size 0 n)) (hy : ev T y = some xv) (ht : lay L t = some ti) (he : ti.td = .slice e)
    (hei : lay L e = some ei) (hpos : Nat.ble 1 ei.size = true) (hp : H.Perm ((r, .row e ei.size all) :: H1)) (hn : n ≤ all.length) (hy' : RowOf H xv news) (hr : H1.Perm Hr ∨ ∃ p, H1.Perm (p :: Hr))
    (hnl : ∀ i (hi : i < news.length), news[i].length = ei.size) (hnf : ∀ c ∈ news, allLeaf c = true)
    (hb1 : n + news.length ≤ maxLen) (hb2 : (n + news.length) * ei.bytes ≤ 140737488355328) (hd : dstOk N dst = true)
    (k : ∀ r', r' ∉ keys Hr → AOps P N ops rest Q (put dst (.os r' ei.size 0 (n + news.length)) T) ((r', .row e ei.size (all.take n ++ news)) :: Hr)) :
    AOp P N ops { dst := dst, op := .call { callee := .builtin .append, args := [x, y].toArray, argTypes := [t, t].toArray }, type := ty, pos := pos, after := after, guard := guard } rest Q T H := by
  have hlen : (all.take n).length = n := by simp; omega
  have hs := append_sem (dst := dst) (ty := ty) (pos := pos) (after := after) (guard := guard) (N := N) (r := r) (elems := all.take n) (Hr := H1) hL hx hy ht he hei (Nat.le_of_ble_eq_true hpos)
    (.inr ⟨by rw [hlen], all, by rw [hlen], hp⟩) hy' hnl hnf (fun h => by cases h) (by rw [hlen]; exact hb1) (by rw [hlen]; exact hb2)
  refine AOp.sem hs hd ?_
  rintro v H' ⟨r', h1, rfl, rfl⟩
  rw [hlen]
  rcases hr with hr | ⟨p, hr⟩
  · exact AOps.perm (hr.cons _) (k r' (fun h => h1 ((hr.map _).mem_iff.2 h)))
  · refine AOps.perm ((hr.cons _).trans (List.Perm.swap _ _ _)) (AOps.drop (k r' (fun h => h1 ((hr.map _).mem_iff.2 (List.mem_cons_of_mem _ h)))))

/-! Freezing: a block that nobody writes any more is told by what it holds. -/
mutual
def fz (r sz : Nat) (elems : List (List A)) : A → A
  | .os r' sz' off len => match Nat.beq r' r, Nat.beq sz' sz, Nat.ble (off + len) elems.length with
    | true, true, true => .ds ((elems.drop off).take len)
    | _, _, _ => .os r' sz' off len
  | .agg l => .agg (fzL r sz elems l)
  | .tup l => .tup (fzL r sz elems l)
  | a => a
def fzL (r sz : Nat) (elems : List (List A)) : List A → List A
  | [] => []
  | a :: l => fz r sz elems a :: fzL r sz elems l
end
theorem os_ds {fr : Nat → Prop} {w : World} {r Te sz off len : Nat} {elems : List (List A)} {Hr : Heap} {v : Value} (s : Sim fr ((r, .row Te sz elems) :: Hr) w) (hle : off + len ≤ elems.length)
    (h : Rep w (own fr ((r, .row Te sz elems) :: Hr)) (.os r sz off len) v) : Rep w (own fr Hr) (.ds ((elems.drop off).take len)) v := by
  have hst : Stays w (own fr ((r, .row Te sz elems) :: Hr)) w (own fr Hr) := Stays.less fun _ h => h.imp id (List.mem_cons_of_mem _)
  cases h with
  | os _ _ _ _ cap hr hcap hmax hroom =>
    have hlen : ((elems.drop off).take len).length = len := by simp; omega
    have := Rep.ds_of (w := w) (o := own fr Hr) (elems := (elems.drop off).take len) (a := ⟨r, off * sz, none⟩) (cap := cap) (sz := sz) (by rw [hlen]; exact hcap) hmax (fun i e he => by
      have he' : elems[off + i]? = some e := by
        rw [List.getElem?_take] at he
        split at he
        · rw [List.getElem?_drop] at he; exact he
        · cases he
      obtain ⟨vs, h1, h2, _, h4⟩ := s.elem List.mem_cons_self he'
      refine ⟨h4, vs, h1.mono hst, ?_, fun _ h => ?_⟩
      · rw [add_plain, ← Nat.add_mul]; exact h2
      · rcases h with h | h
        · exact s.apart r List.mem_cons_self h
        · exact (List.nodup_cons.1 (show (r :: keys Hr).Nodup from s.nodup)).1 h)
    rw [hlen] at this
    exact this
theorem fz_rep {fr : Nat → Prop} {w : World} {r Te sz : Nat} {elems : List (List A)} {Hr : Heap} (s : Sim fr ((r, .row Te sz elems) :: Hr) w) :
    (∀ a v, Rep w (own fr ((r, .row Te sz elems) :: Hr)) a v → Rep w (own fr Hr) (fz r sz elems a) v) := by
  have hst : Stays w (own fr ((r, .row Te sz elems) :: Hr)) w (own fr Hr) := Stays.less fun _ h => h.imp id (List.mem_cons_of_mem _)
  intro a v h
  induction h with
  | os r' sz' off len cap hr hcap hmax hroom =>
    simp only [fz]
    split
    · rename_i h1 h2 h3
      have h1 := Nat.eq_of_beq_eq_true h1
      have h2 := Nat.eq_of_beq_eq_true h2
      subst h1; subst h2
      exact os_ds s (Nat.le_of_ble_eq_true h3) (.os _ _ _ _ cap hr hcap hmax hroom)
    · exact (Rep.os r' sz' off len cap hr hcap hmax hroom : Rep w (own fr ((r, .row Te sz elems) :: Hr)) _ _).mono hst
  | agg l cs vs hn hc _ ih =>
    simp only [fz]
    have : ∀ (l : List A) (vs : List Value), vs.length = l.length → (∀ (i : Nat) (hi : i < l.length) (v : Value), vs[i]? = some v → Rep w (own fr Hr) (fz r sz elems l[i]) v) → RepL w (own fr Hr) (fzL r sz elems l) vs := by
      intro l
      induction l with
      | nil => intro vs h _; have : vs = [] := List.eq_nil_of_length_eq_zero h; subst this; exact .nil
      | cons a l ih =>
        intro vs h hh
        cases vs with
        | nil => simp at h
        | cons v vs => exact .cons (hh 0 (by simp) v rfl) (ih vs (by simpa using h) fun i hi u hu => hh (i + 1) (by simpa using hi) u (by simpa using hu))
    have h2 := Rep.agg_of (this l cs.toList (by simpa using hn) fun i hi u hu => by
      rw [Array.getElem?_toList, hc i hi] at hu; cases hu; exact ih i hi)
    simpa using h2
  | tup l cs vs hn hc _ ih =>
    simp only [fz]
    have : ∀ (l : List A) (vs : List Value), vs.length = l.length → (∀ (i : Nat) (hi : i < l.length) (v : Value), vs[i]? = some v → Rep w (own fr Hr) (fz r sz elems l[i]) v) → RepL w (own fr Hr) (fzL r sz elems l) vs := by
      intro l
      induction l with
      | nil => intro vs h _; have : vs = [] := List.eq_nil_of_length_eq_zero h; subst this; exact .nil
      | cons a l ih =>
        intro vs h hh
        cases vs with
        | nil => simp at h
        | cons v vs => exact .cons (hh 0 (by simp) v rfl) (ih vs (by simpa using h) fun i hi u hu => hh (i + 1) (by simpa using hi) u (by simpa using hu))
    have h2 := Rep.tup_of (this l cs.toList (by simpa using hn) fun i hi u hu => by
      rw [Array.getElem?_toList, hc i hi] at hu; cases hu; exact ih i hi)
    simpa using h2
  | bool b => exact .bool b
  | int k n hn => exact .int k n hn
  | str l hm => exact .str l hm
  | nilp => exact .nilp
  | ptr r sz i o => exact .ptr r sz i o
  | nils => exact .nils
  | ds0 => exact .ds0
  | nilm => exact .nilm
  | map r => exact .map r
  | nilf => exact .nilf
  | nili => exact .nili
  | dp cells a vs hc h _ => exact (Rep.dp cells a vs hc h : Rep w (own fr ((r, .row Te sz elems) :: Hr)) _ _).mono hst
  | ds els a cap sz' vs h1 h2 h3 h4 h5 _ => exact (Rep.ds els a cap sz' vs h1 h2 h3 h4 h5 : Rep w (own fr ((r, .row Te sz elems) :: Hr)) _ _).mono hst
  | fn f first cap fs cs us vs h1 h2 h3 h4 h5 h6 _ _ => exact (Rep.fn f first cap fs cs us vs h1 h2 h3 h4 h5 h6 : Rep w (own fr ((r, .row Te sz elems) :: Hr)) _ _).mono hst
  | iface t a v h _ => exact (Rep.iface t a v h : Rep w (own fr ((r, .row Te sz elems) :: Hr)) _ _).mono hst
def fzE (r sz : Nat) (elems : List (List A)) : Env → Env
  | [] => []
  | (t, a) :: T => (t, fz r sz elems a) :: fzE r sz elems T
theorem get_fzE (r sz : Nat) (elems : List (List A)) (t : Nat) : ∀ T, get (fzE r sz elems T) t = (get T t).map (fz r sz elems)
  | [] => rfl
  | (u, a) :: T => by
    simp only [fzE, get_put]
    split
    · rfl
    · exact get_fzE r sz elems t T
theorem AWp.freeze {c : Code} {r Te sz : Nat} {elems : List (List A)} {Hr : Heap} (hp : H.Perm ((r, .row Te sz elems) :: Hr)) (k : AWp P N c Q (fzE r sz elems T) Hr) : AWp P N c Q T H := by
  refine AWp.perm hp ?_
  refine ⟨fun fr w a s st => ?_⟩
  have st' : St N w (own fr Hr) (fzE r sz elems T) a := ⟨st.size, st.defers, fun t x hx => by
    rw [get_fzE] at hx
    cases hg : get T t with
    | none => rw [hg] at hx; cases hx
    | some y =>
      rw [hg] at hx
      cases hx
      obtain ⟨v, h1, h2⟩ := st.at_ t y hg
      exact ⟨v, h1, fz_rep s _ _ h2⟩⟩
  refine wp_mono (k.out fr w a s.drop st') ?_
  rintro e a' w' ⟨T', H'', q, s', st', x'⟩
  exact ⟨T', H'', q, s', st', x'.drop⟩
theorem AOps.freeze {r Te sz : Nat} {elems : List (List A)} {Hr : Heap} (hp : H.Perm ((r, .row Te sz elems) :: Hr)) (k : AOps P N ops rest Q (fzE r sz elems T) Hr) : AOps P N ops rest Q T H := by
  refine AOps.perm hp ?_
  refine ⟨fun fr w a s st => ?_⟩
  have st' : St N w (own fr Hr) (fzE r sz elems T) a := ⟨st.size, st.defers, fun t x hx => by
    rw [get_fzE] at hx
    cases hg : get T t with
    | none => rw [hg] at hx; cases hx
    | some y =>
      rw [hg] at hx
      cases hx
      obtain ⟨v, h1, h2⟩ := st.at_ t y hg
      exact ⟨v, h1, fz_rep s _ _ h2⟩⟩
  refine wpList_mono ?_ _ _ _ (k.out fr w a s.drop st')
  rintro e a' w' ⟨T', H'', q, s', st', x'⟩
  exact ⟨T', H'', q, s', st', x'.drop⟩

/-! Cuts of rows. -/
theorem AOp.sliceD {t e : Nat} {x : Operand} {lo hi : Option Operand} {elems : List (List A)} {l h : Int} {ti ei : TI} (hL : LayOk P L) (hx : ev T x = some (.ds elems)) (hl : bnd T 0 lo = some l) (hh : bnd T elems.length hi = some h) (ht : lay L t = some ti) (he : ti.td = .slice e)
    (hei : lay L e = some ei) (hsz : ∀ c ∈ elems, c.length = ei.size) (h0 : 0 ≤ l) (h1 : l ≤ h) (h2 : h ≤ elems.length) (hd : dstOk N dst = true) (kk : AOps P N ops rest Q (put dst (.ds ((elems.drop l.toNat).take (h.toNat - l.toNat))) T) H) :
    AOp P N ops { dst := dst, op := .slice t x lo hi none, type := ty, pos := pos, after := after, guard := guard } rest Q T H :=
  AOp.pure (fun fr w act s st => by
    have hund := td_slice (hL _ _ ht) he
    rcases (ev_rep st hx).ds_inv with ⟨rfl, h3⟩ | ⟨a, cap, sz, h3, h4, h5, h6⟩
    · have hl0 : l.toNat = 0 := by simp at h2; omega
      have hb := sliceBounds_run (P := P) (w := w) (isS := true) (len := 0) (cap := 0) st hl hh h0 h1 (by simpa using h2)
      have hh0 : h.toNat = 0 := by simp at h2; omega
      refine ⟨.slice none 0 0, ?_, ?_⟩
      · simp only [execOp, h3, Instr.sliceAt, Instr.slice, Sem.run_bind, Sem.run_pure, Result.andThen_ok, run_underlying hund, Option.map_none, hb, sizeOf_run (hL _ _ hei), hl0, hh0]
        rfl
      · simp; exact .ds0
    · have hb := sliceBounds_run (P := P) (w := w) (isS := true) (len := elems.length) (cap := cap) st hl hh h0 h1 (by omega)
      refine ⟨.slice (if cap = l.toNat then some a else some (a.add (l.toNat * ei.size))) (h.toNat - l.toNat) (cap - l.toNat), ?_, ?_⟩
      · simp only [execOp, h3, Instr.sliceAt, Instr.slice, Sem.run_bind, Sem.run_pure, Result.andThen_ok, run_underlying hund, Option.map_none, hb, sizeOf_run (hL _ _ hei), Option.map_some]
      · have hlen : ((elems.drop l.toNat).take (h.toNat - l.toNat)).length = h.toNat - l.toNat := by simp; omega
        by_cases hcl : cap = l.toNat
        · rw [if_pos hcl]
          have he0 : (elems.drop l.toNat).take (h.toNat - l.toNat) = [] := List.eq_nil_of_length_eq_zero (by rw [hlen]; omega)
          have := Rep.ds_of (w := w) (o := own fr H) (elems := (elems.drop l.toNat).take (h.toNat - l.toNat)) (a := a) (cap := cap - l.toNat) (sz := sz) (by rw [hlen]; omega) (by omega) (fun i e hi => by rw [he0] at hi; simp at hi)
          rw [hlen] at this; exact this
        · rw [if_neg hcl]
          have := Rep.ds_of (w := w) (o := own fr H) (elems := (elems.drop l.toNat).take (h.toNat - l.toNat)) (a := a.add (l.toNat * ei.size)) (cap := cap - l.toNat) (sz := sz) (by rw [hlen]; omega) (by omega) (fun i e hi => by
            have hi' : elems[l.toNat + i]? = some e := by
              rw [List.getElem?_take] at hi
              split at hi
              · rw [List.getElem?_drop] at hi; exact hi
              · cases hi
            obtain ⟨k1, vs, k2, k3, k4⟩ := h6 _ _ hi'
            refine ⟨k1, vs, k2, ?_, by rw [add_block]; exact k4⟩
            have hee : ei.size = sz := by rw [← k1]; exact (hsz e (List.mem_of_getElem? hi')).symm
            rw [add_add, hee, ← Nat.add_mul]; exact k3)
          rw [hlen] at this; exact this) hd kk
theorem AOp.sliceO {t e : Nat} {x : Operand} {lo hi : Option Operand} {r sz off len : Nat} {l h : Int} {ti ei : TI} (hL : LayOk P L) (hx : ev T x = some (.os r sz off len)) (hl : bnd T 0 lo = some l) (hh : bnd T len hi = some h) (ht : lay L t = some ti) (he : ti.td = .slice e)
    (hei : lay L e = some ei) (hsz : sz = ei.size) (h0 : 0 ≤ l) (h1 : l ≤ h) (h2 : h ≤ len) (hlen : l = 0 ∨ l < len) (hd : dstOk N dst = true) (kk : AOps P N ops rest Q (put dst (.os r sz (off + l.toNat) (h.toNat - l.toNat)) T) H) :
    AOp P N ops { dst := dst, op := .slice t x lo hi none, type := ty, pos := pos, after := after, guard := guard } rest Q T H :=
  AOp.pure (fun fr w act s st => by
    have hund := td_slice (hL _ _ ht) he
    have hv := ev_rep st hx
    generalize h3 : act.eval x = v at hv
    cases hv with
    | os _ _ _ _ cap hr hcap hmax hroom =>
    have hb := sliceBounds_run (P := P) (w := w) (isS := true) (len := len) (cap := cap) st hl hh h0 h1 (by omega)
    refine ⟨.slice (if cap = l.toNat then some ⟨r, off * sz, none⟩ else some ((⟨r, off * sz, none⟩ : Addr).add (l.toNat * ei.size))) (h.toNat - l.toNat) (cap - l.toNat), ?_, ?_⟩
    · simp only [execOp, h3, Instr.sliceAt, Instr.slice, Sem.run_bind, Sem.run_pure, Result.andThen_ok, run_underlying hund, Option.map_none, hb, sizeOf_run (hL _ _ hei), Option.map_some]
    · have e1 : (if cap = l.toNat then some (⟨r, off * sz, none⟩ : Addr) else some ((⟨r, off * sz, none⟩ : Addr).add (l.toNat * ei.size))) = some ⟨r, (off + l.toNat) * sz, none⟩ := by
        split
        · rename_i hc
          have : l.toNat = 0 := by omega
          rw [this]; simp
        · rw [add_plain, ← hsz, ← Nat.add_mul]
      rw [e1]
      exact .os r sz _ _ _ hr (by omega) (by omega) (fun c T f hc => by
        have := hroom c T f hc
        rw [← this]; congr 1; omega)) hd kk
end
end Go.Abs

namespace Go.Abs
open Go
set_option linter.unusedVariables false
set_option linter.unusedSimpArgs false
def AllIn (T : Env) : Env → Prop
  | [] => True
  | (k, v) :: r => get T k = some v ∧ AllIn T r
theorem AllIn.sub {T : Env} : ∀ {T' : Env}, AllIn T T' → ∀ t x, get T' t = some x → get T t = some x
  | [], _, t, x, h => by simp [get] at h
  | (k, v) :: r, ⟨h1, h2⟩, t, x, h => by
    rw [get_put] at h
    by_cases hk : k = t
    · subst hk; rw [if_pos rfl] at h; cases h; exact h1
    · rw [if_neg hk] at h; exact AllIn.sub h2 t x h
def SubIn (T : Env) : Env → Prop
  | [] => True
  | (k, v) :: r => (∃ x, get T k = some x ∧ Sub x v) ∧ SubIn T r
theorem SubIn.sub {T : Env} : ∀ {T' : Env}, SubIn T T' → ∀ t x', get T' t = some x' → ∃ x, get T t = some x ∧ Sub x x'
  | [], _, t, x, h => by simp [get] at h
  | (k, v) :: r, ⟨h1, h2⟩, t, x, h => by
    rw [get_put] at h
    by_cases hk : k = t
    · subst hk; rw [if_pos rfl] at h; cases h; exact h1
    · rw [if_neg hk] at h; exact SubIn.sub h2 t x h
section
variable {P : Program} {N : Nat} {Q : Exit → Env → Heap → Prop} {T : Env} {H : Heap} {ops rest : List Oper} {dst : Option Nat} {ty : TypeId} {pos : String} {after : Array Edge} {guard : Option (Nat × Bool)} {L : Lay} {K : Env → Heap → Prop} {id id' : Nat}

theorem seqQ_n (h : K T H) : seqQ K Q .normal T H := h
theorem seqQ_r (h : Q .ret T H) : seqQ K Q .ret T H := h
theorem seqQ_e (h : Q (.exit id) T H) : seqQ K Q (.exit id) T H := h
theorem blockQ_n (h : Q .normal T H) : blockQ id Q .normal T H := h
theorem blockQ_r (h : Q .ret T H) : blockQ id Q .ret T H := h
theorem blockQ_e (h : Nat.beq id' id = true) (k : Q .normal T H) : blockQ id Q (.exit id') T H := by simp only [blockQ, h]; exact k
theorem blockQ_o (h : Nat.beq id' id = false) (k : Q (.exit id') T H) : blockQ id Q (.exit id') T H := by simp only [blockQ, h]; exact k

theorem AWp.condT {c : Operand} {x y : Code} (hc : ev T c = some (.bool true)) (h : AWp P N x Q T H) : AWp P N (.cond c x y) Q T H := AWp.cond hc (fun _ => h) (fun h => by cases h)
theorem AWp.condF {c : Operand} {x y : Code} (hc : ev T c = some (.bool false)) (h : AWp P N y Q T H) : AWp P N (.cond c x y) Q T H := AWp.cond hc (fun h => by cases h) (fun _ => h)
theorem AOps.wanted {o : Oper} {j d : Nat} {b : Bool} (hg : o.guard = some (j, b)) (hd : (ops[j]?).bind (·.dst) = some d) (ht : get T d = some (.bool b)) (hdst : dstOk N o.dst = true) (h : AOp P N ops o rest Q T H) : AOps P N ops (o :: rest) Q T H :=
  AOps.guarded hg hd ht hdst (fun _ => h) (fun h => by cases b <;> cases h)
theorem AOps.unwanted {o : Oper} {j d : Nat} {b b' : Bool} (hg : o.guard = some (j, b)) (hd : (ops[j]?).bind (·.dst) = some d) (ht : get T d = some (.bool b')) (hb : Bool.xor b b' = true) (hdst : dstOk N o.dst = true) (h : AOps P N ops rest Q (put o.dst (.tup []) T) H) : AOps P N ops (o :: rest) Q T H :=
  AOps.guarded hg hd ht hdst (fun h => by subst h; cases b' <;> cases hb) (fun _ => h)
theorem AOps.unwantedU {o : Oper} {j d : Nat} {b : Bool} {l : List A} (hg : o.guard = some (j, b)) (hd : (ops[j]?).bind (·.dst) = some d) (ht : get T d = some (.tup l)) (hdst : dstOk N o.dst = true) (h : AOps P N ops rest Q (put o.dst (.tup []) T) H) : AOps P N ops (o :: rest) Q T H := by
  refine ⟨fun fr w a s st => ?_⟩
  have hy : yielded ops.toArray a.tmps j = none := by
    obtain ⟨v, hv, hr⟩ := st.at_ d _ ht
    cases hr
    unfold yielded
    simp only [List.getElem?_toArray, hd, Option.bind_some, hv]
  unfold wpList
  rw [if_neg (by simp [Region.wanted, hg, hy])]
  exact h.out fr w _ s (st.put hdst (Rep.tup_of .nil))
/-- A slot's bool: both ways. -/
theorem AOps.boolCase {t : Nat} {b : Bool} (ht : get T t = some (.bool b)) (h1 : b = true → AOps P N ops rest Q ((t, .bool true) :: T) H) (h2 : b = false → AOps P N ops rest Q ((t, .bool false) :: T) H) : AOps P N ops rest Q T H := by
  cases b with
  | true => exact AOps.slot ht (Sub.refl _) (h1 rfl)
  | false => exact AOps.slot ht (Sub.refl _) (h2 rfl)
/-- The guard's bool is not known: both ways. -/
theorem AOps.guardCase {o : Oper} {j d : Nat} {b b' : Bool} (hg : o.guard = some (j, b)) (hd : (ops[j]?).bind (·.dst) = some d) (ht : get T d = some (.bool b')) (h1 : b' = true → AOps P N ops (o :: rest) Q ((d, .bool true) :: T) H)
    (h2 : b' = false → AOps P N ops (o :: rest) Q ((d, .bool false) :: T) H) : AOps P N ops (o :: rest) Q T H := AOps.boolCase ht h1 h2
theorem AOp.pickT {c x y : Operand} {v : A} (hc : ev T c = some (.bool true)) (h : ev T x = some v) (hd : dstOk N dst = true) (k : AOps P N ops rest Q (put dst v T) H) :
    AOp P N ops { dst := dst, op := .pick c x y, type := ty, pos := pos, after := after, guard := guard } rest Q T H := AOp.pick hc h hd k
theorem AOp.pickF {c x y : Operand} {v : A} (hc : ev T c = some (.bool false)) (h : ev T y = some v) (hd : dstOk N dst = true) (k : AOps P N ops rest Q (put dst v T) H) :
    AOp P N ops { dst := dst, op := .pick c x y, type := ty, pos := pos, after := after, guard := guard } rest Q T H := AOp.pick hc h hd k

theorem AOps.dropL : ∀ (G : Heap), AOps P N ops rest Q T H → AOps P N ops rest Q T (G ++ H)
  | [], k => k
  | p :: G, k => AOps.drop (AOps.dropL G k)
theorem AWp.dropL {c : Code} : ∀ (G : Heap), AWp P N c Q T H → AWp P N c Q T (G ++ H)
  | [], k => k
  | p :: G, k => AWp.drop (AWp.dropL G k)
/-- A function that only reckons. -/
def PTr (P : Program) (f : FuncId) (args : List A) (v : A) : Prop := Tr P f args [] fun r _ => r = v
theorem AOp.callP {callee : Operand} {args : List Operand} {ats : Array TypeId} {f : FuncId} {first cap as : List A} {v : A} (hf : ev T callee = some (.fn f first cap)) (ha : evs T args = some as) (hd : dstOk N dst = true)
    (ht : PTr P f (first ++ as ++ cap) v) (k : AOps P N ops rest Q (put dst v T) H) :
    AOp P N ops { dst := dst, op := .call { callee := .value callee, args := args.toArray, argTypes := ats }, type := ty, pos := pos, after := after, guard := guard } rest Q T H :=
  AOp.callFn hf ha hd (List.Perm.refl ([] ++ H)) ht fun r H' h1 => by subst h1; exact AOps.dropL H' k
theorem PTr.of_body {f : FuncId} {fn : Func} {c : Code} {args : List A} {v : A} (hf : P.funcs[f]? = some fn) (hb : fn.body = some c) (hn : (fn.name == "runtime.NumGoroutine") = false) (hN : args.length + (fn.ntmps - args.length) = N)
    (h : AWp P N c (bodyQ P fn N fun r _ => r = v) (argEnv 0 args) []) : PTr P f args v := Tr.of_body hf hb hn hN h
theorem PTr.of_bodyQ {f : FuncId} {fn : Func} {c : Code} {args : List A} {v : A} (hf : P.funcs[f]? = some fn) (hb : fn.body = some c) (hn : (fn.name == "runtime.NumGoroutine") = false) (hN : args.length + (fn.ntmps - args.length) = N)
    (h : ∀ Q : Exit → Env → Heap → Prop, (∀ T H, ResOk P fn N T H v → Q .ret T H) → (∀ T H, ResOk P fn N T H v → Q .normal T H) → AWp P N c Q (argEnv 0 args) []) : PTr P f args v :=
  Tr.of_body hf hb hn hN (h _ (fun _ _ h => ⟨v, h, rfl⟩) (fun _ _ h => ⟨v, h, rfl⟩))
theorem PTr.sub {f : FuncId} {args args' : List A} {v : A} (h : PTr P f args v) (hs : ∀ (w : World) (o : Nat → Prop) (vs : List Value), RepL w o args' vs → RepL w o args vs) : PTr P f args' v :=
  ⟨h.can, fun fr w vs s a => h.run fr w vs s (hs w _ vs a)⟩

/-! What is known of a value for its being one. -/
def Known (x : A) (φ : Prop) : Prop := ∀ (w : World) (o : Nat → Prop) (v : Value), Rep w o x v → φ
theorem Known.int (k : IntKind) (n : Int) : Known (.int k n) (inR k n) := fun _ _ _ h => by cases h; assumption
theorem Known.str (s : List UInt8) : Known (.str s) (s.length ≤ maxLen) := fun _ _ _ h => by cases h; assumption
theorem Known.ds (l : List (List A)) : Known (.ds l) (l.length ≤ maxLen) := fun _ _ _ h => by
  rcases h.ds_inv with ⟨rfl, _⟩ | ⟨a, cap, sz, _, h1, h2, _⟩
  · simp
  · omega
theorem Known.agg {l : List A} {x : A} {φ : Prop} (hx : x ∈ l) (h : Known x φ) : Known (.agg l) φ := fun w o v hr => by
  obtain ⟨cs, _, hl⟩ := hr.agg_inv
  obtain ⟨i, hi⟩ := List.getElem?_of_mem hx
  obtain ⟨u, _, hu⟩ := hl.get i x hi
  exact h w o u hu
theorem Known.cell {l : List (List A)} {e : List A} {x : A} {φ : Prop} (he : e ∈ l) (hx : x ∈ e) (h : Known x φ) : Known (.ds l) φ := fun w o v hr => by
  rcases hr.ds_inv with ⟨rfl, _⟩ | ⟨a, cap, sz, _, _, _, h3⟩
  · cases he
  · obtain ⟨i, hi⟩ := List.getElem?_of_mem he
    obtain ⟨_, vs, hvs, _⟩ := h3 i e hi
    obtain ⟨j, hj⟩ := List.getElem?_of_mem hx
    obtain ⟨u, _, hu⟩ := hvs.get j x hj
    exact h w o u hu
theorem Known.all {x : A} {α : Type} {p : α → Prop} {φ : α → Prop} (h : ∀ a, p a → Known x (φ a)) : Known x (∀ a, p a → φ a) := fun w o v hr a ha => h a ha w o v hr
theorem Known.and {x : A} {φ ψ : Prop} (h : Known x φ) (k : Known x ψ) : Known x (φ ∧ ψ) := fun w o v hr => ⟨h w o v hr, k w o v hr⟩
theorem Known.dp {l : List A} {x : A} {φ : Prop} (hx : x ∈ l) (h : Known x φ) : Known (.dp l) φ := fun w o v hr => by
  obtain ⟨a, vs, _, hvs, _⟩ := hr.dp_inv
  obtain ⟨i, hi⟩ := List.getElem?_of_mem hx
  obtain ⟨u, _, hu⟩ := hvs.get i x hi
  exact h w o u hu
theorem AWp.know {c : Code} {t : Nat} {x : A} {φ : Prop} (ht : get T t = some x) (hk : Known x φ) (h : φ → AWp P N c Q T H) : AWp P N c Q T H :=
  ⟨fun fr w a s st => by
    obtain ⟨v, _, hr⟩ := st.at_ t _ ht
    exact (h (hk _ _ _ hr)).out fr w a s st⟩
theorem AOps.know {t : Nat} {x : A} {φ : Prop} (ht : get T t = some x) (hk : Known x φ) (h : φ → AOps P N ops rest Q T H) : AOps P N ops rest Q T H :=
  ⟨fun fr w a s st => by
    obtain ⟨v, _, hr⟩ := st.at_ t _ ht
    exact (h (hk _ _ _ hr)).out fr w a s st⟩
theorem nxt {k n : Nat} (h : k < n) (hn : n ≤ maxLen) : A.int .i64 (IntKind.i64.wrap ((k : Int) + 1)) = .int .i64 ((k + 1 : Nat) : Int) := by
  simp only [maxLen] at hn
  congr 1
  rw [IntKind.wrap_i64]; omega

/-- The loop, by induction on a measure. -/
theorem AWp.loopM {α : Type} {c : Code} (μ : α → Nat) (E : α → Env) (G : α → Heap) (ok : α → Prop) (a0 : α) (h0 : ok a0) (hs : AllIn T (E a0)) (hH : H.Perm (G a0))
    (step : ∀ a, ok a → (∀ b, ok b → μ b < μ a → AIn P N c Q (E b) (G b)) → AWp P N c (seqQ (AIn P N c Q) Q) (E a) (G a)) : AWp P N (.loop c) Q T H := by
  have key : ∀ n a, μ a = n → ok a → AWp P N c (seqQ (AIn P N c Q) Q) (E a) (G a) := by
    intro n
    induction n using Nat.strongRecOn with
    | _ n ih => exact fun a hn ha => step a ha fun b hb hlt => AIn.round (ih (μ b) (hn ▸ hlt) b rfl hb)
  exact AWp.sub hs.sub (AWp.perm hH (AIn.toRound (key _ a0 rfl h0)))
/-- The next round. -/
theorem AIn.next {c : Code} {T' : Env} {H' : Heap} (h : AIn P N c Q T' H') (hs : AllIn T T') (hH : H.Perm H') : AIn P N c Q T H := AIn.sub hs.sub (AIn.perm hH h)
theorem AIn.nextS {c : Code} {T' : Env} {H' : Heap} (h : AIn P N c Q T' H') (hs : SubIn T T') (hH : H.Perm H') : AIn P N c Q T H := by
  refine AIn.perm hH ⟨fun fr w a s st => h.out fr w a s ?_⟩
  exact st.cast hs.sub
theorem bodyQ_r {fn : Func} {R : A → Heap → Prop} {r : A} (h : ResOk P fn N T H r) (k : R r H) : bodyQ P fn N R .ret T H := ⟨r, h, k⟩
theorem bodyQ_n {fn : Func} {R : A → Heap → Prop} {r : A} (h : ResOk P fn N T H r) (k : R r H) : bodyQ P fn N R .normal T H := ⟨r, h, k⟩

/-! Numbers. -/
theorem wrap64_id {n : Int} (h1 : -9223372036854775808 ≤ n) (h2 : n ≤ 9223372036854775807) : IntKind.i64.wrap n = n := by rw [IntKind.wrap_i64]; omega
end
end Go.Abs

namespace Go.Abs
open Go
set_option linter.unusedVariables false
set_option linter.unusedSimpArgs false
section
variable {P : Program} {N : Nat} {Q : Exit → Env → Heap → Prop} {T : Env} {H : Heap} {ops rest : List Oper} {dst : Option Nat} {ty : TypeId} {pos : String} {after : Array Edge} {guard : Option (Nat × Bool)} {L : Lay}

/-! Against nil. -/
def nilOf : A → TD → Option Bool
  | .nilp, .pointer _ => some true
  | .ptr _ _ _ _, .pointer _ => some false
  | .dp _, .pointer _ => some false
  | .nils, .slice _ => some true
  | .os _ _ _ _, .slice _ => some false
  | .nilm, .map _ _ => some true
  | .map _, .map _ _ => some false
  | .nilf, .func => some true
  | .fn _ _ _, .func => some false
  | _, _ => none
def isNilC : A → Bool
  | .nilp | .nils | .nilm | .nilf => true
  | _ => false
theorem td_pointer {t : Nat} {i : TI} (h : TIOk P t i) {e : Nat} (he : i.td = .pointer e) : P.underlying t = some (.pointer e) := by
  obtain ⟨d, h1, h2⟩ := h.und
  rw [he] at h2
  cases d <;> simp [tdOf] at h2
  subst h2; exact h1
theorem td_func {t : Nat} {i : TI} (h : TIOk P t i) (he : i.td = .func) : ∃ a b c, P.underlying t = some (.func a b c) := by
  obtain ⟨d, h1, h2⟩ := h.und
  rw [he] at h2
  cases d <;> simp [tdOf] at h2
  exact ⟨_, _, _, h1⟩
theorem equal_unf (t : TypeId) (x y : Value) : Op.equal t x y = Op.equalIn (9999 + 1) t x y := rfl
def refV : Value → Bool
  | .pointer _ | .slice _ _ _ | .map _ | .func _ _ _ | .nilFunc => true
  | _ => false
theorem refV_of {w : World} {o : Nat → Prop} {x : A} {u : Value} {td : TD} (hu : Rep w o x u) (h : (nilOf x td).isSome = true) : refV u = true := by
  cases hu <;> first | rfl | (cases td <;> cases h)
theorem guard_ref {op : BinOp} {t : TypeId} {x y : Operand} {u v : Value} (h : refV u = true) : eqGuard op t x y u v = Pure.pure () := by
  cases u <;> first
    | exact eqGuard_at_pointer .. | exact eqGuard_at_slice .. | exact eqGuard_at_map .. | exact eqGuard_at_func .. | exact eqGuard_at_nilFunc .. | cases h
theorem binOp_ref_eql {t : TypeId} {u v : Value} (h : refV u = true) (k : refV v = true) : binOp .eql t u v = (do Pure.pure (.bool (← Op.equal t u v))) := by
  cases u <;> first | (cases h; done) | (cases v <;> first | (cases k; done) | (simp only [binOp]))
theorem binOp_ref_neq {t : TypeId} {u v : Value} (h : refV u = true) (k : refV v = true) : binOp .neq t u v = (do Pure.pure (.bool (!(← Op.equal t u v)))) := by
  cases u <;> first | (cases h; done) | (cases v <;> first | (cases k; done) | (simp only [binOp]))
theorem eqIn_ptr (w : World) (d t e : Nat) (a : Option Addr) (h : P.underlying t = some (.pointer e)) : (Op.equalIn (d + 1) t (.pointer a) (.pointer none)).run P w = .ok a.isNone w := by
  cases a <;> simp [Op.equalIn, run_underlying h]
theorem eqIn_slice (w : World) (d t e : Nat) (a : Option Addr) (n c : Nat) (h : P.underlying t = some (.slice e)) : (Op.equalIn (d + 1) t (.slice a n c) (.slice none 0 0)).run P w = .ok a.isNone w := by
  cases a <;> simp [Op.equalIn, run_underlying h]
theorem eqIn_map (w : World) (d t k e : Nat) (a : Option Nat) (h : P.underlying t = some (.map k e)) : (Op.equalIn (d + 1) t (.map a) (.map none)).run P w = .ok a.isNone w := by
  cases a <;> simp [Op.equalIn, run_underlying h]
theorem eqIn_fn (w : World) (d t : Nat) (f : Fn) (x y : Array Value) {p q : Array Nat} {r : Bool} (h : P.underlying t = some (.func p q r)) : (Op.equalIn (d + 1) t (.func f x y) .nilFunc).run P w = .ok false w := by
  simp [Op.equalIn, run_underlying h]
theorem eqIn_nilfn (w : World) (d t : Nat) {p q : Array Nat} {r : Bool} (h : P.underlying t = some (.func p q r)) : (Op.equalIn (d + 1) t .nilFunc .nilFunc).run P w = .ok true w := by
  simp [Op.equalIn, run_underlying h]
theorem cmpNil_run {t : Nat} {i : TI} (hi : TIOk P t i) {w : World} {o : Nat → Prop} {x y : A} {u v : Value} {b : Bool} (hu : Rep w o x u) (hv : Rep w o y v) (hn : nilOf x i.td = some b) (hy : isNilC y = true) (hty : (nilOf y i.td).isSome = true) :
    (Op.equal t u v).run P w = .ok b w := by
  rw [equal_unf]
  cases htd : i.td with
  | pointer e =>
    rw [htd] at hn hty
    cases hv <;> first | (cases hy; done) | (cases hty; done) | skip
    cases hu <;> first | (cases hn; done) | (cases hn; exact eqIn_ptr w 9999 t e _ (td_pointer hi htd))
  | slice e =>
    rw [htd] at hn hty
    cases hv <;> first | (cases hy; done) | (cases hty; done) | skip
    cases hu <;> first | (cases hn; done) | (cases hn; exact eqIn_slice w 9999 t e _ _ _ (td_slice hi htd))
  | map k e =>
    rw [htd] at hn hty
    cases hv <;> first | (cases hy; done) | (cases hty; done) | skip
    cases hu <;> first | (cases hn; done) | (cases hn; exact eqIn_map w 9999 t k e _ (td_map hi htd))
  | func =>
    rw [htd] at hn hty
    obtain ⟨p, q, r, hf⟩ := td_func hi htd
    cases hv <;> first | (cases hy; done) | (cases hty; done) | skip
    cases hu <;> first | (cases hn; done) | (cases hn; exact eqIn_fn w 9999 t _ _ _ hf) | (cases hn; exact eqIn_nilfn w 9999 t hf)
  | _ => rw [htd] at hn; cases x <;> cases hn
theorem AOp.cmpNil {op : BinOp} {xt yt : TypeId} {x y : Operand} {p q r : A} {ti : TI} {b : Bool} (hL : LayOk P L) (hx : ev T x = some p) (hy : ev T y = some q) (ht : lay L xt = some ti) (hn : nilOf p ti.td = some b) (hq : isNilC q = true) (hqt : (nilOf q ti.td).isSome = true)
    (h : (match op with | .eql => some (A.bool b) | .neq => some (A.bool !b) | _ => none) = some r) (hd : dstOk N dst = true) (kk : AOps P N ops rest Q (put dst r T) H) :
    AOp P N ops { dst := dst, op := .binOp op xt x y yt, type := ty, pos := pos, after := after, guard := guard } rest Q T H :=
  AOp.pure (fun fr w act _ st => by
    have hu := ev_rep st hx
    have hv := ev_rep st hy
    have hq' := cmpNil_run (P := P) (hL _ _ ht) hu hv hn hq hqt
    have r1 := refV_of hu (by rw [hn]; rfl)
    have r2 := refV_of hv hqt
    cases op <;> simp only at h <;> first | (cases h; done) | skip
    · cases h
      exact ⟨.bool b, by simp only [execOp, guard_ref r1, Sem.run_bind, Sem.run_pure, Result.andThen_ok, binOp_ref_eql r1 r2, hq'], .bool _⟩
    · cases h
      exact ⟨.bool !b, by simp only [execOp, guard_ref r1, Sem.run_bind, Sem.run_pure, Result.andThen_ok, binOp_ref_neq r1 r2, hq'], .bool _⟩) hd kk

/-! min, max of two numbers. -/
theorem AOp.min2 {x y : Operand} {ats : Array TypeId} {k k' : IntKind} {a b : Int} (hx : ev T x = some (.int k a)) (hy : ev T y = some (.int k' b)) (hk : k = k') (hd : dstOk N dst = true) (kk : AOps P N ops rest Q (put dst (.int k (if b < a then b else a)) T) H) :
    AOp P N ops { dst := dst, op := .call { callee := .builtin .min, args := [x, y].toArray, argTypes := ats }, type := ty, pos := pos, after := after, guard := guard } rest Q T H :=
  AOp.pure (fun fr w act _ st => by
    have hu := ev_rep st hx
    have hv := ev_rep st hy
    generalize h1 : act.eval x = u at hu
    generalize h2 : act.eval y = v at hv
    cases hu with | int _ _ ha =>
    cases hv with | int _ _ hb =>
    subst hk
    exact ⟨.int k (if b < a then b else a), by simp only [execOp, resolve, invoke, builtin, Sem.run_bind, Sem.run_pure, Result.andThen_ok, List.map_toArray, List.map_cons, List.map_nil, h1, h2]; simp [Builtin.min_, Builtin.min2], .int _ _ (by split; exact hb; exact ha)⟩) hd kk
theorem AOp.max2 {x y : Operand} {ats : Array TypeId} {k k' : IntKind} {a b : Int} (hx : ev T x = some (.int k a)) (hy : ev T y = some (.int k' b)) (hk : k = k') (hd : dstOk N dst = true) (kk : AOps P N ops rest Q (put dst (.int k (if b > a then b else a)) T) H) :
    AOp P N ops { dst := dst, op := .call { callee := .builtin .max, args := [x, y].toArray, argTypes := ats }, type := ty, pos := pos, after := after, guard := guard } rest Q T H :=
  AOp.pure (fun fr w act _ st => by
    have hu := ev_rep st hx
    have hv := ev_rep st hy
    generalize h1 : act.eval x = u at hu
    generalize h2 : act.eval y = v at hv
    cases hu with | int _ _ ha =>
    cases hv with | int _ _ hb =>
    subst hk
    exact ⟨.int k (if b > a then b else a), by simp only [execOp, resolve, invoke, builtin, Sem.run_bind, Sem.run_pure, Result.andThen_ok, List.map_toArray, List.map_cons, List.map_nil, h1, h2]; simp [Builtin.max_, Builtin.max2], .int _ _ (by split; exact hb; exact ha)⟩) hd kk

/-! make([]T, n) -/
theorem AOp.makeSlice {t e : Nat} {x y : Operand} {k k' : IntKind} {n : Nat} {ti ei : TI} (hL : LayOk P L) (hx : ev T x = some (.int k n)) (hy : ev T y = some (.int k' n)) (ht : lay L t = some ti) (he : ti.td = .slice e) (hei : lay L e = some ei)
    (hpos : Nat.ble 1 ei.size = true) (hzl : Nat.beq ei.zero.length ei.size = true) (hl : allLeaf ei.zero = true) (hb : ei.bytes * n ≤ 281474976710656) (hm : n ≤ maxLen) (hd : dstOk N dst = true)
    (kk : ∀ r, r ∉ keys H → AOps P N ops rest Q (put dst (.os r ei.size 0 n) T) ((r, .row e ei.size (List.replicate n ei.zero)) :: H)) :
    AOp P N ops { dst := dst, op := .makeSlice t x y, type := ty, pos := pos, after := after, guard := guard } rest Q T H := by
  have hpos := Nat.le_of_ble_eq_true hpos
  have hzl := Nat.eq_of_beq_eq_true hzl
  refine AOp.sem (R := fun v' H' => ∃ r, r ∉ keys H ∧ v' = .os r ei.size 0 n ∧ H' = (r, .row e ei.size (List.replicate n ei.zero)) :: H) (fun fr w act s st => ?_) hd ?_
  · have hu := ev_rep st hx
    have hv := ev_rep st hy
    generalize h1 : act.eval x = u at hu
    generalize h2 : act.eval y = v at hv
    cases hu
    cases hv
    obtain ⟨info, z, hi0, hi1, hi2, hi3, hi4, hi5, _⟩ := (hL _ _ hei).info
    have h63 : ((n : Nat) : Int) ≤ 9223372036854775807 := by simp only [maxLen] at hm; omega
    have hbb : (info.bytes : Int) * ((n : Nat) : Int) ≤ 281474976710656 := by
      rw [hi2]
      have h : ((ei.bytes * n : Nat) : Int) ≤ 281474976710656 := by omega
      rwa [Int.natCast_mul] at h
    have hr := run_make (P := P) w t e info z (td_slice (hL _ _ ht) he) hi0 hi3 k k' n n (by omega) (Int.le_refl _) hbb h63
    simp only [Int.toNat_natCast] at hr
    have hmc : RepL w (own fr H) (rep n ei.zero) (madeCells z.cells (n * info.size)).toList := by
      have := zeros_rep (w := w) (o := own fr H) (hi5 _ _) (by omega) n
      rw [hi1, ← hi4]; exact this
    refine ⟨w.alloc (.cells (madeCells z.cells (n * info.size)) e), .os w.heap.size ei.size 0 n, .slice (some ⟨w.heap.size, 0, none⟩) n n, _, .inl ?_, ⟨w.heap.size, (own_new s).1, rfl, rfl⟩, s.new ?_, ?_, Ext.new H w _ _⟩
    · simp only [execOp, h1, h2, Sem.run_bind, hr, Result.andThen_ok, Sem.run_pure]
    · refine blkOk_of_flat (vs := (madeCells z.cells (n * info.size)).toList) (by rw [heap_alloc_new]) (fun i hi => by rw [List.getElem_replicate]; exact hzl) (hmc.mono (Ext.new H w _ (.row e ei.size (List.replicate n ei.zero))).stays) ?_ (fun j u hj => by rw [Array.getElem?_toList] at hj; exact hj)
      refine RepL.flatLeaf fun c hc => ?_
      rw [List.eq_of_mem_replicate hc]; exact hl
    · have := Rep.os (w := w.alloc (.cells (madeCells z.cells (n * info.size)) e)) (own := own fr ((w.heap.size, .row e ei.size (List.replicate n ei.zero)) :: H)) w.heap.size ei.size 0 n n (by simp) (Nat.le_refl _) hm (fun c' T' f h => by
        rw [heap_alloc_new] at h
        cases h
        rw [Nat.zero_add, size_madeCells, hi1])
      simpa using this
  · rintro v' H' ⟨r, h1, rfl, rfl⟩
    exact kk r h1

/-! Structs of numbers, bools and strings: equal? -/
def eqLeaf : TD → A → A → Option Bool
  | .int _, .int k a, .int k' b => match decide (k = k') with | true => some (a == b) | false => none
  | .bool, .bool a, .bool b => some (a == b)
  | .string, .str a, .str b => some (a == b)
  | _, _, _ => none
/-- Field by field, as Go does. -/
def eqFieldsA (L : Lay) : List (Nat × Nat) → List A → List A → Option Bool
  | [], _, _ => some true
  | (off, ft) :: fs, xs, ys => match lay L ft with
    | some fi => match fi.td.isAgg, xs[off]?, ys[off]? with
      | false, some a, some b => match eqLeaf fi.td a b with
        | some c => match eqFieldsA L fs xs ys with
          | some r => some (c && r)
          | none => none
        | none => none
      | _, _, _ => none
    | none => none
theorem eqLeaf_run {t : Nat} {fi : TI} (hti : TIOk P t fi) {w : World} {o : Nat → Prop} {a b : A} {u v : Value} {c : Bool} (hu : Rep w o a u) (hv : Rep w o b v) (h : eqLeaf fi.td a b = some c) (d : Nat) : (Op.equalIn (d + 1) t u v).run P w = .ok c w := by
  cases htd : fi.td with
  | int k0 =>
    rw [htd] at h
    cases hu <;> first | (cases h; done) | skip
    cases hv <;> first | (cases h; done) | skip
    simp only [eqLeaf] at h
    split at h
    · rename_i hk
      have hk := of_decide_eq_true hk
      subst hk
      cases h
      exact run_equalIn_int w d t _ _ _ _ (td_int hti htd)
    · cases h
  | bool =>
    rw [htd] at h
    cases hu <;> first | (cases h; done) | skip
    cases hv <;> first | (cases h; done) | skip
    cases h
    have hund : P.underlying t = some .bool := by
      obtain ⟨dd, e1, e2⟩ := hti.und
      rw [htd] at e2
      cases dd <;> simp [tdOf] at e2
      exact e1
    exact run_equalIn_bool' w d t _ _ hund
  | string =>
    rw [htd] at h
    cases hu <;> first | (cases h; done) | skip
    rename_i s1 _
    cases hv <;> first | (cases h; done) | skip
    rename_i s2 _
    cases h
    have := run_equalIn_string (P := P) w d t ⟨s1.toArray⟩ ⟨s2.toArray⟩ (td_string hti htd)
    rw [ByteArray.toList_mk, ByteArray.toList_mk] at this
    exact this
  | _ => rw [htd] at h; cases a <;> cases h
/-- What is asked of a struct's type, reckoned once. -/
def EqT (P : Program) (t : TypeId) : Prop := P.underlying t = some (.struct (P.fieldsOf t)) ∧ P.stoodInHeld t = false ∧ P.eqGuardType P.depth t = false ∧ ∀ f ∈ (P.fieldsOf t).toList, f.name ≠ "_"
theorem eqFields_run (hL : LayOk P L) {w : World} {o : Nat → Prop} {xs ys : List A} {us vs : Array Value} (hx : RepL w o xs us.toList) (hy : RepL w o ys vs.toList) (d : Nat) : ∀ (fs : List Field) (r : Bool), (∀ f ∈ fs, f.name ≠ "_") → eqFieldsA L (fs.map fun f => (f.offset, f.type)) xs ys = some r →
    (Op.eqFields (d + 1) us vs fs).run P w = .ok r w
  | [], r, _, h => by cases h; rfl
  | f :: fs, r, hn, h => by
    simp only [List.map_cons, eqFieldsA] at h
    split at h
    case h_2 => cases h
    rename_i fi hfi
    split at h
    case h_2 => cases h
    rename_i a b hnag ha hb
    split at h
    case h_2 => cases h
    rename_i c hc
    split at h
    case h_2 => cases h
    rename_i r' hr'
    cases h
    have ih := eqFields_run hL hx hy d fs r' (fun g hg => hn g (List.mem_cons_of_mem _ hg)) hr'
    obtain ⟨u, hu, hru⟩ := part_run (hL _ _ hfi) hx (o := f.offset) (v := a) (by unfold loadA; rw [hnag]; exact ha)
    obtain ⟨v, hv, hrv⟩ := part_run (hL _ _ hfi) hy (o := f.offset) (v := b) (by unfold loadA; rw [hnag]; exact hb)
    have heq := eqLeaf_run (P := P) (hL _ _ hfi) hru hrv hc d
    simp only [Op.eqFields]
    rw [if_pos (hn f List.mem_cons_self)]
    simp only [Sem.run_bind, hu, hv, heq, Result.andThen_ok, Sem.run_ite]
    cases c with
    | true => simp only [Bool.not_true, Bool.false_eq_true, if_false, Bool.true_and]; exact ih
    | false => simp
theorem AOp.eqStruct {op : BinOp} {xt yt : TypeId} {x y : Operand} {xs ys : List A} {r : A} {ti : TI} {fs : List (Nat × Nat)} {b : Bool} (hL : LayOk P L) (hE : EqT P xt) (hx : ev T x = some (.agg xs)) (hy : ev T y = some (.agg ys)) (ht : lay L xt = some ti) (htd : ti.td = .struct fs)
    (hb : eqFieldsA L fs xs ys = some b) (h : (match op with | .eql => some (A.bool b) | .neq => some (A.bool !b) | _ => none) = some r) (hd : dstOk N dst = true) (kk : AOps P N ops rest Q (put dst r T) H) :
    AOp P N ops { dst := dst, op := .binOp op xt x y yt, type := ty, pos := pos, after := after, guard := guard } rest Q T H :=
  AOp.pure (fun fr w act _ st => by
    obtain ⟨us, h1, hu⟩ := (ev_rep st hx).agg_inv
    obtain ⟨vs, h2, hv⟩ := (ev_rep st hy).agg_inv
    obtain ⟨g, e1, rfl⟩ := td_struct (hL _ _ ht) htd
    obtain ⟨f1, f2, f3, f4⟩ := hE
    have hg : P.fieldsOf xt = g := by rw [e1] at f1; cases f1; rfl
    have hfe := eqFields_run hL hu hv 9998 g.toList b (by rw [← hg]; exact f4) hb
    have hq : (Op.equalIn 10000 xt (.agg us) (.agg vs)).run P w = .ok b w := by
      rw [show (10000 : Nat) = 9999 + 1 from rfl, run_equalIn_struct w 9999 xt us vs f1 f2, hg]; exact hfe
    cases op <;> simp only at h <;> first | (cases h; done) | skip
    · cases h
      exact ⟨.bool b, by simp only [execOp, h1, h2, Sem.run_bind, Sem.run_pure, Result.andThen_ok, run_eqGuard_agg w .eql xt x y us vs f3, run_eql_struct, hq], .bool _⟩
    · cases h
      exact ⟨.bool !b, by simp only [execOp, h1, h2, Sem.run_bind, Sem.run_pure, Result.andThen_ok, run_eqGuard_agg w .neq xt x y us vs f3, run_neq_struct, hq], .bool _⟩) hd kk
theorem AOp.sliceData {x : Operand} {ats : Array TypeId} {r sz off len : Nat} (hx : ev T x = some (.os r sz off len)) (hl : 0 < len) (hd : dstOk N dst = true) (kk : AOps P N ops rest Q (put dst (.ptr r sz off 0) T) H) :
    AOp P N ops { dst := dst, op := .call { callee := .builtin .unsafeSliceData, args := [x].toArray, argTypes := ats }, type := ty, pos := pos, after := after, guard := guard } rest Q T H :=
  AOp.pure (fun fr w act _ st => by
    have hu := ev_rep st hx
    generalize h1 : act.eval x = u at hu
    cases hu with
    | os _ _ _ _ cap hrr hcap hmax hroom =>
    have hc : cap ≠ 0 := by omega
    exact ⟨.pointer (some ⟨r, off * sz + 0, none⟩), by simp only [execOp, resolve, invoke, builtin, Sem.run_bind, Sem.run_pure, Result.andThen_ok, List.map_toArray, List.map_cons, List.map_nil, h1, Lib.run_unsafeSliceData_row w _ _ _ _ _ hc]; simp, .ptr _ _ _ _⟩) hd kk
theorem AOp.sliceDataN {x : Operand} {ats : Array TypeId} (hx : ev T x = some .nils) (hd : dstOk N dst = true) (kk : AOps P N ops rest Q (put dst .nilp T) H) :
    AOp P N ops { dst := dst, op := .call { callee := .builtin .unsafeSliceData, args := [x].toArray, argTypes := ats }, type := ty, pos := pos, after := after, guard := guard } rest Q T H :=
  AOp.pure (fun fr w act _ st => by
    have hu := ev_rep st hx
    generalize h1 : act.eval x = u at hu
    cases hu
    exact ⟨.pointer none, by simp only [execOp, resolve, invoke, builtin, Sem.run_bind, Sem.run_pure, Result.andThen_ok, List.map_toArray, List.map_cons, List.map_nil, h1, Lib.run_unsafeSliceData_nil w _ _ _ _], .nilp⟩) hd kk
end
end Go.Abs

namespace Go.Abs
open Go
set_option linter.unusedVariables false
set_option linter.unusedSimpArgs false
/-- A test that nobody reckons. -/
noncomputable def gA (c : Prop) (x : Option A) : Option A := @ite _ c (Classical.propDecidable c) x none
theorem gA_pos {c : Prop} {x : Option A} (h : c) : gA c x = x := by unfold gA; rw [if_pos h]
theorem gA_some {c : Prop} {x : Option A} {v : A} (h : gA c x = some v) : c ∧ x = some v := by
  unfold gA at h
  split at h
  · rename_i hc; exact ⟨hc, h⟩
  · cases h
/-- The operations that need no memory of the call's own, reckoned. -/
noncomputable def sOp (L : Lay) (T : Env) : Op → Option A
  | .move x | .assign x => ev T x
  | .binOp op xt x y _ => match ev T x with
    | some (.int k a) => match ev T y with
      | some (.int k' b) => match decide (k = k') with
        | true => binI op k a b
        | false => none
      | _ => none
    | some (.str a) => match ev T y with
      | some (.str b) => binS op a b
      | _ => none
    | some (.bool a) => match ev T y with
      | some (.bool b) => match lay L xt with
        | some ⟨.bool, _, _, _⟩ => (match op with | .eql => some (A.bool (a == b)) | .neq => some (A.bool !(a == b)) | _ => none)
        | _ => none
      | _ => none
    | some p => match ev T y with
      | some q => match lay L xt with
        | some ti => match nilOf p ti.td, isNilC q, (nilOf q ti.td).isSome with
          | some b, true, true => (match op with | .eql => some (A.bool b) | .neq => some (A.bool !b) | _ => none)
          | _, _, _ => none
        | none => none
      | none => none
    | none => none
  | .unOp .not _ x => match ev T x with
    | some (.bool b) => some (.bool (!b))
    | _ => none
  | .unOp .neg _ x => match ev T x with
    | some (.int k a) => some (.int k (k.wrap (0 - a)))
    | _ => none
  | .extract x i => match ev T x with
    | some (.tup l) => l[i]?
    | _ => none
  | .fieldAddr t x f => match lay L t with
    | some ⟨.struct fs, _, _, _⟩ => match fs[f]? with
      | some (off, ft) => match lay L ft with
        | some fi => match Nat.beq fi.size 0 with
          | true => none
          | false => match ev T x with
            | some (.ptr r sz i o) => some (.ptr r sz i (o + off))
            | some (.dp cells) => some (.dp (cells.drop off))
            | _ => none
        | none => none
      | none => none
    | _ => none
  | .load t x => match ev T x with
    | some (.dp cells) => match lay L t with
      | some ti => loadA ti cells 0
      | none => none
    | _ => none
  | .field t x f => match ev T x with
    | some (.agg cells) => match lay L t with
      | some ⟨.struct fs, _, _, _⟩ => match fs[f]? with
        | some (off, ft) => match lay L ft with
          | some fi => loadA fi cells off
          | none => none
        | none => none
      | _ => none
    | _ => none
  | .call { callee := .builtin .len, args := ⟨[x]⟩, argTypes := ⟨[t]⟩ } => match lay L t with
    | some ti => match ev T x with
      | some v => match (match ti.td with | .string => true | .slice _ => true | _ => false), strOk ti.td v with
        | true, true => match lenA v with
          | some n => some (.int .i64 n)
          | none => none
        | _, _ => none
      | none => none
    | none => none
  | .pick c a b => match ev T c with
    | some (.bool true) => ev T a
    | some (.bool false) => ev T b
    | _ => none
  | .convert src dt x => match ev T x with
    | some (.int _ a) => match lay L src with
      | some _ => match lay L dt with
        | some ⟨.int k', _, _, _⟩ => some (.int k' (k'.wrap a))
        | _ => none
      | none => none
    | _ => none
  | .nilCheck x => match ev T x with
    | some (.ptr r sz i o) => some (.ptr r sz i o)
    | some (.dp cells) => some (.dp cells)
    | _ => none
  | .indexAddr t x ix => match lay L t with
    | some ⟨.slice e, _, _, _⟩ => match lay L e with
      | some ei => match ev T ix with
        | some (.int _ j) => match ev T x with
          | some (.ds elems) => gA (0 ≤ j) (match elems[j.toNat]? with
            | some c => gA (c.length = ei.size) (some (.dp c))
            | none => none)
          | some (.os r sz off len) => gA (0 ≤ j ∧ j < len ∧ sz = ei.size) (some (.ptr r sz (off + j.toNat) 0))
          | _ => none
        | _ => none
      | none => none
    | some ⟨.array n e, _, _, _⟩ => match lay L e with
      | some ei => match ev T ix with
        | some (.int _ j) => match ev T x with
          | some (.ptr r sz i o) => gA (0 ≤ j ∧ j < n) (some (.ptr r sz i (o + j.toNat * ei.size)))
          | _ => none
        | _ => none
      | none => none
    | _ => none
  | .index t x ix => match lay L t with
    | some ⟨.string, _, _, _⟩ => match ev T x with
      | some (.str s) => match ev T ix with
        | some (.int _ j) => gA (0 ≤ j) (match s[j.toNat]? with
          | some b => some (.int .u8 b.toNat)
          | none => none)
        | _ => none
      | _ => none
    | _ => none
  | .slice t x lo hi none => match lay L t with
    | some ⟨.string, _, _, _⟩ => match ev T x with
      | some (.str s) => match bnd T 0 lo, bnd T s.length hi with
        | some l, some h => gA (0 ≤ l ∧ l ≤ h ∧ h ≤ s.length) (some (.str ((s.drop l.toNat).take (h.toNat - l.toNat))))
        | _, _ => none
      | _ => none
    | some ⟨.slice e, _, _, _⟩ => match lay L e with
      | some ei => match ev T x with
        | some (.ds elems) => match bnd T 0 lo, bnd T elems.length hi with
          | some l, some h => gA ((∀ c ∈ elems, c.length = ei.size) ∧ 0 ≤ l ∧ l ≤ h ∧ h ≤ elems.length) (some (.ds ((elems.drop l.toNat).take (h.toNat - l.toNat))))
          | _, _ => none
        | some (.os r sz off len) => match bnd T 0 lo, bnd T len hi with
          | some l, some h => gA (sz = ei.size ∧ 0 ≤ l ∧ l ≤ h ∧ h ≤ len ∧ (l = 0 ∨ l < len)) (some (.os r sz (off + l.toNat) (h.toNat - l.toNat)))
          | _, _ => none
        | _ => none
      | none => none
    | _ => none
  | .call { callee := .builtin .min, args := ⟨[x, y]⟩, argTypes := _ } => match ev T x with
    | some (.int k a) => match ev T y with
      | some (.int k' b) => match decide (k = k') with
        | true => some (.int k (if b < a then b else a))
        | false => none
      | _ => none
    | _ => none
  | .call { callee := .builtin .max, args := ⟨[x, y]⟩, argTypes := _ } => match ev T x with
    | some (.int k a) => match ev T y with
      | some (.int k' b) => match decide (k = k') with
        | true => some (.int k (if b > a then b else a))
        | false => none
      | _ => none
    | _ => none
  | .makeFunc (.func f) ⟨first⟩ ⟨cap⟩ => match evs T first, evs T cap with
    | some l, some m => some (.fn f l m)
    | _, _ => none
  | .build t ⟨parts⟩ => match evParts T parts with
    | some ps => match lay L t with
      | some ⟨.struct fs, _, _, z⟩ => match fs.all fun f => (lay L f.2).isSome with
        | true => match fillA L fs z ps with
          | some out => some (.agg out)
          | none => none
        | false => none
      | _ => none
    | none => none
  | .call { callee := .builtin .unsafeSliceData, args := ⟨[x]⟩, argTypes := _ } => match ev T x with
    | some (.os r sz off len) => gA (0 < len) (some (.ptr r sz off 0))
    | some .nils => some .nilp
    | _ => none
  | _ => none
section
variable {P : Program} {N : Nat} {Q : Exit → Env → Heap → Prop} {T : Env} {H : Heap} {ops rest : List Oper} {L : Lay}
theorem AOp.simple {o : Oper} {v : A} (hL : LayOk P L) (h : sOp L T o.op = some v) (hd : dstOk N o.dst = true) (k : AOps P N ops rest Q (put o.dst v T) H) : AOp P N ops o rest Q T H := by
  obtain ⟨dst, op, ty, pos, after, guard⟩ := o
  simp only at h hd k
  unfold sOp at h
  split at h
  · exact AOp.move h hd k
  · exact AOp.assign h hd k
  · split at h
    · rename_i k' a hx
      split at h
      · rename_i k'' b hy
        split at h
        · rename_i hk
          have hk := of_decide_eq_true hk
          subst hk
          exact AOp.binI hx hy h hd k
        · cases h
      · cases h
    · rename_i a hx
      split at h
      · rename_i b hy
        exact AOp.binS hx hy h hd k
      · cases h
    · rename_i a hx
      split at h
      · rename_i b hy
        split at h
        · rename_i ht
          exact AOp.binB hL hx hy ht rfl h hd k
        · cases h
      · cases h
    · rename_i hx
      split at h
      · rename_i hy
        split at h
        · rename_i ht
          split at h
          · rename_i hn hq hqt
            exact AOp.cmpNil hL hx hy ht hn hq hqt h hd k
          · cases h
        · cases h
      · cases h
    · cases h
  · split at h
    · rename_i b hx
      cases h
      exact AOp.not hx hd k
    · cases h
  · split at h
    · rename_i k' a hx
      cases h
      exact AOp.unI hx rfl hd k
    · cases h
  · split at h
    · rename_i l hx
      exact AOp.extract hx h hd k
    · cases h
  · split at h
    · rename_i fs s b z ht
      split at h
      · rename_i off ft hf
        split at h
        · rename_i fi hfi
          split at h
          · cases h
          · rename_i hz
            split at h
            · rename_i hx
              cases h
              exact AOp.fieldAddr hL hx ht rfl hf hfi hz hd k
            · rename_i hx
              cases h
              exact AOp.fieldAddrD hL hx ht rfl hf hfi hz hd k
            · cases h
        · cases h
      · cases h
    · cases h
  · split at h
    · rename_i hx
      split at h
      · rename_i ht
        exact AOp.loadD hL hx ht h hd k
      · cases h
    · cases h
  · split at h
    · rename_i hx
      split at h
      · rename_i ht
        split at h
        · rename_i hf
          split at h
          · rename_i hfi
            exact AOp.field hL hx ht rfl hf hfi h hd k
          · cases h
        · cases h
      · cases h
    · cases h
  · split at h
    · rename_i ht
      split at h
      · rename_i hx
        split at h
        · rename_i h1 h2
          split at h
          · rename_i hn
            cases h
            exact AOp.len hL hx ht h1 h2 hn hd k
          · cases h
        · cases h
      · cases h
    · cases h
  · split at h
    · rename_i hc
      exact AOp.pickT hc h hd k
    · rename_i hc
      exact AOp.pickF hc h hd k
    · cases h
  · split at h
    · rename_i hx
      split at h
      · rename_i hs
        split at h
        · rename_i hj
          cases h
          exact AOp.convI hL hx hs hj rfl hd k
        · cases h
      · cases h
    · cases h
  · split at h
    · rename_i hx
      cases h
      exact AOp.nilCheckP hx hd k
    · rename_i hx
      cases h
      exact AOp.nilCheckD hx hd k
    · cases h
  · -- indexAddr
    split at h
    · rename_i ht
      split at h
      · rename_i hei
        split at h
        · rename_i hi
          split at h
          · rename_i hx
            obtain ⟨h0, h⟩ := gA_some h
            split at h
            · rename_i hc
              obtain ⟨hsz, h⟩ := gA_some h
              cases h
              exact AOp.indexAddrD hL hx hi ht rfl hei h0 hc hsz hd k
            · cases h
          · rename_i hx
            obtain ⟨h0, h⟩ := gA_some h
            cases h
            exact AOp.indexAddrO hL hx hi ht rfl hei h0.1 h0.2.1 h0.2.2 hd k
          · cases h
        · cases h
      · cases h
    · rename_i ht
      split at h
      · rename_i hei
        split at h
        · rename_i hi
          split at h
          · rename_i hx
            obtain ⟨h0, h⟩ := gA_some h
            cases h
            exact AOp.indexAddrA hL hx hi ht rfl hei h0.1 h0.2 hd k
          · cases h
        · cases h
      · cases h
    · cases h
  · -- index
    split at h
    · rename_i ht
      split at h
      · rename_i hx
        split at h
        · rename_i hi
          obtain ⟨h0, h⟩ := gA_some h
          split at h
          · rename_i hb
            cases h
            exact AOp.indexS hL hx hi ht rfl h0 hb hd k
          · cases h
        · cases h
      · cases h
    · cases h
  · -- slice
    split at h
    · rename_i ht
      split at h
      · rename_i hx
        split at h
        · rename_i hl hh
          obtain ⟨h0, h⟩ := gA_some h
          cases h
          exact AOp.sliceS hL hx hl hh ht rfl h0.1 h0.2.1 h0.2.2 hd k
        · cases h
      · cases h
    · rename_i ht
      split at h
      · rename_i hei
        split at h
        · rename_i hx
          split at h
          · rename_i hl hh
            obtain ⟨h0, h⟩ := gA_some h
            cases h
            exact AOp.sliceD hL hx hl hh ht rfl hei h0.1 h0.2.1 h0.2.2.1 h0.2.2.2 hd k
          · cases h
        · rename_i hx
          split at h
          · rename_i hl hh
            obtain ⟨h0, h⟩ := gA_some h
            cases h
            exact AOp.sliceO hL hx hl hh ht rfl hei h0.1 h0.2.1 h0.2.2.1 h0.2.2.2.1 h0.2.2.2.2 hd k
          · cases h
        · cases h
      · cases h
    · cases h
  · split at h
    · rename_i hx
      split at h
      · rename_i hy
        split at h
        · rename_i hk
          cases h
          exact AOp.min2 hx hy (of_decide_eq_true hk) hd k
        · cases h
      · cases h
    · cases h
  · split at h
    · rename_i hx
      split at h
      · rename_i hy
        split at h
        · rename_i hk
          cases h
          exact AOp.max2 hx hy (of_decide_eq_true hk) hd k
        · cases h
      · cases h
    · cases h
  · split at h
    · rename_i h1 h2
      cases h
      exact AOp.makeFunc h1 h2 hd k
    · cases h
  · split at h
    · rename_i hp
      split at h
      · rename_i ht
        split at h
        · rename_i hfl
          split at h
          · rename_i ho
            cases h
            exact AOp.build hL hp ht rfl hfl ho hd k
          · cases h
        · cases h
      · cases h
    · cases h
  · split at h
    · rename_i hx
      obtain ⟨h0, h⟩ := gA_some h
      cases h
      exact AOp.sliceData hx h0 hd k
    · rename_i hx
      cases h
      exact AOp.sliceDataN hx hd k
    · cases h
  · cases h
theorem AOps.simple {o : Oper} {v : A} (hL : LayOk P L) (hg : o.guard = none) (h : sOp L T o.op = some v) (hd : dstOk N o.dst = true) (k : AOps P N ops rest Q (put o.dst v T) H) : AOps P N ops (o :: rest) Q T H :=
  AOps.plain hg (AOp.simple hL h hd k)
theorem AOps.simpleW {o : Oper} {v : A} {j d : Nat} {b : Bool} (hL : LayOk P L) (hg : o.guard = some (j, b)) (hdj : (ops[j]?).bind (·.dst) = some d) (ht : get T d = some (.bool b)) (h : sOp L T o.op = some v) (hd : dstOk N o.dst = true) (k : AOps P N ops rest Q (put o.dst v T) H) : AOps P N ops (o :: rest) Q T H :=
  AOps.wanted hg hdj ht hd (AOp.simple hL h hd k)
theorem sOp_idxD {t e : Nat} {x ix : Operand} {elems : List (List A)} {k : IntKind} {j : Int} {c : List A} {ti ei : TI} (hx : ev T x = some (.ds elems)) (hi : ev T ix = some (.int k j)) (ht : lay L t = some ti) (he : ti.td = .slice e)
    (hei : lay L e = some ei) (h0 : 0 ≤ j) (hc : elems[j.toNat]? = some c) (hsz : c.length = ei.size) : sOp L T (.indexAddr t x ix) = some (.dp c) := by
  obtain ⟨td, s, b, z⟩ := ti
  simp only at he
  subst he
  simp only [sOp, ht, hei, hi, hx]
  rw [gA_pos h0]
  simp only [hc]
  rw [gA_pos hsz]
theorem sOp_idxO {t e : Nat} {x ix : Operand} {r sz off len : Nat} {k : IntKind} {j : Int} {ti ei : TI} (hx : ev T x = some (.os r sz off len)) (hi : ev T ix = some (.int k j)) (ht : lay L t = some ti) (he : ti.td = .slice e)
    (hei : lay L e = some ei) (h0 : 0 ≤ j) (hj : j < len) (hsz : sz = ei.size) : sOp L T (.indexAddr t x ix) = some (.ptr r sz (off + j.toNat) 0) := by
  obtain ⟨td, s, b, z⟩ := ti
  simp only at he
  subst he
  simp only [sOp, ht, hei, hi, hx]
  rw [gA_pos ⟨h0, hj, hsz⟩]
theorem sOp_idxA {t e n : Nat} {x ix : Operand} {r sz i o : Nat} {k : IntKind} {j : Int} {ti ei : TI} (hx : ev T x = some (.ptr r sz i o)) (hi : ev T ix = some (.int k j)) (ht : lay L t = some ti) (he : ti.td = .array n e)
    (hei : lay L e = some ei) (h0 : 0 ≤ j) (hj : j < n) : sOp L T (.indexAddr t x ix) = some (.ptr r sz i (o + j.toNat * ei.size)) := by
  obtain ⟨td, s, b, z⟩ := ti
  simp only at he
  subst he
  simp only [sOp, ht, hei, hi, hx]
  rw [gA_pos ⟨h0, hj⟩]
theorem sOp_idxS {t : Nat} {x ix : Operand} {s : List UInt8} {k : IntKind} {j : Int} {b : UInt8} {ti : TI} (hx : ev T x = some (.str s)) (hi : ev T ix = some (.int k j)) (ht : lay L t = some ti) (he : ti.td = .string)
    (h0 : 0 ≤ j) (hb : s[j.toNat]? = some b) : sOp L T (.index t x ix) = some (.int .u8 b.toNat) := by
  obtain ⟨td, sz, by_, z⟩ := ti
  simp only at he
  subst he
  simp only [sOp, ht, hi, hx]
  rw [gA_pos h0]
  simp only [hb]
theorem sOp_cutS {t : Nat} {x : Operand} {lo hi : Option Operand} {s : List UInt8} {l h : Int} {ti : TI} (hx : ev T x = some (.str s)) (hl : bnd T 0 lo = some l) (hh : bnd T s.length hi = some h) (ht : lay L t = some ti) (he : ti.td = .string)
    (h0 : 0 ≤ l) (h1 : l ≤ h) (h2 : h ≤ s.length) : sOp L T (.slice t x lo hi none) = some (.str ((s.drop l.toNat).take (h.toNat - l.toNat))) := by
  obtain ⟨td, sz, by_, z⟩ := ti
  simp only at he
  subst he
  simp only [sOp, ht, hx, hl, hh]
  rw [gA_pos ⟨h0, h1, h2⟩]
theorem sOp_cutD {t e : Nat} {x : Operand} {lo hi : Option Operand} {elems : List (List A)} {l h : Int} {ti ei : TI} (hx : ev T x = some (.ds elems)) (hl : bnd T 0 lo = some l) (hh : bnd T elems.length hi = some h) (ht : lay L t = some ti) (he : ti.td = .slice e)
    (hei : lay L e = some ei) (hsz : ∀ c ∈ elems, c.length = ei.size) (h0 : 0 ≤ l) (h1 : l ≤ h) (h2 : h ≤ elems.length) : sOp L T (.slice t x lo hi none) = some (.ds ((elems.drop l.toNat).take (h.toNat - l.toNat))) := by
  obtain ⟨td, sz, by_, z⟩ := ti
  simp only at he
  subst he
  simp only [sOp, ht, hei, hx, hl, hh]
  rw [gA_pos ⟨hsz, h0, h1, h2⟩]
theorem sOp_cutO {t e : Nat} {x : Operand} {lo hi : Option Operand} {r sz off len : Nat} {l h : Int} {ti ei : TI} (hx : ev T x = some (.os r sz off len)) (hl : bnd T 0 lo = some l) (hh : bnd T len hi = some h) (ht : lay L t = some ti) (he : ti.td = .slice e)
    (hei : lay L e = some ei) (hsz : sz = ei.size) (h0 : 0 ≤ l) (h1 : l ≤ h) (h2 : h ≤ len) (h3 : l = 0 ∨ l < len) : sOp L T (.slice t x lo hi none) = some (.os r sz (off + l.toNat) (h.toNat - l.toNat)) := by
  obtain ⟨td, sz', by_, z⟩ := ti
  simp only at he
  subst he
  simp only [sOp, ht, hei, hx, hl, hh]
  rw [gA_pos ⟨hsz, h0, h1, h2, h3⟩]
end
end Go.Abs

