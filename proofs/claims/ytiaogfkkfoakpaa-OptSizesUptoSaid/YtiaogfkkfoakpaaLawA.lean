/- The plain law. -/
import Derived.Test.YtiaogfkkfoakpaaWalkD
import Derived.Test.YtiaogfkkfoakpaaWalkC
import Derived.Test.YtiaogfkkfoakpaaAbsE
import Derived.Test.YtiaogfkkfoakpaaDatA
set_option linter.unusedVariables false
set_option linter.unusedSimpArgs false
namespace Go.Proofs.Ytiaogfkkfoakpaa
open Go Go.Abs
set_option linter.unusedVariables false
set_option maxRecDepth 100000
set_option linter.unusedSimpArgs false

/-! The plain law: both find the same patterns valid. -/
mutual
def depthN : Pat → Nat
  | .mk _ _ _ _ _ _ l => depthL l + 1
def depthL : List Pat → Nat
  | [] => 0
  | y :: l => max (depthN y) (depthL l)
end
theorem depthN_eq (x : Pat) : depthN x = depthL x.l + 1 := by cases x; rw [depthN]; rfl
mutual
theorem depth_le : ∀ x : Pat, depthN x ≤ nodesN x
  | .mk op n mn mx nm st l => by
    rw [depthN, nodesN]
    have := depthL_le l
    omega
theorem depthL_le : ∀ l : List Pat, depthL l ≤ nodesL l
  | [] => by simp [depthL]
  | y :: l => by
    rw [depthL, nodesL]
    have := depth_le y
    have := depthL_le l
    omega
end
theorem depthL_mem {y : Pat} : ∀ {l : List Pat}, y ∈ l → depthN y ≤ depthL l
  | [], h => by cases h
  | x :: l, h => by
    rw [depthL]
    rcases List.mem_cons.1 h with rfl | h
    · omega
    · have := depthL_mem h; omega
theorem len_nodesL : ∀ l : List Pat, l.length ≤ nodesL l
  | [] => by simp
  | y :: l => by
    have := len_nodesL l
    have h : 1 ≤ nodesN y := by rw [nodesN_eq]; omega
    rw [nodesL, List.length_cons]; omega
theorem w64_id {n : Int} (h1 : -9223372036854775808 ≤ n) (h2 : n ≤ 9223372036854775807) : w64 n = n := wrap64_id h1 h2
/-! The sizes, as they are. -/
mutual
theorem szP_exact : ∀ x : Pat, nodesN x ≤ 1000000 → szP x = ((nodesN x : Int), ((opnP x).length : Int), (depthN x : Int))
  | .mk op n mn mx nm st l, h => by
    rw [nodesN] at h
    have h1 := opnL_le l
    have h2 := depthL_le l
    rw [szP, szL_exact l 1 (if op = 7 then 1 else 0) 0 (by omega) (by split <;> omega) (by omega) (by split <;> omega) (by omega) (by omega)]
    rw [nodesN, opnP, depthN, List.length_append]
    simp only [Prod.mk.injEq]
    refine ⟨by omega, by split <;> simp <;> omega, ?_⟩
    rw [w64_id (by omega) (by omega)]
    omega
theorem szL_exact : ∀ (l : List Pat) (a b c : Int), 1 ≤ a → 0 ≤ b → 0 ≤ c → b ≤ a → c ≤ a → a + nodesL l ≤ 1000001 → szL l (a, b, c) = (a + nodesL l, b + (opnL l).length, max c (depthL l))
  | [], a, b, c, _, _, hc, _, _, _ => by
    rw [szL]
    simp [nodesL, opnL, depthL]; omega
  | y :: l, a, b, c, ha, hb, hc, h1, h2, h => by
    rw [nodesL] at h
    have e1 := opn_le y
    have e2 := depth_le y
    have e3 := opnL_le l
    have e4 := depthL_le l
    rw [szL, szP_exact y (by omega)]
    simp only
    rw [w64_id (by omega) (by omega), w64_id (by omega) (by omega)]
    have hm : mxI c (depthN y) = max c (depthN y) := by unfold mxI; split <;> omega
    rw [hm, szL_exact l _ _ _ (by omega) (by omega) (by omega) (by omega) (by omega) (by omega)]
    rw [nodesL, opnL, depthL, List.length_append]
    simp only [Prod.mk.injEq]
    refine ⟨by omega, by omega, by omega⟩
end
theorem dec0 {α : Type} [DecidableEq α] (l : List α) : decide (0 < l.length) = !decide (l = []) := by cases l <;> simp
theorem dec1 (n : Nat) : (decide (1 ≤ (n : Int)) && decide ((n : Int) ≤ 1)) = decide ((n : Int) = 1) := by
  rw [← Bool.decide_and]; exact decide_eq_decide.2 (by omega)
theorem dec2 (n : Nat) : (decide (2 ≤ (n : Int)) && decide ((n : Int) ≤ 2)) = decide ((n : Int) = 2) := by
  rw [← Bool.decide_and]; exact decide_eq_decide.2 (by omega)
theorem node_eq (x : Pat) (g : Int) (k : Bool) (hl : x.l.length ≤ 60) : (nodeA x g && nodeB x k) = (nodeM x g && !(decide (x.op = 18) && k) && (!decide (x.op = 7) || inM x.n 1 g)) := by
  obtain ⟨op, n, mn, mx, nm, st, l⟩ := x
  simp only [Pat.l] at hl
  by_cases hop : op < 0 ∨ op > 18
  · have e1 : nodeM (.mk op n mn mx nm st l) g = false := by
      unfold nodeM
      simp only [Pat.op]
      simp [show ¬ op = 0 by omega, show ¬ op = 1 by omega, show ¬ op = 2 by omega, show ¬ op = 3 by omega, show ¬ op = 4 by omega, show ¬ op = 5 by omega, show ¬ op = 6 by omega, show ¬ op = 7 by omega, show ¬ op = 8 by omega, show ¬ op = 9 by omega, show ¬ op = 10 by omega, show ¬ op = 11 by omega, show ¬ op = 12 by omega, show ¬ op = 13 by omega, show ¬ op = 14 by omega, show ¬ op = 15 by omega, show ¬ op = 16 by omega, show ¬ op = 17 by omega, show ¬ op = 18 by omega]
    have e2 : inM op 0 18 = false := by
      unfold inM
      rcases hop with h | h
      · rw [decide_eq_false (by omega), Bool.false_and]
      · rw [Bool.and_eq_false_iff]; right; exact decide_eq_false (by omega)
    rw [e1]
    simp only [nodeA, Pat.op, e2, Bool.false_and]
  have hop : op = 0 ∨ op = 1 ∨ op = 2 ∨ op = 3 ∨ op = 4 ∨ op = 5 ∨ op = 6 ∨ op = 7 ∨ op = 8 ∨ op = 9 ∨ op = 10 ∨ op = 11 ∨ op = 12 ∨ op = 13 ∨ op = 14 ∨ op = 15 ∨ op = 16 ∨ op = 17 ∨ op = 18 := by omega
  rcases hop with rfl | rfl | rfl | rfl | rfl | rfl | rfl | rfl | rfl | rfl | rfl | rfl | rfl | rfl | rfl | rfl | rfl | rfl | rfl
  all_goals have hst := dec0 st
  all_goals have h1 := dec1 l.length
  all_goals have h2 := dec2 l.length
  all_goals have h6 : decide ((l.length : Int) ≤ 60) = true := decide_eq_true (by omega)
  all_goals simp [nodeA, nodeB, nodeM, nodeR, numM, partsM, inM, bareM, Pat.op, Pat.l, Pat.n, Pat.min, Pat.max, Pat.name, Pat.set, hst, h1, h2, h6]
  all_goals (try (ac_rfl; done))
theorem bes_side (op op' : Int) : besO op op' = sideM op op' := by
  unfold besO sideM
  by_cases h4 : op = 4
  · subst h4; simp
  · by_cases h5 : op = 5
    · subst h5; simp
    · simp [h4, h5]
/-! The lengths: no number leaves its range, where a pattern is no larger than it may be. -/
def B (x : Pat) : Nat := nodesN x * 20 ^ depthN x
def BL : List Pat → Nat
  | [] => 0
  | y :: l => B y + BL l
theorem BL_le (d : Nat) : ∀ l : List Pat, depthL l ≤ d → BL l ≤ nodesL l * 20 ^ d
  | [], _ => by simp [BL]
  | y :: l, h => by
    rw [depthL] at h
    have h1 := BL_le d l (by omega)
    have h2 : B y ≤ nodesN y * 20 ^ d := Nat.mul_le_mul_left _ (Nat.pow_le_pow_right (by omega) (by omega))
    rw [BL, nodesL, Nat.add_mul]
    omega
theorem BL_B (x : Pat) : 20 * BL x.l ≤ B x := by
  have h := BL_le (depthL x.l) x.l (Nat.le_refl _)
  unfold B
  rw [nodesN_eq, depthN_eq, Nat.pow_succ]
  calc 20 * BL x.l ≤ 20 * (nodesL x.l * 20 ^ depthL x.l) := Nat.mul_le_mul_left _ h
    _ = nodesL x.l * (20 ^ depthL x.l * 20) := by rw [Nat.mul_comm, Nat.mul_assoc]
    _ ≤ (1 + nodesL x.l) * (20 ^ depthL x.l * 20) := Nat.mul_le_mul_right _ (by omega)
theorem B_pos (x : Pat) : 20 ≤ B x := by
  unfold B
  rw [nodesN_eq, depthN_eq, Nat.pow_succ]
  have : 1 ≤ 20 ^ depthL x.l := Nat.one_le_pow _ _ (by omega)
  calc 20 ≤ 1 * (1 * 20) := by omega
    _ ≤ (1 + nodesL x.l) * (20 ^ depthL x.l * 20) := Nat.mul_le_mul (by omega) (Nat.mul_le_mul_right _ this)
/-- A length's two ends, in range. -/
structure In (a : Int × Int) (c : Nat) : Prop where
  lo : 0 ≤ a.1
  hi : -1 ≤ a.2
  le : a.2 = -1 ∨ a.1 ≤ a.2
  b1 : a.1 ≤ c
  b2 : a.2 ≤ c
def Gd (y : Pat) : Prop := lenP y = spanP y ∧ In (spanP y) (B y)
theorem cat_fold : ∀ (l : List Pat) (a : Int × Int) (c : Nat), (∀ y ∈ l, Gd y) → In a c → c + BL l ≤ 1000000000000000000 → lenL 4 l false a = spanC4 l a ∧ In (spanC4 l a) (c + BL l)
  | [], a, c, _, ha, _ => by
    rw [lenL, spanC4, BL]; exact ⟨rfl, ha⟩
  | y :: l, a, c, hg, ha, hc => by
    rw [BL] at hc ⊢
    obtain ⟨h1, h2⟩ := hg y List.mem_cons_self
    obtain ⟨a1, a2⟩ := a
    rw [lenL, spanC4, h1]
    generalize hb : spanP y = b at h2
    obtain ⟨b1, b2⟩ := b
    obtain ⟨p1, p2, p3, p4, p5⟩ := ha
    obtain ⟨q1, q2, q3, q4, q5⟩ := h2
    simp only at p1 p2 p3 p4 p5 q1 q2 q3 q4 q5
    have e1 : w64 (a1 + b1) = a1 + b1 := w64_id (by omega) (by omega)
    have e2 : w64 (a2 + b2) = a2 + b2 := w64_id (by omega) (by omega)
    have e : lenS 4 false (a1, a2) (b1, b2) = catS (a1, a2) (b1, b2) := by
      simp only [lenS, catS, plusM, Bool.false_eq_true, if_false, if_true, Prod.mk.injEq, true_and]
      by_cases h : a2 < 0 ∨ b2 < 0
      · rw [if_pos h, if_pos (by omega)]
      · rw [if_neg h, if_neg (by omega)]
    rw [e]
    have hin : In (catS (a1, a2) (b1, b2)) (c + B y) := by
      simp only [catS, e1, e2]
      refine ⟨by simp only; omega, by simp only; split <;> omega, by simp only; split <;> omega, by simp only; omega, by simp only; split <;> omega⟩
    obtain ⟨r1, r2⟩ := cat_fold l _ (c + B y) (fun z hz => hg z (List.mem_cons_of_mem _ hz)) hin (by omega)
    exact ⟨r1, by rw [← Nat.add_assoc]; exact r2⟩
theorem alt_fold (op : Int) (ho : op ≠ 4) : ∀ (l : List Pat) (a : Int × Int) (c : Nat), (∀ y ∈ l, Gd y) → In a c → lenL op l false a = spanA l a ∧ In (spanA l a) (c + BL l)
  | [], a, c, _, ha => by
    rw [lenL, spanA, BL]; exact ⟨rfl, ha⟩
  | y :: l, a, c, hg, ha => by
    rw [BL]
    obtain ⟨h1, h2⟩ := hg y List.mem_cons_self
    obtain ⟨a1, a2⟩ := a
    rw [lenL, spanA, h1]
    generalize hb : spanP y = b at h2
    obtain ⟨b1, b2⟩ := b
    obtain ⟨p1, p2, p3, p4, p5⟩ := ha
    obtain ⟨q1, q2, q3, q4, q5⟩ := h2
    simp only at p1 p2 p3 p4 p5 q1 q2 q3 q4 q5
    have e : lenS op false (a1, a2) (b1, b2) = altS (a1, a2) (b1, b2) := by
      simp only [lenS, altS, if_neg ho, Bool.false_eq_true, if_false, Prod.mk.injEq, true_and]
      by_cases h : b2 < 0 ∨ a2 < 0
      · rw [if_pos h]
        by_cases h' : a2 ≥ 0 ∧ (b2 < 0 ∨ b2 > a2)
        · rw [if_pos h']; omega
        · rw [if_neg h']; omega
      · rw [if_neg h]
        by_cases h' : b2 > a2
        · rw [if_pos ⟨by omega, .inr h'⟩, if_pos h']
        · rw [if_neg (by omega), if_neg h']
    rw [e]
    have hin : In (altS (a1, a2) (b1, b2)) (c + B y) := by
      simp only [altS]
      refine ⟨by simp only; split <;> omega, ?_, ?_, by simp only; split <;> omega, ?_⟩
      · simp only; split
        · omega
        · split <;> omega
      · simp only; split
        · omega
        · split <;> split <;> omega
      · simp only; split
        · omega
        · split <;> omega
    obtain ⟨r1, r2⟩ := alt_fold op ho l _ (c + B y) (fun z hz => hg z (List.mem_cons_of_mem _ hz)) hin
    exact ⟨r1, by rw [← Nat.add_assoc]; exact r2⟩
theorem nodeA_parts {x : Pat} {g : Int} (h : nodeA x g = true) : (partsM x.op).1 ≤ x.l.length ∧ x.l.length ≤ (partsM x.op).2 ∧ (x.op = 6 → 0 ≤ x.min ∧ x.min ≤ 20 ∧ (x.max = -1 ∨ 1 ≤ x.max ∧ x.min ≤ x.max ∧ x.max ≤ 20)) := by
  simp only [nodeA, inM, Bool.and_eq_true, decide_eq_true_eq] at h
  obtain ⟨_, ⟨h1, h2⟩, _, h4⟩ := h
  refine ⟨by omega, by omega, fun h6 => ?_⟩
  rw [if_pos h6] at h4
  simp only [Bool.and_eq_true, Bool.or_eq_true, decide_eq_true_eq] at h4
  obtain ⟨⟨a, b⟩, c⟩ := h4
  refine ⟨by omega, by omega, ?_⟩
  rcases c with c | ⟨c, d⟩
  · exact .inl c
  · right
    split at c <;> omega
theorem len_span (fx : Pat → Bool) (x : Pat) : ∀ (g : Int) (k : Bool), nodeV fx x g k = true → B x ≤ 1000000000000000000 → Gd x := by
  induction x using Pat.ind with | h x IH => _
  intro g k hv hB
  rw [nodeV_eq] at hv
  simp only [Bool.and_eq_true] at hv
  obtain ⟨hA, _, hL, _⟩ := hv
  obtain ⟨h1, h2, h6⟩ := nodeA_parts hA
  have hBL := BL_B x
  have hpos := B_pos x
  have hg : ∀ y ∈ x.l, Gd y := fun y hy => by
    refine IH y hy _ _ (nodeL_mem hL y hy).1 ?_
    have : ∀ l : List Pat, y ∈ l → B y ≤ BL l := by
      intro l
      induction l with
      | nil => intro h; cases h
      | cons z l ih =>
        intro h
        rw [BL]
        rcases List.mem_cons.1 h with rfl | h
        · omega
        · have := ih h; omega
    have := this x.l hy
    omega
  have hsp := spanP_eq x
  have hln := lenP_eq x
  have hin18 : 0 ≤ x.op ∧ x.op ≤ 18 := by
    simp only [nodeA, inM, Bool.and_eq_true, decide_eq_true_eq] at hA
    exact ⟨hA.1.1, hA.1.2⟩
  by_cases c1 : x.op = 1 ∨ x.op = 2 ∨ x.op = 3
  · rw [if_pos c1] at hsp hln
    unfold Gd
    rw [hsp, hln]
    exact ⟨rfl, by omega, by omega, .inr (by omega), by simp only; omega, by simp only; omega⟩
  rw [if_neg c1] at hsp hln
  by_cases c2 : x.op = 10 ∨ x.op = 14
  · rw [if_neg (by omega), if_pos c2] at hsp
    rw [if_pos c2] at hln
    unfold Gd
    rw [hsp, hln]
    exact ⟨rfl, by omega, by omega, .inl rfl, by simp only; omega, by simp only; omega⟩
  rw [if_neg c2] at hln
  by_cases c9 : x.op = 9
  · rw [if_neg (by omega), if_neg (by omega), if_neg (by omega), if_neg (by omega), if_neg (by omega)] at hsp
    rw [if_pos c9] at hln
    unfold Gd
    rw [hsp, hln]
    exact ⟨rfl, by omega, by omega, .inr (by omega), by simp only; omega, by simp only; omega⟩
  rw [if_neg c9] at hln
  by_cases c6 : x.op = 6
  · rw [if_neg (by omega), if_neg (by omega), if_pos c6] at hsp
    rw [if_pos c6] at hln
    have hlen : x.l.length = 1 := by simp [partsM, c6] at h1 h2; omega
    obtain ⟨y, hy⟩ := List.length_eq_one_iff.1 hlen
    obtain ⟨e, hin⟩ := hg y (by simp [hy])
    have eH : spanH x.l = spanP y := by rw [hy]; rfl
    have lH : lenH x.l = lenP y := by rw [hy]; rfl
    rw [eH] at hsp
    rw [lH, e] at hln
    have hBy : 20 * B y ≤ B x := by rw [hy] at hBL; simpa [BL] using hBL
    generalize spanP y = s at *
    obtain ⟨a1, a2⟩ := s
    obtain ⟨p1, p2, p3, p4, p5⟩ := hin
    simp only at p1 p2 p3 p4 p5 hsp hln
    obtain ⟨m0, m20, mm⟩ := h6 c6
    have k1 : 0 ≤ a1 * x.min := Int.mul_nonneg p1 m0
    have k2 : a1 * x.min ≤ a1 * 20 := Int.mul_le_mul_of_nonneg_left m20 p1
    have ew : w64 (a1 * x.min) = a1 * x.min := w64_id (by omega) (by omega)
    have t1 : timesM x.min a1 = a1 * x.min := by
      unfold timesM
      by_cases z : x.min = 0 ∨ a1 = 0
      · rw [if_pos z]; rcases z with z | z <;> simp [z]
      · rw [if_neg z, if_neg (by omega), Int.mul_comm]; exact ew
    unfold Gd
    by_cases z0 : a2 = 0
    · have ha1 : a1 = 0 := by omega
      subst z0 ha1
      rw [if_pos rfl] at hsp
      rw [hsp, hln]
      refine ⟨?_, by omega, by omega, .inr (by omega), by simp only; omega, by simp only; omega⟩
      simp [timesM]
    · rw [if_neg z0] at hsp
      by_cases zn : a2 < 0 ∨ x.max < 0
      · rw [if_pos zn] at hsp
        have t2 : timesM x.max a2 = -1 := by
          unfold timesM
          rw [if_neg (by omega), if_pos (by omega)]
        rw [hsp, hln, t1, t2, ew]
        exact ⟨rfl, k1, by omega, .inl rfl, by simp only; omega, by simp only; omega⟩
      · rw [if_neg zn] at hsp
        have hmx : 1 ≤ x.max ∧ x.min ≤ x.max ∧ x.max ≤ 20 := by omega
        have ha2 : 0 ≤ a2 := by omega
        have k3 : a2 * 1 ≤ a2 * x.max := Int.mul_le_mul_of_nonneg_left hmx.1 ha2
        have k4 : a2 * x.max ≤ a2 * 20 := Int.mul_le_mul_of_nonneg_left hmx.2.2 ha2
        have k5 : a1 * x.min ≤ a2 * x.max := Int.mul_le_mul (by omega) hmx.2.1 m0 ha2
        have ew2 : w64 (a2 * x.max) = a2 * x.max := w64_id (by omega) (by omega)
        have t2 : timesM x.max a2 = a2 * x.max := by
          unfold timesM
          rw [if_neg (by omega), if_neg (by omega), Int.mul_comm]; exact ew2
        rw [hsp, hln, t1, t2, ew, ew2]
        exact ⟨rfl, k1, by simp only; omega, .inr k5, by simp only; omega, by simp only; omega⟩
  rw [if_neg c6] at hln
  by_cases c4 : x.op = 4
  · rw [if_neg (by omega), if_neg (by omega), if_neg c6, if_pos c4] at hsp
    rw [c4] at hln
    have hlen : 2 ≤ x.l.length := by simp [partsM, c4] at h1; omega
    cases hxl : x.l with
    | nil => rw [hxl] at hlen; simp at hlen
    | cons y l =>
      rw [hxl] at hsp hln hg hBL
      rw [BL] at hBL
      obtain ⟨e, hin⟩ := hg y List.mem_cons_self
      rw [spanC4] at hsp
      rw [lenL, e] at hln
      have hl0 : lenS 4 true (0, 0) (spanP y) = spanP y := by simp [lenS]
      have hc0 : catS (0, 0) (spanP y) = spanP y := by
        generalize spanP y = s at hin
        obtain ⟨a1, a2⟩ := s
        obtain ⟨p1, p2, p3, p4, p5⟩ := hin
        simp only at p1 p2 p3 p4 p5
        simp only [catS, Int.zero_add, Prod.mk.injEq]
        refine ⟨w64_id (by omega) (by omega), ?_⟩
        split
        · omega
        · exact w64_id (by omega) (by omega)
      rw [hl0] at hln
      rw [hc0] at hsp
      obtain ⟨r1, r2⟩ := cat_fold l (spanP y) (B y) (fun z hz => hg z (List.mem_cons_of_mem _ hz)) hin (by omega)
      unfold Gd
      rw [hsp, hln, r1]
      exact ⟨rfl, r2.lo, r2.hi, r2.le, by have := r2.b1; omega, by have := r2.b2; omega⟩
  by_cases c5 : x.op = 5 ∨ x.op = 15
  · rw [if_neg (by omega), if_neg (by omega), if_neg c6, if_neg c4, if_pos c5] at hsp
    have hlen : 2 ≤ x.l.length := by rcases c5 with c5 | c5 <;> simp [partsM, c5] at h1 <;> omega
    cases hxl : x.l with
    | nil => rw [hxl] at hlen; simp at hlen
    | cons y l =>
      rw [hxl] at hsp hln hg hBL
      rw [BL] at hBL
      obtain ⟨e, hin⟩ := hg y List.mem_cons_self
      rw [spanT] at hsp
      rw [lenL, e] at hln
      have hl0 : lenS x.op true (0, 0) (spanP y) = spanP y := by simp [lenS]
      rw [hl0] at hln
      obtain ⟨r1, r2⟩ := alt_fold x.op c4 l (spanP y) (B y) (fun z hz => hg z (List.mem_cons_of_mem _ hz)) hin
      unfold Gd
      rw [hsp, hln, r1]
      exact ⟨rfl, r2.lo, r2.hi, r2.le, by have := r2.b1; omega, by have := r2.b2; omega⟩
  by_cases c7 : x.op = 7 ∨ x.op = 8
  · rw [if_pos c7] at hsp
    have hlen : x.l.length = 1 := by rcases c7 with c7 | c7 <;> simp [partsM, c7] at h1 h2 <;> omega
    obtain ⟨y, hy⟩ := List.length_eq_one_iff.1 hlen
    obtain ⟨e, hin⟩ := hg y (by simp [hy])
    have eH : spanH x.l = spanP y := by rw [hy]; rfl
    have hBy : 20 * B y ≤ B x := by rw [hy] at hBL; simpa [BL] using hBL
    rw [eH] at hsp
    rw [hy, lenL, lenL, e] at hln
    have hl0 : lenS x.op true (0, 0) (spanP y) = spanP y := by simp [lenS]
    rw [hl0] at hln
    unfold Gd
    rw [hsp, hln]
    exact ⟨rfl, hin.lo, hin.hi, hin.le, by have := hin.b1; omega, by have := hin.b2; omega⟩
  · rw [if_neg c7, if_neg (by omega), if_neg c6, if_neg c4, if_neg c5] at hsp
    have hlen : x.l = [] := by
      have : partsM x.op = (0, 0) := by unfold partsM; rw [if_neg (by omega), if_neg (by omega), if_neg (by omega)]
      rw [this] at h2
      exact List.eq_nil_of_length_eq_zero (by simp only at h2; omega)
    rw [hlen, lenL] at hln
    unfold Gd
    rw [hsp, hln]
    exact ⟨rfl, by omega, by omega, .inr (by omega), by simp only; omega, by simp only; omega⟩
theorem look_eq {x : Pat} {g : Int} {k : Bool} (hL : nodeL fixM x.op x.l g k = true) (hB : B x ≤ 1000000000000000000) : lookE x = nodeE fixM x := by
  have hd : decide (x.n ≥ 2) = !decide (x.n < 2) := by rw [← decide_not]; exact decide_eq_decide.2 (by omega)
  cases hxl : x.l with
  | nil =>
    simp only [lookE, nodeE, hxl, hd]
    cases decide (x.op = 9) <;> cases decide (x.n < 2) <;> rfl
  | cons y l =>
    have hy : y ∈ x.l := by rw [hxl]; exact List.mem_cons_self
    have hBL := BL_B x
    rw [hxl, BL] at hBL
    have := (len_span fixM y _ _ (nodeL_mem hL y hy).1 (by omega)).1
    simp only [lookE, nodeE, hxl, hd, fixM, this]
    cases decide (x.op = 9) <;> cases decide (x.n < 2) <;> simp
theorem grpGo_app (b : List Pat) : ∀ (a pre : List Pat), grpGo pre (a ++ b) = (grpGo pre a && grpGo (pre ++ a) b)
  | [], pre => by simp [grpGo]
  | y :: a, pre => by
    simp only [List.cons_append, grpGo]
    rw [grpGo_app b a (pre ++ [y])]
    simp only [Bool.and_assoc, List.append_assoc, List.cons_append, List.nil_append]
def stOf (pre : List Pat) : RSt := ((pre.length : Int), pre.map Pat.name)
theorem step_eq (x : Pat) (pre : List Pat) (hp : pre.length ≤ 1000) (h7 : x.op = 7) : grpStep x (stOf pre) = if (decide (x.n = ((pre.length + 1 : Nat) : Int)) && !pre.any (sameN x)) = true then some (stOf (pre ++ [x])) else none := by
  unfold grpStep stOf
  rw [if_pos h7]
  simp only
  have hw : w64 ((pre.length : Int) + 1) = ((pre.length + 1 : Nat) : Int) := by rw [w64_id (by omega) (by omega)]; rfl
  rw [hw]
  have hany : (pre.any (sameN x) = true) ↔ (x.name ∈ pre.map Pat.name ∧ x.name ≠ []) := by
    rw [List.any_eq_true]
    constructor
    · rintro ⟨z, hz, hs⟩
      simp only [sameN, Bool.and_eq_true, Bool.not_eq_true', decide_eq_false_iff_not, decide_eq_true_eq] at hs
      exact ⟨List.mem_map.2 ⟨z, hz, hs.2.symm⟩, hs.1⟩
    · rintro ⟨hm, hn⟩
      obtain ⟨z, hz, he⟩ := List.mem_map.1 hm
      refine ⟨z, hz, ?_⟩
      simp only [sameN, Bool.and_eq_true, Bool.not_eq_true', decide_eq_false_iff_not, decide_eq_true_eq]
      exact ⟨hn, he.symm⟩
  by_cases hc : x.n = ((pre.length + 1 : Nat) : Int) ∧ ¬ (x.name ∈ pre.map Pat.name ∧ x.name ≠ [])
  · rw [if_pos hc, if_pos]
    · simp
    · rw [decide_eq_true hc.1, Bool.true_and, Bool.not_eq_true']
      cases hq : pre.any (sameN x)
      · rfl
      · exact absurd (hany.1 hq) hc.2
  · rw [if_neg hc, if_neg]
    intro hh
    simp only [Bool.and_eq_true, decide_eq_true_eq, Bool.not_eq_true'] at hh
    refine hc ⟨hh.1, fun hx => ?_⟩
    rw [hany.2 hx] at hh
    exact absurd hh.2 (by simp)
theorem rgtP_bind (x : Pat) (g : Int) (k : Bool) (s : RSt) : rgtP x g k s = if (!nodeM x g || (decide (x.op = 18) && k)) = true then none else (grpStep x s).bind fun s1 => (rgtL x.op x.l g (k || decide (x.op = 9)) s1).bind fun s2 => if lookE x = true then some s2 else none := by
  rw [rgtP_eq]
  split
  · rfl
  · cases grpStep x s with
    | none => rfl
    | some s1 => simp only [Option.bind_some]; cases rgtL x.op x.l g (k || decide (x.op = 9)) s1 <;> rfl
mutual
theorem main_x (g : Nat) (hg : g ≤ 1000) : ∀ (x : Pat), nodesN x ≤ 60 → B x ≤ 1000000000000000000 → ∀ (k : Bool) (pre : List Pat), pre.length + (opnP x).length ≤ g →
    rgtP x g k (stOf pre) = if (nodeV fixM x g k && grpGo pre (opnP x)) = true then some (stOf (pre ++ opnP x)) else none
  | .mk op n mn mx nm st l, hn, hB, k, pre, hp => by
    have hml := main_l g hg op l
    generalize hx : Pat.mk op n mn mx nm st l = x at *
    have hxl : x.l = l := by rw [← hx]; rfl
    have hxo : x.op = op := by rw [← hx]; rfl
    have hnn := nodesN_eq x
    have hll := len_nodesL x.l
    have hBL := BL_B x
    rw [rgtP_bind, nodeV_eq]
    have hne := node_eq x g k (by omega)
    rw [← hxl, ← hxo] at hml
    -- behind the node itself
    have tail : ∀ pre' : List Pat, pre'.length + (opnL x.l).length ≤ g →
        ((rgtL x.op x.l g (k || decide (x.op = 9)) (stOf pre')).bind fun s2 => if lookE x = true then some s2 else none) =
        if (nodeL fixM x.op x.l g (k || decide (x.op = 9)) && nodeE fixM x && grpGo pre' (opnL x.l)) = true then some (stOf (pre' ++ opnL x.l)) else none := by
      intro pre' hp'
      rw [hml (by omega) (by omega) (k || decide (x.op = 9)) pre' hp']
      cases hL : nodeL fixM x.op x.l g (k || decide (x.op = 9))
      · simp
      · rw [look_eq hL hB]
        cases grpGo pre' (opnL x.l) <;> cases nodeE fixM x <;> simp
    have hcond : (!nodeM x g || (decide (x.op = 18) && k)) = !(nodeM x g && !(decide (x.op = 18) && k)) := by cases nodeM x g <;> cases (decide (x.op = 18) && k) <;> rfl
    rw [hcond]
    cases hM : (nodeM x g && !(decide (x.op = 18) && k))
    · rw [hM, Bool.false_and] at hne
      rw [Bool.not_false, if_pos rfl, if_neg]
      intro hh
      simp only [Bool.and_eq_true] at hh
      rw [hh.1.1, hh.1.2.1] at hne
      cases hne
    · rw [hM, Bool.true_and] at hne
      rw [if_neg (by simp)]
      by_cases h7 : x.op = 7
      · have ho : opnP x = x :: opnL x.l := by rw [opnP_eq, if_pos h7]; rfl
        rw [ho] at hp ⊢
        simp only [List.length_cons] at hp
        rw [step_eq x pre (by omega) h7]
        have hgg : grpGo pre (x :: opnL x.l) = ((decide (x.n = ((pre.length + 1 : Nat) : Int)) && !pre.any (sameN x)) && grpGo (pre ++ [x]) (opnL x.l)) := rfl
        rw [hgg]
        by_cases hC : (decide (x.n = ((pre.length + 1 : Nat) : Int)) && !pre.any (sameN x)) = true
        rotate_left
        · rw [if_neg hC, Bool.eq_false_iff.2 hC]
          simp
        · have hn1 : x.n = ((pre.length + 1 : Nat) : Int) := by
            simp only [Bool.and_eq_true, decide_eq_true_eq] at hC; exact hC.1
          have hin : inM x.n 1 g = true := by
            unfold inM
            rw [hn1, decide_eq_true (by omega), decide_eq_true (by omega)]; rfl
          rw [hin, Bool.or_true] at hne
          simp only [Bool.and_eq_true] at hne
          rw [if_pos hC, hC, Option.bind_some]
          rw [tail (pre ++ [x]) (by simp; omega), hne.1, hne.2]
          simp only [Bool.true_and, List.append_assoc, List.cons_append, List.nil_append]
      · have ho : opnP x = opnL x.l := by rw [opnP_eq, if_neg h7]; rfl
        rw [ho] at hp ⊢
        have hs : grpStep x (stOf pre) = some (stOf pre) := by unfold grpStep; rw [if_neg h7]
        rw [hs]
        rw [decide_eq_false h7, Bool.not_false, Bool.true_or] at hne
        simp only [Bool.and_eq_true] at hne
        rw [Option.bind_some, tail pre hp, hne.1, hne.2]
        simp only [Bool.true_and]
theorem main_l (g : Nat) (hg : g ≤ 1000) (op : Int) : ∀ (l : List Pat), nodesL l ≤ 60 → BL l ≤ 1000000000000000000 → ∀ (k : Bool) (pre : List Pat), pre.length + (opnL l).length ≤ g →
    rgtL op l g k (stOf pre) = if (nodeL fixM op l g k && grpGo pre (opnL l)) = true then some (stOf (pre ++ opnL l)) else none
  | [], _, _, k, pre, _ => by simp [rgtL, nodeL, opnL, grpGo]
  | y :: l, hn, hB, k, pre, hp => by
    rw [nodesL] at hn
    rw [BL] at hB
    rw [opnL, List.length_append] at hp
    rw [rgtL, nodeL, opnL, grpGo_app, bes_side, main_x g hg y (by omega) (by omega) k pre (by omega)]
    cases sideM op y.op
    · simp
    · cases nodeV fixM y g k
      · simp
      · cases grpGo pre (opnP y)
        · simp
        · simp only [Bool.true_and, if_true, Bool.and_true]
          rw [main_l g hg op l (by omega) (by omega) k (pre ++ opnP y) (by rw [List.length_append]; omega), List.append_assoc]
end
theorem valid_eq (x : Pat) (h : nodesN x ≤ 1000000) : valP x = validR fixM x := by
  unfold valP validR
  cases hl : largeM x
  · have hsz := szP_exact x h
    simp only [largeM, hsz, Bool.or_eq_false_iff, decide_eq_false_iff_not] at hl
    obtain ⟨h1, h2, h3⟩ := hl
    have hB : B x ≤ 1000000000000000000 := by
      unfold B
      calc nodesN x * 20 ^ depthN x ≤ 60 * 20 ^ 12 := Nat.mul_le_mul (by omega) (Nat.pow_le_pow_right (by omega) (by omega))
        _ ≤ 1000000000000000000 := by decide
    have hm := main_x (opnP x).length (by omega) x (by omega) hB false [] (by simp)
    have hst : stOf [] = (0, []) := rfl
    rw [hsz]
    simp only
    rw [← hst, hm]
    cases nodeV fixM x (opnP x).length false && grpGo [] (opnP x) <;> simp
  · simp
end Go.Proofs.Ytiaogfkkfoakpaa

namespace Go.Proofs.Ytiaogfkkfoakpaa
open Go Go.Abs
theorem hext : ExtOk Try.prog (extC [112] [109]) := extC_ok (fun f hf => by
    obtain rfl := List.mem_singleton.1 hf
    exact ⟨Try.f112, by kernel_rfl, by kernel_rfl, by kernel_rfl, by kernel_rfl, by kernel_rfl⟩) (fun f hf => by
    obtain rfl := List.mem_singleton.1 hf
    exact ⟨Try.f109, by kernel_rfl, by kernel_rfl, by kernel_rfl, by kernel_rfl, by kernel_rfl⟩)
theorem known_true : PTr Try.prog 6 [] (.bool true) := PTr.run (fuel := 1000) okL hmix hext 100 rfl (by kernel_rfl)
end Go.Proofs.Ytiaogfkkfoakpaa

namespace Go.Proofs.Ytiaogfkkfoakpaa
open Go Go.Abs
set_option linter.unusedVariables false
set_option maxRecDepth 100000
set_option linter.unusedSimpArgs false
theorem optSizes_law (hN : ∀ (x : Pat) (g : Int) (k : Bool), PTr Try.prog 23 [.agg x.C, i64 g, .bool k] (.bool (nodeV fixM x g k))) (x : Pat) (hb : nodesN x ≤ 1000000) : PTr Try.prog 3 [.agg x.C] (.bool true) := by
  refine PTr.of_body (N := 48) Try.func3 rfl rfl rfl ?_
  have hv := refValidate_tr fixM hN x hb
  rw [← valid_eq x hb] at hv
  by_cases h0 : valP x = 0
  · have hs := optSize_tr x
    rw [h0] at hv hs
    rw [if_pos rfl, if_pos rfl] at hs
    refine AWp.seq ?_
    refine AWp.region ?_
    refine AOps.pln ?_; refine AOp.box rfl rfl (isVal_or rfl) rfl rfl ?_; intro _ _
    refine AOps.sim okL rfl rfl ?_
    refine AOps.nil ?_
    refine AWp.seq ?_
    refine AWp.seq ?_
    refine AWp.region ?_
    refine AOps.pln ?_; refine AOp.load okL rfl (.head _) rfl rfl rfl rfl ?_
    refine AOps.pln ?_; focus (refine AOp.callP (v := ?_) rfl rfl rfl ?_ ?_; rotate_left; exact (Over_tr x))
    refine AOps.nil ?_
    refine seqQ_n ?_
    refine AWp.condCase rfl (fun h => ?_) (fun h => ?_)
    · refine AWp.seq ?_
      refine AWp.region ?_
      refine AOps.pln ?_; focus (refine AOp.callP (v := ?_) rfl rfl rfl ?_ ?_; rotate_left; exact (known_true))
      refine AOps.sim okL rfl rfl ?_
      refine AOps.nil ?_
      refine AWp.ret ?_
      refine seqQ_r ?_
      first | (refine bodyQ_r (by first | exact ResOk.one rfl rfl | exact ResOk.two rfl rfl rfl | exact ResOk.three rfl rfl rfl rfl | exact ResOk.none rfl) ?_; rfl) | (exfalso; simp_all; done)
    · refine AWp.skip ?_
      refine AWp.seq ?_
      refine AWp.region ?_
      refine AOps.pln ?_; refine AOp.load okL rfl (.head _) rfl rfl rfl rfl ?_
      refine AOps.pln ?_; focus (refine AOp.callP (v := ?_) rfl rfl rfl ?_ ?_; rotate_left; exact (hs))
      refine AOps.sim okL rfl rfl ?_
      refine AOps.sim okL rfl rfl ?_
      refine AOps.sim okL rfl rfl ?_
      refine AOps.sim okL rfl rfl ?_
      refine AOps.sim okL rfl rfl ?_
      refine AOps.sim okL rfl rfl ?_
      refine AOps.sim okL rfl rfl ?_
      refine AOps.nil ?_
      refine AWp.seq ?_
      refine AWp.seq ?_
      refine AWp.region ?_
      refine AOps.sim okL rfl rfl ?_
      refine AOps.pln ?_; refine AOp.load okL rfl (.head _) rfl rfl rfl rfl ?_
      refine AOps.pln ?_; focus (refine AOp.callP (v := ?_) rfl rfl rfl ?_ ?_; rotate_left; exact (hv))
      refine AOps.sim okL rfl rfl ?_
      refine AOps.nil ?_
      refine AWp.condF rfl ?_
      refine AWp.skip ?_
      refine AWp.seq ?_
      refine AWp.seq ?_
      refine AWp.region ?_
      refine AOps.sim okL rfl rfl ?_
      refine AOps.sim okL rfl rfl ?_
      refine AOps.nil ?_
      refine AWp.condF rfl ?_
      refine AWp.skip ?_
      refine AWp.seq ?_
      refine AWp.region ?_
      refine AOps.pln ?_; refine AOp.load okL rfl (.head _) rfl rfl rfl rfl ?_
      refine AOps.pln ?_; focus (refine AOp.callP (v := ?_) rfl rfl rfl ?_ ?_; rotate_left; exact (ref14Size_tr x))
      refine AOps.sim okL rfl rfl ?_
      refine AOps.sim okL rfl rfl ?_
      refine AOps.sim okL rfl rfl ?_
      refine AOps.sim okL rfl rfl ?_
      refine AOps.sim okL rfl rfl ?_
      refine AOps.nil ?_
      refine AWp.seq ?_
      refine AWp.region ?_
      refine AOps.sim okL rfl rfl ?_
      refine AOps.sim okL rfl rfl ?_
      refine AOps.sim okL rfl rfl ?_
      refine AOps.sim okL rfl rfl ?_
      refine AOps.guardCase rfl rfl rfl (fun h => ?_) (fun h => ?_)
      · refine AOps.simW okL rfl rfl rfl rfl ?_
        refine AOps.simW okL rfl rfl rfl rfl ?_
        refine AOps.simW okL rfl rfl rfl rfl ?_
        refine AOps.sim okL rfl rfl ?_
        refine AOps.sim okL rfl rfl ?_
        refine AOps.guardCase rfl rfl rfl (fun h => ?_) (fun h => ?_)
        · refine AOps.wtd rfl rfl rfl ?_; focus (refine AOp.callP (v := ?_) rfl rfl rfl ?_ ?_; rotate_left; exact (known_true))
          refine AOps.sim okL rfl rfl ?_
          refine AOps.sim okL rfl rfl ?_
          refine AOps.nil ?_
          refine AWp.ret ?_
          first | (refine bodyQ_r (by first | exact ResOk.one rfl rfl | exact ResOk.two rfl rfl rfl | exact ResOk.three rfl rfl rfl rfl | exact ResOk.none rfl) ?_; rfl) | (exfalso; simp_all; done)
        · refine AOps.unw rfl rfl rfl rfl ?_
          refine AOps.sim okL rfl rfl ?_
          refine AOps.sim okL rfl rfl ?_
          refine AOps.nil ?_
          refine AWp.ret ?_
          first | (refine bodyQ_r (by first | exact ResOk.one rfl rfl | exact ResOk.two rfl rfl rfl | exact ResOk.three rfl rfl rfl rfl | exact ResOk.none rfl) ?_; rfl) | (exfalso; simp_all; done)
      · refine AOps.unw rfl rfl rfl rfl ?_
        refine AOps.unw rfl rfl rfl rfl ?_
        refine AOps.unw rfl rfl rfl rfl ?_
        refine AOps.sim okL rfl rfl ?_
        refine AOps.sim okL rfl rfl ?_
        refine AOps.unw rfl rfl rfl rfl ?_
        refine AOps.sim okL rfl rfl ?_
        refine AOps.sim okL rfl rfl ?_
        refine AOps.nil ?_
        refine AWp.ret ?_
        first | (refine bodyQ_r (by first | exact ResOk.one rfl rfl | exact ResOk.two rfl rfl rfl | exact ResOk.three rfl rfl rfl rfl | exact ResOk.none rfl) ?_; rfl) | (exfalso; simp_all; done)
  · have hs := optSize_tr x
    rw [if_neg h0, if_neg h0] at hs
    refine AWp.seq ?_
    refine AWp.region ?_
    refine AOps.pln ?_; refine AOp.box rfl rfl (isVal_or rfl) rfl rfl ?_; intro _ _
    refine AOps.sim okL rfl rfl ?_
    refine AOps.nil ?_
    refine AWp.seq ?_
    refine AWp.seq ?_
    refine AWp.region ?_
    refine AOps.pln ?_; refine AOp.load okL rfl (.head _) rfl rfl rfl rfl ?_
    refine AOps.pln ?_; focus (refine AOp.callP (v := ?_) rfl rfl rfl ?_ ?_; rotate_left; exact (Over_tr x))
    refine AOps.nil ?_
    refine seqQ_n ?_
    refine AWp.condCase rfl (fun h => ?_) (fun h => ?_)
    · refine AWp.seq ?_
      refine AWp.region ?_
      refine AOps.pln ?_; focus (refine AOp.callP (v := ?_) rfl rfl rfl ?_ ?_; rotate_left; exact (known_true))
      refine AOps.sim okL rfl rfl ?_
      refine AOps.nil ?_
      refine AWp.ret ?_
      refine seqQ_r ?_
      first | (refine bodyQ_r (by first | exact ResOk.one rfl rfl | exact ResOk.two rfl rfl rfl | exact ResOk.three rfl rfl rfl rfl | exact ResOk.none rfl) ?_; rfl) | (exfalso; simp_all; done)
    · refine AWp.skip ?_
      refine AWp.seq ?_
      refine AWp.region ?_
      refine AOps.pln ?_; refine AOp.load okL rfl (.head _) rfl rfl rfl rfl ?_
      refine AOps.pln ?_; focus (refine AOp.callP (v := ?_) rfl rfl rfl ?_ ?_; rotate_left; exact (hs))
      refine AOps.sim okL rfl rfl ?_
      refine AOps.sim okL rfl rfl ?_
      refine AOps.sim okL rfl rfl ?_
      refine AOps.sim okL rfl rfl ?_
      refine AOps.sim okL rfl rfl ?_
      refine AOps.sim okL rfl rfl ?_
      refine AOps.sim okL rfl rfl ?_
      refine AOps.nil ?_
      refine AWp.seq ?_
      refine AWp.seq ?_
      refine AWp.region ?_
      refine AOps.sim okL rfl rfl ?_
      refine AOps.pln ?_; refine AOp.load okL rfl (.head _) rfl rfl rfl rfl ?_
      refine AOps.pln ?_; focus (refine AOp.callP (v := ?_) rfl rfl rfl ?_ ?_; rotate_left; exact (hv))
      refine AOps.sim okL rfl rfl ?_
      refine AOps.nil ?_
      refine seqQ_n ?_
      refine AWp.condCase rfl (fun h => ?_) (fun h => ?_)
      · refine AWp.seq ?_
        refine AWp.region ?_
        refine AOps.sim okL rfl rfl ?_
        refine AOps.nil ?_
        refine AWp.ret ?_
        refine seqQ_r ?_
        first | (refine bodyQ_r (by first | exact ResOk.one rfl rfl | exact ResOk.two rfl rfl rfl | exact ResOk.three rfl rfl rfl rfl | exact ResOk.none rfl) ?_; rfl) | (exfalso; simp_all; done)
      · refine AWp.skip ?_
        refine AWp.seq ?_
        refine AWp.seq ?_
        refine AWp.region ?_
        refine AOps.sim okL rfl rfl ?_
        refine AOps.sim okL rfl rfl ?_
        refine AOps.nil ?_
        refine seqQ_n ?_
        refine AWp.condCase rfl (fun h => ?_) (fun h => ?_)
        · refine AWp.seq ?_
          refine AWp.region ?_
          refine AOps.sim okL rfl rfl ?_
          refine AOps.sim okL rfl rfl ?_
          refine AOps.sim okL rfl rfl ?_
          refine AOps.simW okL rfl rfl rfl rfl ?_
          refine AOps.simW okL rfl rfl rfl rfl ?_
          refine AOps.sim okL rfl rfl ?_
          refine AOps.sim okL rfl rfl ?_
          refine AOps.wtd rfl rfl rfl ?_; focus (refine AOp.callP (v := ?_) rfl rfl rfl ?_ ?_; rotate_left; exact (known_true))
          refine AOps.sim okL rfl rfl ?_
          refine AOps.sim okL rfl rfl ?_
          refine AOps.nil ?_
          refine AWp.ret ?_
          refine seqQ_r ?_
          first | (refine bodyQ_r (by first | exact ResOk.one rfl rfl | exact ResOk.two rfl rfl rfl | exact ResOk.three rfl rfl rfl rfl | exact ResOk.none rfl) ?_; rfl) | (exfalso; simp_all; done)
        · refine AWp.skip ?_
          refine AWp.seq ?_
          refine AWp.region ?_
          refine AOps.pln ?_; refine AOp.load okL rfl (.head _) rfl rfl rfl rfl ?_
          refine AOps.pln ?_; focus (refine AOp.callP (v := ?_) rfl rfl rfl ?_ ?_; rotate_left; exact (ref14Size_tr x))
          refine AOps.sim okL rfl rfl ?_
          refine AOps.sim okL rfl rfl ?_
          refine AOps.sim okL rfl rfl ?_
          refine AOps.sim okL rfl rfl ?_
          refine AOps.sim okL rfl rfl ?_
          refine AOps.nil ?_
          refine AWp.seq ?_
          refine AWp.region ?_
          refine AOps.sim okL rfl rfl ?_
          refine AOps.sim okL rfl rfl ?_
          refine AOps.sim okL rfl rfl ?_
          refine AOps.sim okL rfl rfl ?_
          refine AOps.guardCase rfl rfl rfl (fun h => ?_) (fun h => ?_)
          · refine AOps.simW okL rfl rfl rfl rfl ?_
            refine AOps.simW okL rfl rfl rfl rfl ?_
            refine AOps.simW okL rfl rfl rfl rfl ?_
            refine AOps.sim okL rfl rfl ?_
            refine AOps.sim okL rfl rfl ?_
            refine AOps.guardCase rfl rfl rfl (fun h => ?_) (fun h => ?_)
            · refine AOps.wtd rfl rfl rfl ?_; focus (refine AOp.callP (v := ?_) rfl rfl rfl ?_ ?_; rotate_left; exact (known_true))
              refine AOps.sim okL rfl rfl ?_
              refine AOps.sim okL rfl rfl ?_
              refine AOps.nil ?_
              refine AWp.ret ?_
              first | (refine bodyQ_r (by first | exact ResOk.one rfl rfl | exact ResOk.two rfl rfl rfl | exact ResOk.three rfl rfl rfl rfl | exact ResOk.none rfl) ?_; rfl) | (exfalso; simp_all; done)
            · refine AOps.unw rfl rfl rfl rfl ?_
              refine AOps.sim okL rfl rfl ?_
              refine AOps.sim okL rfl rfl ?_
              refine AOps.nil ?_
              refine AWp.ret ?_
              first | (refine bodyQ_r (by first | exact ResOk.one rfl rfl | exact ResOk.two rfl rfl rfl | exact ResOk.three rfl rfl rfl rfl | exact ResOk.none rfl) ?_; rfl) | (exfalso; simp_all; done)
          · refine AOps.unw rfl rfl rfl rfl ?_
            refine AOps.unw rfl rfl rfl rfl ?_
            refine AOps.unw rfl rfl rfl rfl ?_
            refine AOps.sim okL rfl rfl ?_
            refine AOps.sim okL rfl rfl ?_
            refine AOps.unw rfl rfl rfl rfl ?_
            refine AOps.sim okL rfl rfl ?_
            refine AOps.sim okL rfl rfl ?_
            refine AOps.nil ?_
            refine AWp.ret ?_
            first | (refine bodyQ_r (by first | exact ResOk.one rfl rfl | exact ResOk.two rfl rfl rfl | exact ResOk.three rfl rfl rfl rfl | exact ResOk.none rfl) ?_; rfl) | (exfalso; simp_all; done)
end Go.Proofs.Ytiaogfkkfoakpaa

