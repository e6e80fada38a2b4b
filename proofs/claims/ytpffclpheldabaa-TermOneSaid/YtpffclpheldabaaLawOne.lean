/- The walk of TermOne. -/
import Derived.Test.YtpffclpheldabaaEq
set_option linter.unusedVariables false
namespace Go.Proofs.Ytpffclpheldabaa
open Go.RowKit Go.Our

theorem keepN {w w' : World} (hb : Below w.heap.size w w') {B : Nat} {a b c : Quad}
    (h : (quadAt? w B 0 = some a ∧ quadAt? w (B + 1) 0 = some b ∧ quadAt? w (B + 2) 0 = some c) ∧
      termAt? w B 0 = some a.s ∧ termAt? w B 4 = some a.p ∧ termAt? w B 8 = some a.o ∧ termAt? w B 12 = some a.g ∧
      termAt? w (B + 1) 0 = some b.s ∧ termAt? w (B + 1) 4 = some b.p ∧ termAt? w (B + 1) 8 = some b.o ∧ termAt? w (B + 1) 12 = some b.g ∧ termAt? w (B + 2) 0 = some c.s) :
    (quadAt? w' B 0 = some a ∧ quadAt? w' (B + 1) 0 = some b ∧ quadAt? w' (B + 2) 0 = some c) ∧
      termAt? w' B 0 = some a.s ∧ termAt? w' B 4 = some a.p ∧ termAt? w' B 8 = some a.o ∧ termAt? w' B 12 = some a.g ∧
      termAt? w' (B + 1) 0 = some b.s ∧ termAt? w' (B + 1) 4 = some b.p ∧ termAt? w' (B + 1) 8 = some b.o ∧ termAt? w' (B + 1) 12 = some b.g ∧ termAt? w' (B + 2) 0 = some c.s := by
  obtain ⟨⟨h1, h2, h3⟩, h4, h5, h6, h7, h8, h9, h10, h11, h12⟩ := h
  exact ⟨⟨quadAt_on hb h1, quadAt_on hb h2, quadAt_on hb h3⟩, termAt_on hb h4, termAt_on hb h5, termAt_on hb h6, termAt_on hb h7, termAt_on hb h8, termAt_on hb h9, termAt_on hb h10, termAt_on hb h11, termAt_on hb h12⟩
theorem three_new (w : World) (a b c : Quad) (t : TypeId) (W : World) (hW : W = ((w.alloc (.cells (quadA a) t)).alloc (.cells (quadA b) t)).alloc (.cells (quadA c) t)) (B : Nat) (hB : B = w.heap.size) :
    ((quadAt? W B 0 = some a ∧ quadAt? W (B + 1) 0 = some b ∧ quadAt? W (B + 2) 0 = some c) ∧
      termAt? W B 0 = some a.s ∧ termAt? W B 4 = some a.p ∧ termAt? W B 8 = some a.o ∧ termAt? W B 12 = some a.g ∧
      termAt? W (B + 1) 0 = some b.s ∧ termAt? W (B + 1) 4 = some b.p ∧ termAt? W (B + 1) 8 = some b.o ∧ termAt? W (B + 1) 12 = some b.g ∧ termAt? W (B + 2) 0 = some c.s) ∧ Below B w W := by
  subst hW hB
  have hA : Blk _ w.heap.size t (quadA a) := ((Blk.new w _ _).alloc (.cells (quadA b) t)).alloc (.cells (quadA c) t)
  have hB : Blk (((w.alloc (.cells (quadA a) t)).alloc (.cells (quadA b) t)).alloc (.cells (quadA c) t)) (w.heap.size + 1) t (quadA b) := (Blk.new' (by simp)).alloc _
  have hC : Blk (((w.alloc (.cells (quadA a) t)).alloc (.cells (quadA b) t)).alloc (.cells (quadA c) t)) (w.heap.size + 2) t (quadA c) := Blk.new' (by simp)
  have qa := QuadAt.of_blk hA
  have qb := QuadAt.of_blk hB
  have qc := QuadAt.of_blk hC
  exact ⟨⟨⟨quadAt_of qa, quadAt_of qb, quadAt_of qc⟩, qa.1, qa.2.1, qa.2.2.1, qa.2.2.2, qb.1, qb.2.1, qb.2.2.1, qb.2.2.2, qc.1⟩,
    (((Below.refl _ _).alloc (Nat.le_refl _) _).alloc (by simp) _).alloc (by simp; omega) _⟩

theorem quad_s (a b : Quad) (h1 : a.g = b.g) (h2 : a.p = b.p) (h3 : a.o = b.o) : termCmp a.s b.s = quadCmp a b := by
  simp only [quadCmp, pairCmp, Quad.key, h1, h2, h3, (triT.zero _ _).2 rfl, ne_eq, not_true_eq_false, if_false]
  split <;> simp_all
theorem up {α : Type} {k : α → α → Int} (h : Tri k) (a b c : α) : k a b ≥ 0 → k b c ≥ 0 → k a c ≥ 0 := by
  intro p q
  have := h.trans c b a (by rw [h.anti b c]; omega) (by rw [h.anti a b]; omega)
  rw [h.anti a c] at this; omega

set_option maxHeartbeats 8000000 in
theorem lawOne_any (w : World) (a b c : Quad) :
    Calls Try.prog 5 #[quadV a, quadV b, quadV c] w fun e w' => e = .returned (.bool true) ∧ Below w.heap.size w w' := by
  go_enter Try.func5, Try.ntmps5
  go_wp2_with fail
  obtain ⟨hS, hW0⟩ := three_new w a b c 26 _ rfl _ rfl
  generalize (((w.alloc (.cells (quadA a) 26)).alloc (.cells (quadA b) 26)).alloc (.cells (quadA c) 26)) = W at *
  have HS := Lib.hid hS
  clear hS
  go_region_held3 (fun w' => (quadAt? w' w.heap.size 0 = some a ∧ quadAt? w' (w.heap.size + 1) 0 = some b ∧ quadAt? w' (w.heap.size + 2) 0 = some c) ∧
      termAt? w' w.heap.size 0 = some a.s ∧ termAt? w' w.heap.size 4 = some a.p ∧ termAt? w' w.heap.size 8 = some a.o ∧ termAt? w' w.heap.size 12 = some a.g ∧
      termAt? w' (w.heap.size + 1) 0 = some b.s ∧ termAt? w' (w.heap.size + 1) 4 = some b.p ∧ termAt? w' (w.heap.size + 1) 8 = some b.o ∧ termAt? w' (w.heap.size + 1) 12 = some b.g ∧ termAt? w' (w.heap.size + 2) 0 = some c.s)
    (first | exact keepN (Below.refl _ _).drew HS.out | exact keepN hb (by assumption))
    (first
      | (go_at_call 15; refine (compareQuads_any _ _ _).mono ?_; rintro e w' ⟨rfl, hb⟩; replace hW0 : Below w.heap.size w w' := (by first | exact step_on hW0 (Nat.le_refl _) hb | exact step_drew hW0 (Nat.le_refl _) hb)))
  go_wp2_with fail
  refine (compareQuads_any _ _ _).mono ?_
  rintro e w1 ⟨rfl, hb1⟩
  replace hW0 : Below w.heap.size w w1 := step_on hW0 (Nat.le_refl _) hb1
  have hH := keepN hb1 (by assumption)
  have hn : wrap64 (-(quadCmp b a)) = quadCmp a b := by
    rw [triQ.anti b a]
    exact IntWalk.wrap64_in _ ⟨by have := triQ.rng b a; omega, by have := triQ.rng b a; omega⟩
  have hz : (quadCmp a b == 0) = decide (a = b) := by
    by_cases h : quadCmp a b = 0
    · have e := (triQ.zero a b).1 h
      rw [h, e]; simp
    · have : ¬ a = b := fun e => h ((triQ.zero a b).2 e)
      simp [h, this]
  have hlo : decide (quadCmp a b < -1) = false := by rcases triQ.rng a b with h | h | h <;> rw [h] <;> decide
  have hhi : decide (1 < quadCmp a b) = false := by rcases triQ.rng a b with h | h | h <;> rw [h] <;> decide
  have hx := triQ.rng a b
  have hy := triQ.rng b c
  have hd := triQ.trans a b c
  have hu := up triQ a b c
  have hxs : a.g = b.g → a.p = b.p → a.o = b.o → termCmp a.s b.s = quadCmp a b := quad_s a b
  generalize quadCmp a b = x at *
  generalize quadCmp b c = y at *
  generalize quadCmp a c = z at *
  generalize quadCmp b a = m at *
  clear hb
  rcases hx with rfl | rfl | rfl <;> rcases hy with rfl | rfl | rfl <;> (
    first | have q1 : decide (0 < z) = false := decide_eq_false (by have := hd (by omega) (by omega); omega) | skip
    first | have q2 : decide (z < 0) = false := decide_eq_false (by have := hu (by omega) (by omega); omega) | skip
    first | have hz' : decide (a = b) = true := by rw [← hz]; rfl
          | have hz' : decide (a = b) = false := by rw [← hz]; rfl
    clear hz
    clear hd hu)
  all_goals
    go_wp2_with fail
    generalize hWW : w1 = W1 at *
    go_region_held3 (fun w' => (quadAt? w' w.heap.size 0 = some a ∧ quadAt? w' (w.heap.size + 1) 0 = some b ∧ quadAt? w' (w.heap.size + 2) 0 = some c) ∧
      termAt? w' w.heap.size 0 = some a.s ∧ termAt? w' w.heap.size 4 = some a.p ∧ termAt? w' w.heap.size 8 = some a.o ∧ termAt? w' w.heap.size 12 = some a.g ∧
      termAt? w' (w.heap.size + 1) 0 = some b.s ∧ termAt? w' (w.heap.size + 1) 4 = some b.p ∧ termAt? w' (w.heap.size + 1) 8 = some b.o ∧ termAt? w' (w.heap.size + 1) 12 = some b.g ∧ termAt? w' (w.heap.size + 2) 0 = some c.s)
      (first | exact keepN (Below.refl _ _).drew hH | exact keepN hb (by assumption))
      (first
        | (go_at_call 13; refine (compare_any _ _ _).mono ?_; rintro e w' ⟨rfl, hb⟩; replace hW0 : Below w.heap.size w w' := (by first | exact step_on hW0 (Nat.le_refl _) hb | exact step_drew hW0 (Nat.le_refl _) hb)))
    go_wp2_with fail
    refine (compare_any _ _ _).mono ?_
    rintro e w2 ⟨rfl, hb2⟩
    replace hW0 : Below w.heap.size w w2 := step_on hW0 (Nat.le_refl _) hb2
    have hH2 := keepN hb2 (by assumption)
    have hn2 : wrap64 (-(termCmp b.s a.s)) = termCmp a.s b.s := by
      rw [triT.anti b.s a.s]
      exact IntWalk.wrap64_in _ ⟨by have := triT.rng b.s a.s; omega, by have := triT.rng b.s a.s; omega⟩
    have hz2 : (termCmp a.s b.s == 0) = decide (a.s = b.s) := by
      by_cases h : termCmp a.s b.s = 0
      · have e := (triT.zero a.s b.s).1 h
        rw [h, e]; simp
      · have : ¬ a.s = b.s := fun e => h ((triT.zero a.s b.s).2 e)
        simp [h, this]
    have hd2 := triT.trans a.s b.s c.s
    generalize termCmp a.s b.s = u at *
    generalize termCmp b.s c.s = v at *
    generalize termCmp a.s c.s = ww at *
    generalize termCmp b.s a.s = mm at *
    rcases (show (decide (u ≤ 0) = true ∧ decide (v ≤ 0) = true ∧ decide (0 < ww) = false) ∨ (decide (u ≤ 0) = true ∧ decide (v ≤ 0) = false) ∨ decide (u ≤ 0) = false by simp only [decide_eq_true_eq, decide_eq_false_iff_not]; omega) with ⟨k1, k2, k3⟩ | ⟨k1, k2⟩ | k1 <;>
    rcases (show (decide (a.g = b.g) = false) ∨ (decide (a.g = b.g) = true ∧ decide (a.p = b.p) = false) ∨ (decide (a.g = b.g) = true ∧ decide (a.p = b.p) = true ∧ decide (a.o = b.o) = false) ∨ (decide (a.g = b.g) = true ∧ decide (a.p = b.p) = true ∧ decide (a.o = b.o) = true) by
        by_cases g : a.g = b.g <;> by_cases p : a.p = b.p <;> by_cases o : a.o = b.o <;> simp [g, p, o]) with g1 | ⟨g1, g2⟩ | ⟨g1, g2, g3⟩ | ⟨g1, g2, g3⟩
    all_goals
      first
        | have q4 : ((-1 : Int) == u) = true := by rw [hxs (of_decide_eq_true g1) (of_decide_eq_true g2) (of_decide_eq_true g3)]; rfl
        | have q4 : ((0 : Int) == u) = true := by rw [hxs (of_decide_eq_true g1) (of_decide_eq_true g2) (of_decide_eq_true g3)]; rfl
        | have q4 : ((1 : Int) == u) = true := by rw [hxs (of_decide_eq_true g1) (of_decide_eq_true g2) (of_decide_eq_true g3)]; rfl
        | skip
      clear hxs
      go_wp2
      go_ret
      refine ⟨?_, hW0⟩
      try rfl
end Go.Proofs.Ytpffclpheldabaa
