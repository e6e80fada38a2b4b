/- The walks of TermOrders and TermOne. -/
import Derived.Test.YtpffclpheldabaaCmpR
set_option linter.unusedVariables false
namespace Go.Proofs.Ytpffclpheldabaa
open Go.RowKit Go.Our

theorem keepO {w w' : World} (hb : Below w.heap.size w w') {b1 b2 : Nat} {t1 t2 t3 : Term} {q1 q2 : Quad} (h : termAt? w b1 0 = some t1 ∧ termAt? w b1 8 = some t2 ∧ termAt? w b2 0 = some t3 ∧ quadAt? w b1 0 = some q1 ∧ quadAt? w b2 0 = some q2) :
    termAt? w' b1 0 = some t1 ∧ termAt? w' b1 8 = some t2 ∧ termAt? w' b2 0 = some t3 ∧ quadAt? w' b1 0 = some q1 ∧ quadAt? w' b2 0 = some q2 :=
  ⟨termAt_on hb h.1, termAt_on hb h.2.1, termAt_on hb h.2.2.1, quadAt_on hb h.2.2.2.1, quadAt_on hb h.2.2.2.2⟩
set_option maxHeartbeats 8000000 in
theorem lawOrders_any (w : World) (a b : Quad) :
    Calls Try.prog 4 #[quadV a, quadV b] w fun e w' => e = .returned (.bool true) ∧ Below w.heap.size w w' := by
  have hself : (quadCmp a a == 0) = true := by simp [(triQ.zero a a).2 rfl]
  go_enter Try.func4, Try.ntmps4
  go_wp2_with fail
  have hT := two_new w a b 26
  have hW0 : Below w.heap.size w ((w.alloc (.cells (quadA a) 26)).alloc (.cells (quadA b) 26)) := ((Below.refl _ _).alloc (Nat.le_refl _) _).alloc (by simp) _
  generalize ((w.alloc (.cells (quadA a) 26)).alloc (.cells (quadA b) 26)) = W at *
  have hS : termAt? W w.heap.size 0 = some a.s ∧ termAt? W w.heap.size 8 = some a.o ∧ termAt? W (w.heap.size + 1) 0 = some b.s ∧ quadAt? W w.heap.size 0 = some a ∧ quadAt? W (w.heap.size + 1) 0 = some b :=
    ⟨hT.a0, hT.a2, hT.b0, quadAt_of ⟨hT.a0, hT.a1, hT.a2, hT.a3⟩, quadAt_of ⟨hT.b0, hT.b1, hT.b2, hT.b3⟩⟩
  have HS := Lib.hid hS
  clear hT hS
  go_region_held3 (fun w' => termAt? w' w.heap.size 0 = some a.s ∧ termAt? w' w.heap.size 8 = some a.o ∧ termAt? w' (w.heap.size + 1) 0 = some b.s ∧ quadAt? w' w.heap.size 0 = some a ∧ quadAt? w' (w.heap.size + 1) 0 = some b)
    (first | exact keepO (Below.refl _ _).drew HS.out | exact keepO hb (by assumption))
    (first
      | (go_at_call 13; refine (compare_any _ _ _).mono ?_; rintro e w' ⟨rfl, hb⟩; replace hW0 : Below w.heap.size w w' := (by first | exact step_on hW0 (Nat.le_refl _) hb | exact step_drew hW0 (Nat.le_refl _) hb))
      | (go_at_call 14; refine (refcompare_any _ _ _).mono ?_; rintro e w' ⟨rfl, hb⟩; replace hW0 : Below w.heap.size w w' := step_on hW0 (Nat.le_refl _) hb)
      | (go_at_call 15; refine (compareQuads_any _ _ _).mono ?_; rintro e w' ⟨rfl, hb⟩; replace hW0 : Below w.heap.size w w' := step_on hW0 (Nat.le_refl _) hb)
      | (go_at_call 16; refine (refcompareQuads_any _ _ _).mono ?_; rintro e w' ⟨rfl, hb⟩; replace hW0 : Below w.heap.size w w' := step_on hW0 (Nat.le_refl _) hb))
  all_goals
    go_wp2
    go_ret
    exact ⟨rfl, hW0⟩
end Go.Proofs.Ytpffclpheldabaa
