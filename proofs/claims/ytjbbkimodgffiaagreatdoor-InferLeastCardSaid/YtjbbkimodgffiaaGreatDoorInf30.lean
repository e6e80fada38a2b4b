/- Part 30: Awake25. Conditions: as each part says. -/
import Derived.Test.YtjbbkimodgffiaaGreatDoorInf21
import Derived.Test.YtjbbkimodgffiaaGreatDoorInf24
set_option linter.unusedVariables false
set_option linter.unusedSimpArgs false
set_option maxRecDepth 20000
set_option maxHeartbeats 8000000
namespace Go.Proofs.YtjbbkimodgffiaaGreatDoor
open Go.Sx Go.Our
def Wo : Plan := (Zj [(0, 2), (2, 2), (4, 2), (6, 2), (8, 2), (9, 2), (10, 2), (11, 1), (1, 3), (3, 1), (5, 3), (7, 1), (12, 3), (13, 0), (14, 1)])
theorem Zg4 : ∀ q ∈ exL, q ∈ exM := by decide +kernel
theorem Zgl : ∀ q ∈ exM, QdSm q := by decide +kernel
theorem ZaU : Does Tryz.prog tab 55 0 [.str [115, 117, 98, 67, 108, 97, 115, 115, 79, 102]] [] [] (Val (iriT subC).sv) := by
 refine Does.enter Z2 (g := 55) (fn := Tryz.f55) Tryz.call55 Tryz.func55 rfl 6 rfl rfl [.cell 2 28] rfl ?_
 intro w0 F η0 h0
 conv => whnf
 repeat' ((first | refine AU ?_ | (refine IW (fun h => ?_) (fun h => ?_) <;> try (exfalso; omega))) <;> conv => whnf)
 exact FIN.value h0 rfl rfl
set_option maxHeartbeats 8000000 in
theorem Z7H : Does Tryz.prog tab 27 0 [] [] [] (ValK 0 (.bool true)) := by
 have hs := Z4C exL [] none (by decide)
 rw [List.append_nil, Zg3] at hs
 refine Does.enter Z2 (g := 27) (fn := Tryz.f27) Tryz.call27 Tryz.func27 rfl 54 rfl rfl [.tmp 0] rfl ?_
 intro w0 F η0 h0
 conv => whnf
 repeat' ((first | refine DRAWN.of (id := 3) Z2 mixed Wo (by kernel_rfl) ?_ | refine ADD.mk (fun _ _ => ?_) | refine AD ?_ | refine FORK.mk ?_ ?_ | refine CALL.value (ZaU) rfl rfl ?_ | refine AU ?_ | (refine IW (fun h => ?_) (fun h => ?_) <;> try (exfalso; omega))) <;> conv => whnf)
 refine CALL.aA [5] (hs) ?_
 rintro r O nx ⟨j, hj, rfl, rfl, rfl⟩
 conv => whnf
 repeat' ((first | refine DRAWN.of (id := 3) Z2 mixed Wo (by kernel_rfl) ?_ | refine ADD.mk (fun _ _ => ?_) | refine AD ?_ | refine FORK.mk ?_ ?_ | refine AU ?_ | (refine IW (fun h => ?_) (fun h => ?_) <;> try (exfalso; omega))) <;> conv => whnf)
 have hC := X0 exL (List.replicate j Zv) (some exL.length) 100 (by decide) (fun q hq => Zgl q (Zg4 q hq)) (by have h3 : exL.length = 3 := rfl; simp at hj ⊢; omega)
 refine CALL.aA [6] (hC) ?_
 rintro r O nx (⟨hv, rfl, rfl, rfl⟩ | ⟨hv, c, hc, (⟨rfl, rfl, rfl, rfl⟩ | ⟨s, j2, rfl, hj2, rfl, rfl, rfl⟩)⟩)
 · exact (hv ZdT).elim
 · have := ZN hc ZcI; cases this
 obtain rfl : exM = s := by injection (ZN hc ZcI).symm
 have hF := ZcJ exM (List.replicate j2 Zv) exQ (some exM.length) (by have h3 : exM.length = 6 := rfl; simp at hj2 ⊢; omega) Z8G
 rw [Zca triQ Z8G, decide_eq_true Zgk] at hF
 conv => whnf
 repeat' ((first | refine DRAWN.of (id := 3) Z2 mixed Wo (by kernel_rfl) ?_ | refine ADD.mk (fun _ _ => ?_) | refine AD ?_ | refine FORK.mk ?_ ?_ | refine AU ?_ | (refine IW (fun h => ?_) (fun h => ?_) <;> try (exfalso; omega))) <;> conv => whnf)
 refine CALL.aA [7] (hF) ?_
 rintro r O nx ⟨rfl, rfl, rfl⟩
 conv => whnf
 repeat' ((first | refine DRAWN.of (id := 3) Z2 mixed Wo (by kernel_rfl) ?_ | refine ADD.mk (fun _ _ => ?_) | refine AD ?_ | refine FORK.mk ?_ ?_ | refine AU ?_ | (refine IW (fun h => ?_) (fun h => ?_) <;> try (exfalso; omega))) <;> conv => whnf)
 all_goals first
   | exact FIN.valueK h0 rfl rfl
   | trace_state
end Go.Proofs.YtjbbkimodgffiaaGreatDoor
