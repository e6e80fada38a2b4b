/- Part 34: New1. Conditions: as each part says. -/
import Derived.Test.YtjbbkimodgffiaaGreatDoorInf21
import Derived.Test.YtjbbkimodgffiaaGreatDoorInf24
import Derived.Test.YtjbbkimodgffiaaGreatDoorInf31
set_option linter.unusedVariables false
set_option linter.unusedSimpArgs false
set_option maxRecDepth 20000
set_option maxHeartbeats 8000000
namespace Go.Proofs.YtjbbkimodgffiaaGreatDoor
open Go.Sx Go.Our
theorem Z8H (i n : Nat) (lim : Option Nat) : Does Tryz.prog tab 60 1 [.sl (.loc 0) i 16 n lim] [] []
   (fun r O nx => r = .fn (.func 88) [] [.ptr (.loc 1) 0 0 0] ∧ O = [(1, .box [.sl (.loc 0) i 16 n lim])] ∧ nx = 2) := by
 refine Does.enter Z2 (g := 60) (fn := Tryz.f60) Tryz.call60 Tryz.func60 rfl 4 rfl rfl [.tmp 2] rfl ?_
 intro w0 F η0 h0
 conv => whnf
 repeat' ((first | refine AU ?_ | (refine IW (fun h => ?_) (fun h => ?_) <;> try (exfalso; omega))) <;> conv => whnf)
 refine FIN.at h0 [1] (.fn (.func 88) [] [.ptr (.loc 1) 0 0 0]) [(1, .box [.sl (.loc 0) i 16 n lim])] rfl rfl rfl rfl ⟨rfl, trivial⟩ rfl ⟨rfl, rfl, rfl⟩
abbrev newM (s l : List Qd) : List Qd := ZH Zm true false false s l
def NewQ (l : List Qd) (most : Int) (r : SV) (O : Hps) (nx : Nat) : Prop :=
 ((ZQ l).2 ≠ 0 ∧ r = .tup [.val .nilFunc, .int .i64 (ZQ l).2] ∧ O = [] ∧ nx = 1) ∨
 ((ZQ l).2 = 0 ∧ ∃ c, IsCl l (topM most) c ∧ ((c = none ∧ r = .tup [.val .nilFunc, .int .i64 1] ∧ O = [] ∧ nx = 1) ∨
   ∃ s, c = some s ∧ r = .tup [.fn (.func 88) [] [.ptr (.loc 1) 0 0 0], .int .i64 0] ∧ O = [(1, .box [.sl (.loc 2) 0 16 (newM s l).length none]), (2, .rows 16 ((newM s l).map Z3))] ∧ nx = 3))
set_option maxHeartbeats 8000000 in
theorem ZdV (l z : List Qd) (lim : Option Nat) (most : Int) (hl : l.length ≤ 65536) (hq : WY l) (hz : (l ++ z).length ≤ 2097152) : Does Tryz.prog tab 31 1 [.sl (.loc 0) 0 16 l.length lim, .int .i64 most] [] [(0, .rows 16 ((l ++ z).map Z3))] (NewQ l most) := by
 have hC := X0 l z lim most (by omega) hq (by omega)
 have htop : topM most ≤ 1048576 := by unfold topM; split <;> omega
 refine Does.enter Z2 (g := 31) (fn := Tryz.f31) Tryz.call31 Tryz.func31 rfl 27 rfl rfl [.tmp 4, .tmp 5] rfl ?_
 intro w0 F η0 h0
 conv => whnf
 repeat' ((first | refine AU ?_ | (refine IW (fun h => ?_) (fun h => ?_) <;> try (exfalso; omega))) <;> conv => whnf)
 refine CALL.aA [0] (hC) ?_
 rintro r O nx (⟨hv, rfl, rfl, rfl⟩ | ⟨hv, c, hc, (⟨rfl, rfl, rfl, rfl⟩ | ⟨s, j, rfl, hj, rfl, rfl, rfl⟩)⟩)
 · conv => whnf
   repeat' ((first | refine ADD.mk (fun _ _ => ?_) | refine AD ?_ | refine FORK.mk ?_ ?_ | refine AU ?_ | (refine IW (fun h => ?_) (fun h => ?_) <;> try (exfalso; omega))) <;> conv => whnf)
   all_goals first
     | (exfalso; exact hv (by assumption))
     | (refine FIN.aA h0 [] (.tup [.val .nilFunc, .int .i64 (ZQ l).2]) [] ?_; exact .inl ⟨hv, rfl, rfl, rfl⟩)
 · conv => whnf
   repeat' ((first | refine ADD.mk (fun _ _ => ?_) | refine AD ?_ | refine FORK.mk ?_ ?_ | refine AU ?_ | (refine IW (fun h => ?_) (fun h => ?_) <;> try (exfalso; omega))) <;> conv => whnf)
   refine FIN.aA h0 [] (.tup [.val .nilFunc, .int .i64 1]) [] ?_
   exact .inr ⟨hv, _, hc, .inl ⟨rfl, rfl, rfl, rfl⟩⟩
 · have hsl : s.length ≤ 1048576 := by have := hc.2.2; omega
   have hM := Un s (List.replicate j Zv) l z (some s.length) lim (by simp at hz ⊢; omega) (by unfold Z7I; omega)
   rw [UW ⟨Yw (Nat.le_refl 1) hc.1, Yw (Nat.le_refl 1) (Wn hv).1⟩] at hM
   conv => whnf
   repeat' ((first | refine ADD.mk (fun _ _ => ?_) | refine AD ?_ | refine FORK.mk ?_ ?_ | refine AU ?_ | (refine IW (fun h => ?_) (fun h => ?_) <;> try (exfalso; omega))) <;> conv => whnf)
   refine CALL.aA [1, 0] (hM) ?_
   rintro r O nx ⟨rfl, rfl, rfl⟩
   conv => whnf
   repeat' ((first | refine ADD.mk (fun _ _ => ?_) | refine AD ?_ | refine FORK.mk ?_ ?_ | refine AU ?_ | (refine IW (fun h => ?_) (fun h => ?_) <;> try (exfalso; omega))) <;> conv => whnf)
   refine CALL.aA [2] (Z8H 0 (newM s l).length none) ?_
   rintro r O nx ⟨rfl, rfl, rfl⟩
   conv => whnf
   repeat' ((first | refine ADD.mk (fun _ _ => ?_) | refine AD ?_ | refine FORK.mk ?_ ?_ | refine AU ?_ | (refine IW (fun h => ?_) (fun h => ?_) <;> try (exfalso; omega))) <;> conv => whnf)
   refine FIN.aA h0 [3, 2] (.tup [.fn (.func 88) [] [.ptr (.loc 1) 0 0 0], .int .i64 0]) [(1, .box [.sl (.loc 2) 0 16 (newM s l).length none]), (2, .rows 16 ((newM s l).map Z3))] ?_
   exact .inr ⟨hv, _, hc, .inr ⟨s, rfl, rfl, rfl, rfl⟩⟩
end Go.Proofs.YtjbbkimodgffiaaGreatDoor
