/- Part 24: RClosure. Conditions: as each part says. -/
import Derived.Test.YtjbbkimodgffiaaGreatDoorInW18
import Derived.Test.YtjbbkimodgffiaaGreatDoorInW23
set_option linter.unusedVariables false
set_option linter.unusedSimpArgs false
set_option maxRecDepth 20000
set_option maxHeartbeats 8000000
namespace Go.Proofs.YtjbbkimodgffiaaGreatDoor
open Go.Sx Go.Our
def RClQ (l : List Qd) (most : Int) (r : SV) (O : Hps) (nx : Nat) : Prop :=
 ((ZZ l).2 ≠ 0 ∧ r = .tup [.val (.slice none 0 0), .int .i64 (ZZ l).2] ∧ O = [] ∧ nx = 1) ∨
 ((ZZ l).2 = 0 ∧ ∃ c, IsCl l (topM most) c ∧ ((c = none ∧ r = .tup [.val (.slice none 0 0), .int .i64 1] ∧ O = [] ∧ nx = 1) ∨
   (c = some l ∧ r = .tup [.sl (.loc 0) 0 16 l.length none, .int .i64 0] ∧ O = [] ∧ nx = 1) ∨
   ∃ s, c = some s ∧ r = .tup [.sl (.loc 1) 0 16 s.length none, .int .i64 0] ∧ O = [(1, .rows 16 (s.map Zf))] ∧ nx = 2))
set_option maxHeartbeats 8000000 in
theorem Z5a (l : List Qd) (most : Int) (hl : l.length ≤ 65536) (hq : Z6L l) : Does Tryz.prog tab 14 1 [.sl (.loc 0) 0 16 l.length none, .int .i64 most] [] [(0, .rows 16 (l.map Zf))] (RClQ l most) := by
 have hv := Z39 l [] (by unfold Wx; omega) hq
 rw [List.append_nil] at hv
 have htop : topM most ≤ 1048576 := by unfold topM; split <;> omega
 refine Does.enter Z2 (g := 14) (fn := Tryz.f14) Tryz.call14 Tryz.func14 rfl 28 rfl rfl [.tmp 4, .tmp 5] rfl ?_
 intro w0 F η0 h0
 conv => whnf
 repeat' ((first | refine AU ?_ | (refine IW (fun h => ?_) (fun h => ?_) <;> try (exfalso; omega))) <;> conv => whnf)
 refine CALL.aA [0] (hv) ?_
 rintro r O nx ⟨rfl, rfl, rfl⟩
 conv => whnf
 repeat' ((first | refine ADD.mk (fun _ _ => ?_) | refine AD ?_ | refine FORK.mk ?_ ?_ | refine AU ?_ | (refine IW (fun h => ?_) (fun h => ?_) <;> try (exfalso; omega))) <;> conv => whnf)
 · refine FIN.aA h0 [] (.tup [.val (.slice none 0 0), .int .i64 (ZZ l).2]) [] ?_
   exact .inl ⟨h, rfl, rfl, rfl⟩
 have hv0 := h
 have hal := ZbR l l [] none (topM most) (Jw hv0).1 hq (ZbI l) hl htop (by simp; omega)
 rw [List.append_nil] at hal
 refine CALL.aA [0] (hal) ?_
 rintro r O nx ⟨c, hc, (⟨rfl, rfl, rfl, rfl⟩ | ⟨rfl, rfl, rfl, rfl⟩ | ⟨m, rfl, rfl, rfl, rfl⟩)⟩
 · conv => whnf
   repeat' ((first | refine ADD.mk (fun _ _ => ?_) | refine AD ?_ | refine FORK.mk ?_ ?_ | refine AU ?_ | (refine IW (fun h => ?_) (fun h => ?_) <;> try (exfalso; omega))) <;> conv => whnf)
   refine FIN.aA h0 [] (.tup [.val (.slice none 0 0), .int .i64 1]) [] ?_
   exact .inr ⟨hv0, _, hc, .inl ⟨rfl, rfl, rfl, rfl⟩⟩
 · conv => whnf
   repeat' ((first | refine ADD.mk (fun _ _ => ?_) | refine AD ?_ | refine FORK.mk ?_ ?_ | refine AU ?_ | (refine IW (fun h => ?_) (fun h => ?_) <;> try (exfalso; omega))) <;> conv => whnf)
   refine FIN.aA h0 [] (.tup [.sl (.loc 0) 0 16 l.length none, .int .i64 0]) [] ?_
   exact .inr ⟨hv0, _, hc, .inr (.inl ⟨rfl, rfl, rfl, rfl⟩)⟩
 · conv => whnf
   repeat' ((first | refine ADD.mk (fun _ _ => ?_) | refine AD ?_ | refine FORK.mk ?_ ?_ | refine AU ?_ | (refine IW (fun h => ?_) (fun h => ?_) <;> try (exfalso; omega))) <;> conv => whnf)
   refine FIN.aA h0 [1] (.tup [.sl (.loc 1) 0 16 m.length none, .int .i64 0]) [(1, .rows 16 (m.map Zf))] ?_
   exact .inr ⟨hv0, _, hc, .inr (.inr ⟨m, rfl, rfl, rfl, rfl⟩)⟩
end Go.Proofs.YtjbbkimodgffiaaGreatDoor
