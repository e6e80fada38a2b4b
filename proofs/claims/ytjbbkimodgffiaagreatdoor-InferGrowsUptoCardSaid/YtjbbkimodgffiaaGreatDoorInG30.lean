/- Part 30: LawGrows. Conditions: as each part says. -/
import Derived.Test.YtjbbkimodgffiaaGreatDoorInG28
import Derived.Test.YtjbbkimodgffiaaGreatDoorInG29
set_option linter.unusedVariables false
set_option linter.unusedSimpArgs false
set_option maxRecDepth 20000
set_option maxHeartbeats 8000000
namespace Go.Proofs.YtjbbkimodgffiaaGreatDoor
open Go.Sx Go.Our
theorem Zef {l : List Qd} (hl : ∀ q ∈ l, QdSm q) {q : Qd} (h : Der l q) : QdSm q := by
 induction h with
 | base h => exact hl _ h
 | step _ _ h iha ihb => rw [(Jq h).2.2.2.2.2]; exact XY iha ihb
theorem UI (s z B : List Qd) (lA lB : Option Nat) (hB : B = s) (hs : (s ++ z).length ≤ 1152921504606846976) : Does Tryz.prog tab 21 2 [.sl (.loc 0) 0 16 s.length lA, .sl (.loc 1) 0 16 B.length lB] [] [(0, .rows 16 ((s ++ z).map Z7)), (1, .rows 16 (B.map Z7))] (ValK 2 (.bool true)) := by
 subst hB
 have h := Uv (B ++ z) B 0 B.length 0 B.length lA lB (by simp) (by simp) hs (by simp at hs; omega)
 rw [decide_eq_true (by simp)] at h
 exact h
set_option maxHeartbeats 16000000 in
theorem Z5g (l m : List Qd) (most : Int) (hlm : l.length + m.length ≤ 65536) (hq : Z1o l) (hqm : Z1o m) : Does Tryz.prog tab 6 2 [.sl (.loc 0) 0 16 l.length none, .sl (.loc 1) 0 16 m.length none, .int .i64 most] [] [(0, .rows 16 (l.map Z7)), (1, .rows 16 (m.map Z7))] (ValK 2 (.bool true)) := by
 have hK1 := Z6g l (by unfold VA; omega)
 have hR1 := Z0D l (by unfold VA; omega)
 have hK2 := Z6g m (by unfold VA; omega)
 have hR2 := Z0D m (by unfold VA; omega)
 have hG := Z6W l [Y5, Y5] m [Y5, Y5] none none most hq hqm (by simp; omega) (by simp; omega)
 have hW := Z4f (l ++ m) l [] m [] none none most hq hqm (by rw [List.length_append]; omega) (Z7V _) (by simp; omega) (by simp; omega)
 have hC := Z5f l most (by omega) hq
 have htop : topM most ≤ 1048576 := by unfold topM; split <;> omega
 simp only [List.append_nil] at hW
 refine Does.enter Z2 (g := 6) (fn := Tryz.f6) Tryz.call6 Tryz.func6 rfl 88 rfl rfl [.tmp 6] rfl ?_
 intro w0 F η0 h0
 conv => whnf
 repeat' ((first | refine ADD.mk (fun _ _ => ?_) | refine AD ?_ | refine FORK.mk ?_ ?_ | refine AU ?_ | (refine IW (fun h => ?_) (fun h => ?_) <;> try (exfalso; omega))) <;> conv => whnf)
 refine CALL.aA [0] (hR1) ?_
 rintro r O nx ⟨rfl, rfl, rfl⟩
 conv => whnf
 repeat' ((first | refine ADD.mk (fun _ _ => ?_) | refine AD ?_ | refine FORK.mk ?_ ?_ | refine AU ?_ | (refine IW (fun h => ?_) (fun h => ?_) <;> try (exfalso; omega))) <;> conv => whnf)
 refine CALL.aA [1] (hR2) ?_
 rintro r O nx ⟨rfl, rfl, rfl⟩
 conv => whnf
 repeat' ((first | refine ADD.mk (fun _ _ => ?_) | refine AD ?_ | refine FORK.mk ?_ ?_ | refine AU ?_ | (refine IW (fun h => ?_) (fun h => ?_) <;> try (exfalso; omega))) <;> conv => whnf)
 refine CALL.aA [2, 3] (hG) ?_
 rintro r O nx ⟨s, e, j, lim, hg, hlim, hj, rfl, rfl, rfl⟩
 conv => whnf
 repeat' ((first | refine ADD.mk (fun _ _ => ?_) | refine AD ?_ | refine FORK.mk ?_ ?_ | refine AU ?_ | (refine IW (fun h => ?_) (fun h => ?_) <;> try (exfalso; omega))) <;> conv => whnf)
 refine CALL.aA [0, 1] (hW) ?_
 rintro r O nx ⟨s', e', hg', rfl, rfl, rfl⟩
 obtain ⟨rfl, rfl⟩ := Z0L hg hg'
 have hS := UI s' (List.replicate j ZL) s' lim none rfl (by simp; omega)
 have hO := Za9 (s' ++ List.replicate j ZL) s'.length (by simp) lim (by omega) (by simp; omega) hlim
 conv => whnf
 repeat' ((first | refine ADD.mk (fun _ _ => ?_) | refine AD ?_ | refine FORK.mk ?_ ?_ | refine AU ?_ | (refine IW (fun h => ?_) (fun h => ?_) <;> try (exfalso; omega))) <;> conv => whnf)
 refine CALL.aA [4, 5] (hS) ?_
 rintro r O nx ⟨rfl, rfl, rfl⟩
 conv => whnf
 repeat' ((first | refine ADD.mk (fun _ _ => ?_) | refine AD ?_ | refine FORK.mk ?_ ?_ | refine AU ?_ | (refine IW (fun h => ?_) (fun h => ?_) <;> try (exfalso; omega))) <;> conv => whnf)
 all_goals try (exfalso; simp at h; done)
 refine CALL.aA [0] (hC) ?_
 rintro r O nx (⟨hv, rfl, rfl, rfl⟩ | ⟨hv, c, hc, (⟨rfl, rfl, rfl, rfl⟩ | ⟨rfl, rfl, rfl, rfl⟩ | ⟨cl, rfl, rfl, rfl, rfl⟩)⟩)
 · conv => whnf
   repeat' ((first | refine ADD.mk (fun _ _ => ?_) | refine AD ?_ | refine FORK.mk ?_ ?_ | refine AU ?_ | (refine IW (fun h => ?_) (fun h => ?_) <;> try (exfalso; omega))) <;> conv => whnf)
   all_goals try (exfalso; omega)
   refine CALL.aA [4] (hO) ?_
   rintro r O nx ⟨rfl, rfl, rfl⟩
   conv => whnf
   repeat' ((first | refine ADD.mk (fun _ _ => ?_) | refine AD ?_ | refine FORK.mk ?_ ?_ | refine AU ?_ | (refine IW (fun h => ?_) (fun h => ?_) <;> try (exfalso; omega))) <;> conv => whnf)
   refine CALL.aA [0, 2] (hK1) ?_
   rintro r O nx ⟨rfl, rfl, rfl⟩
   conv => whnf
   repeat' ((first | refine ADD.mk (fun _ _ => ?_) | refine AD ?_ | refine FORK.mk ?_ ?_ | refine AU ?_ | (refine IW (fun h => ?_) (fun h => ?_) <;> try (exfalso; omega))) <;> conv => whnf)
   refine CALL.aA [1, 3] (hK2) ?_
   rintro r O nx ⟨rfl, rfl, rfl⟩
   conv => whnf
   repeat' ((first | refine ADD.mk (fun _ _ => ?_) | refine AD ?_ | refine FORK.mk ?_ ?_ | refine AU ?_ | (refine IW (fun h => ?_) (fun h => ?_) <;> try (exfalso; omega))) <;> conv => whnf)
   all_goals exact FIN.valueK h0 rfl rfl
 · conv => whnf
   repeat' ((first | refine ADD.mk (fun _ _ => ?_) | refine AD ?_ | refine FORK.mk ?_ ?_ | refine AU ?_ | (refine IW (fun h => ?_) (fun h => ?_) <;> try (exfalso; omega))) <;> conv => whnf)
   refine CALL.aA [4] (hO) ?_
   rintro r O nx ⟨rfl, rfl, rfl⟩
   conv => whnf
   repeat' ((first | refine ADD.mk (fun _ _ => ?_) | refine AD ?_ | refine FORK.mk ?_ ?_ | refine AU ?_ | (refine IW (fun h => ?_) (fun h => ?_) <;> try (exfalso; omega))) <;> conv => whnf)
   refine CALL.aA [0, 2] (hK1) ?_
   rintro r O nx ⟨rfl, rfl, rfl⟩
   conv => whnf
   repeat' ((first | refine ADD.mk (fun _ _ => ?_) | refine AD ?_ | refine FORK.mk ?_ ?_ | refine AU ?_ | (refine IW (fun h => ?_) (fun h => ?_) <;> try (exfalso; omega))) <;> conv => whnf)
   refine CALL.aA [1, 3] (hK2) ?_
   rintro r O nx ⟨rfl, rfl, rfl⟩
   conv => whnf
   repeat' ((first | refine ADD.mk (fun _ _ => ?_) | refine AD ?_ | refine FORK.mk ?_ ?_ | refine AU ?_ | (refine IW (fun h => ?_) (fun h => ?_) <;> try (exfalso; omega))) <;> conv => whnf)
   all_goals exact FIN.valueK h0 rfl rfl
 · have hR3 := hR1
   have hG2 := hG
   have hW2 := hW
   conv => whnf
   repeat' ((first | refine ADD.mk (fun _ _ => ?_) | refine AD ?_ | refine FORK.mk ?_ ?_ | refine AU ?_ | (refine IW (fun h => ?_) (fun h => ?_) <;> try (exfalso; omega))) <;> conv => whnf)
   refine CALL.aA [0] (hR3) ?_
   rintro r O nx ⟨rfl, rfl, rfl⟩
   conv => whnf
   repeat' ((first | refine ADD.mk (fun _ _ => ?_) | refine AD ?_ | refine FORK.mk ?_ ?_ | refine AU ?_ | (refine IW (fun h => ?_) (fun h => ?_) <;> try (exfalso; omega))) <;> conv => whnf)
   refine CALL.aA [6, 3] (hG2) ?_
   rintro r O nx ⟨s2, e2, j2, lim2, hg2, hlim2, hj2, rfl, rfl, rfl⟩
   conv => whnf
   repeat' ((first | refine ADD.mk (fun _ _ => ?_) | refine AD ?_ | refine FORK.mk ?_ ?_ | refine AU ?_ | (refine IW (fun h => ?_) (fun h => ?_) <;> try (exfalso; omega))) <;> conv => whnf)
   refine CALL.aA [0, 1] (hW2) ?_
   rintro r O nx ⟨s3, e3, hg3, rfl, rfl, rfl⟩
   obtain ⟨rfl, rfl⟩ := Z0L hg2 hg3
   have hS2 := UI s3 (List.replicate j2 ZL) s3 lim2 none rfl (by simp; omega)
   conv => whnf
   repeat' ((first | refine ADD.mk (fun _ _ => ?_) | refine AD ?_ | refine FORK.mk ?_ ?_ | refine AU ?_ | (refine IW (fun h => ?_) (fun h => ?_) <;> try (exfalso; omega))) <;> conv => whnf)
   refine CALL.aA [7, 8] (hS2) ?_
   rintro r O nx ⟨rfl, rfl, rfl⟩
   conv => whnf
   repeat' ((first | refine ADD.mk (fun _ _ => ?_) | refine AD ?_ | refine FORK.mk ?_ ?_ | refine AU ?_ | (refine IW (fun h => ?_) (fun h => ?_) <;> try (exfalso; omega))) <;> conv => whnf)
   all_goals try (exfalso; simp at h; done)
   refine CALL.aA [4] (hO) ?_
   rintro r O nx ⟨rfl, rfl, rfl⟩
   conv => whnf
   repeat' ((first | refine ADD.mk (fun _ _ => ?_) | refine AD ?_ | refine FORK.mk ?_ ?_ | refine AU ?_ | (refine IW (fun h => ?_) (fun h => ?_) <;> try (exfalso; omega))) <;> conv => whnf)
   refine CALL.aA [0, 2] (hK1) ?_
   rintro r O nx ⟨rfl, rfl, rfl⟩
   conv => whnf
   repeat' ((first | refine ADD.mk (fun _ _ => ?_) | refine AD ?_ | refine FORK.mk ?_ ?_ | refine AU ?_ | (refine IW (fun h => ?_) (fun h => ?_) <;> try (exfalso; omega))) <;> conv => whnf)
   refine CALL.aA [1, 3] (hK2) ?_
   rintro r O nx ⟨rfl, rfl, rfl⟩
   conv => whnf
   repeat' ((first | refine ADD.mk (fun _ _ => ?_) | refine AD ?_ | refine FORK.mk ?_ ?_ | refine AU ?_ | (refine IW (fun h => ?_) (fun h => ?_) <;> try (exfalso; omega))) <;> conv => whnf)
   all_goals exact FIN.valueK h0 rfl rfl
 · have hsc : Z1o cl := fun q hq' => Zef hq ((hc.2.1 q).1 hq')
   have hcl := hc.2.2
   have hR3 := Z0D cl (by unfold VA; omega)
   have hG2 := Z6W cl [Y5, Y5] m [Y5, Y5] none none most hsc hqm (by simp; omega) (by simp; omega)
   have hW2 := Z4f (l ++ m) cl [] m [] none none most hsc hqm (by rw [List.length_append]; omega) (Zf3 hc) (by simp; omega) (by simp; omega)
   simp only [List.append_nil] at hW2
   conv => whnf
   repeat' ((first | refine ADD.mk (fun _ _ => ?_) | refine AD ?_ | refine FORK.mk ?_ ?_ | refine AU ?_ | (refine IW (fun h => ?_) (fun h => ?_) <;> try (exfalso; omega))) <;> conv => whnf)
   refine CALL.aA [6] (hR3) ?_
   rintro r O nx ⟨rfl, rfl, rfl⟩
   conv => whnf
   repeat' ((first | refine ADD.mk (fun _ _ => ?_) | refine AD ?_ | refine FORK.mk ?_ ?_ | refine AU ?_ | (refine IW (fun h => ?_) (fun h => ?_) <;> try (exfalso; omega))) <;> conv => whnf)
   refine CALL.aA [7, 3] (hG2) ?_
   rintro r O nx ⟨s2, e2, j2, lim2, hg2, hlim2, hj2, rfl, rfl, rfl⟩
   conv => whnf
   repeat' ((first | refine ADD.mk (fun _ _ => ?_) | refine AD ?_ | refine FORK.mk ?_ ?_ | refine AU ?_ | (refine IW (fun h => ?_) (fun h => ?_) <;> try (exfalso; omega))) <;> conv => whnf)
   refine CALL.aA [6, 1] (hW2) ?_
   rintro r O nx ⟨s3, e3, hg3, rfl, rfl, rfl⟩
   obtain ⟨rfl, rfl⟩ := Z0L hg2 hg3
   have hS2 := UI s3 (List.replicate j2 ZL) s3 lim2 none rfl (by simp; omega)
   conv => whnf
   repeat' ((first | refine ADD.mk (fun _ _ => ?_) | refine AD ?_ | refine FORK.mk ?_ ?_ | refine AU ?_ | (refine IW (fun h => ?_) (fun h => ?_) <;> try (exfalso; omega))) <;> conv => whnf)
   refine CALL.aA [8, 9] (hS2) ?_
   rintro r O nx ⟨rfl, rfl, rfl⟩
   conv => whnf
   repeat' ((first | refine ADD.mk (fun _ _ => ?_) | refine AD ?_ | refine FORK.mk ?_ ?_ | refine AU ?_ | (refine IW (fun h => ?_) (fun h => ?_) <;> try (exfalso; omega))) <;> conv => whnf)
   all_goals try (exfalso; simp at h; done)
   refine CALL.aA [4] (hO) ?_
   rintro r O nx ⟨rfl, rfl, rfl⟩
   conv => whnf
   repeat' ((first | refine ADD.mk (fun _ _ => ?_) | refine AD ?_ | refine FORK.mk ?_ ?_ | refine AU ?_ | (refine IW (fun h => ?_) (fun h => ?_) <;> try (exfalso; omega))) <;> conv => whnf)
   refine CALL.aA [0, 2] (hK1) ?_
   rintro r O nx ⟨rfl, rfl, rfl⟩
   conv => whnf
   repeat' ((first | refine ADD.mk (fun _ _ => ?_) | refine AD ?_ | refine FORK.mk ?_ ?_ | refine AU ?_ | (refine IW (fun h => ?_) (fun h => ?_) <;> try (exfalso; omega))) <;> conv => whnf)
   refine CALL.aA [1, 3] (hK2) ?_
   rintro r O nx ⟨rfl, rfl, rfl⟩
   conv => whnf
   repeat' ((first | refine ADD.mk (fun _ _ => ?_) | refine AD ?_ | refine FORK.mk ?_ ?_ | refine AU ?_ | (refine IW (fun h => ?_) (fun h => ?_) <;> try (exfalso; omega))) <;> conv => whnf)
   all_goals exact FIN.valueK h0 rfl rfl
end Go.Proofs.YtjbbkimodgffiaaGreatDoor
