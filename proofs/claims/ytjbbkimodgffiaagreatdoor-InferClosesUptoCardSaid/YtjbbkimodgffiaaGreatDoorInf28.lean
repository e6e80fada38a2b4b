/- Part 28: LawCloses. Conditions: as each part says. -/
import Derived.Test.YtjbbkimodgffiaaGreatDoorInf25
import Derived.Test.YtjbbkimodgffiaaGreatDoorInf27
set_option linter.unusedVariables false
set_option linter.unusedSimpArgs false
set_option maxRecDepth 20000
set_option maxHeartbeats 8000000
namespace Go.Proofs.YtjbbkimodgffiaaGreatDoor
open Go.Sx Go.Our
theorem Vl : Does Tryz.prog tab 21 0 [.val (.slice none 0 0), .val (.slice none 0 0)] [] [] (ValK 0 (.bool true)) := by
 refine Does.enter Z2 (g := 21) (fn := Tryz.f21) Tryz.call21 Tryz.func21 rfl 26 rfl rfl [.tmp 4] rfl ?_
 intro w0 F η0 h0
 conv => whnf
 repeat' ((first | refine AU ?_ | (refine IW (fun h => ?_) (fun h => ?_) <;> try (exfalso; omega))) <;> conv => whnf)
 refine LOOP.once Z2 ?_
 conv => whnf
 repeat' ((first | refine AU ?_ | (refine IW (fun h => ?_) (fun h => ?_) <;> try (exfalso; omega))) <;> conv => whnf)
 exact FIN.valueK h0 rfl rfl
theorem Vm (s z B : List Qd) (lA lB : Option Nat) (hB : B = s) (hs : (s ++ z).length ≤ 1152921504606846976) : Does Tryz.prog tab 21 2 [.sl (.loc 0) 0 16 s.length lA, .sl (.loc 1) 0 16 B.length lB] [] [(0, .rows 16 ((s ++ z).map Z3)), (1, .rows 16 (B.map Z3))] (ValK 2 (.bool true)) := by
 subst hB
 have h := YY (B ++ z) B 0 B.length 0 B.length lA lB (by simp) (by simp) hs (by simp at hs; omega)
 rw [decide_eq_true (by simp)] at h
 exact h
set_option maxHeartbeats 16000000 in
theorem Z3U (l : List Qd) (most : Int) (hl : l.length ≤ 65536) (hq : WY l) : Does Tryz.prog tab 5 1 [.sl (.loc 0) 0 16 l.length none, .int .i64 most] [] [(0, .rows 16 (l.map Z3))] (ValK 1 (.bool true)) := by
 have hz : (l ++ [ZW, ZW]).length ≤ 1152921504606846976 := by simp; omega
 have hK := Z7c l (by unfold XQ; omega)
 have hR := Z4w l (by unfold XQ; omega)
 have hC := X0 l [ZW, ZW] none most (by omega) hq hz
 have hW := Z0F l most hl hq
 have hD := WZ l [ZW, ZW] none (by omega) hq hz
 have hE := Z7h l l [] none hq (Z8w l) (by omega) hl (by simp; omega)
 rw [List.append_nil] at hE
 have htop : topM most ≤ 1048576 := by unfold topM; split <;> omega
 refine Does.enter Z2 (g := 5) (fn := Tryz.f5) Tryz.call5 Tryz.func5 rfl 64 rfl rfl [.tmp 4] rfl ?_
 intro w0 F η0 h0
 conv => whnf
 repeat' ((first | refine AU ?_ | (refine IW (fun h => ?_) (fun h => ?_) <;> try (exfalso; omega))) <;> conv => whnf)
 refine CALL.aA [0] (hR) ?_
 rintro r O nx ⟨rfl, rfl, rfl⟩
 conv => whnf
 repeat' ((first | refine ADD.mk (fun _ _ => ?_) | refine AD ?_ | refine FORK.mk ?_ ?_ | refine AU ?_ | (refine IW (fun h => ?_) (fun h => ?_) <;> try (exfalso; omega))) <;> conv => whnf)
 refine CALL.aA [1] (hC) ?_
 rintro r O nx (⟨hv, rfl, rfl, rfl⟩ | ⟨hv, c, hc, (⟨rfl, rfl, rfl, rfl⟩ | ⟨s, j, rfl, hj, rfl, rfl, rfl⟩)⟩)
 · conv => whnf
   repeat' ((first | refine ADD.mk (fun _ _ => ?_) | refine AD ?_ | refine FORK.mk ?_ ?_ | refine AU ?_ | (refine IW (fun h => ?_) (fun h => ?_) <;> try (exfalso; omega))) <;> conv => whnf)
   refine CALL.aA [1] (hC) ?_
   rintro r O nx (⟨-, rfl, rfl, rfl⟩ | ⟨hv2, _⟩)
   rotate_left
   · exact (hv hv2).elim
   conv => whnf
   repeat' ((first | refine ADD.mk (fun _ _ => ?_) | refine AD ?_ | refine FORK.mk ?_ ?_ | refine AU ?_ | (refine IW (fun h => ?_) (fun h => ?_) <;> try (exfalso; omega))) <;> conv => whnf)
   refine CALL.aA [0] (hW) ?_
   rintro r O nx (⟨-, rfl, rfl, rfl⟩ | ⟨hv2, _⟩)
   rotate_left
   · exact (hv hv2).elim
   conv => whnf
   repeat' ((first | refine ADD.mk (fun _ _ => ?_) | refine AD ?_ | refine FORK.mk ?_ ?_ | refine CALL.value (Vl) rfl rfl ?_ | refine AU ?_ | (refine IW (fun h => ?_) (fun h => ?_) <;> try (exfalso; omega))) <;> conv => whnf)
   refine CALL.aA [1] (hD) ?_
   rintro r O nx ⟨b1, hb1, rfl, rfl, rfl⟩
   conv => whnf
   repeat' ((first | refine ADD.mk (fun _ _ => ?_) | refine AD ?_ | refine FORK.mk ?_ ?_ | refine AU ?_ | (refine IW (fun h => ?_) (fun h => ?_) <;> try (exfalso; omega))) <;> conv => whnf)
   refine CALL.aA [0] (hE) ?_
   rintro r O nx ⟨b2, hb2, rfl, rfl, rfl⟩
   have hbb : b1 = b2 := by rw [Bool.eq_iff_iff, hb1, hb2]
   subst hbb
   conv => whnf
   repeat' ((first | refine ADD.mk (fun _ _ => ?_) | refine AD ?_ | refine FORK.mk ?_ ?_ | refine AU ?_ | (refine IW (fun h => ?_) (fun h => ?_) <;> try (exfalso; omega))) <;> conv => whnf)
   all_goals try (exfalso; simp at h; done)
   repeat' ((first | refine ADD.mk (fun _ _ => ?_) | refine AD ?_ | refine FORK.mk ?_ ?_ | refine CALL.value (Z1y) rfl rfl ?_ | refine CALL.value (Vl) rfl rfl ?_ | refine AU ?_ | (refine IW (fun h => ?_) (fun h => ?_) <;> try (exfalso; omega))) <;> conv => whnf)
   refine CALL.aA [0, 1] (hK) ?_
   rintro r O nx ⟨rfl, rfl, rfl⟩
   conv => whnf
   repeat' ((first | refine ADD.mk (fun _ _ => ?_) | refine AD ?_ | refine FORK.mk ?_ ?_ | refine AU ?_ | (refine IW (fun h => ?_) (fun h => ?_) <;> try (exfalso; omega))) <;> conv => whnf)
   exact FIN.valueK h0 rfl rfl
 · conv => whnf
   repeat' ((first | refine ADD.mk (fun _ _ => ?_) | refine AD ?_ | refine FORK.mk ?_ ?_ | refine AU ?_ | (refine IW (fun h => ?_) (fun h => ?_) <;> try (exfalso; omega))) <;> conv => whnf)
   refine CALL.aA [1] (hC) ?_
   rintro r O nx (⟨hv2, _⟩ | ⟨-, c2, hc2, (⟨rfl, rfl, rfl, rfl⟩ | ⟨s2, j2, rfl, _⟩)⟩)
   · exact (hv2 hv).elim
   rotate_left
   · cases ZN hc hc2
   conv => whnf
   repeat' ((first | refine ADD.mk (fun _ _ => ?_) | refine AD ?_ | refine FORK.mk ?_ ?_ | refine AU ?_ | (refine IW (fun h => ?_) (fun h => ?_) <;> try (exfalso; omega))) <;> conv => whnf)
   refine CALL.aA [0] (hW) ?_
   rintro r O nx (⟨hv2, _⟩ | ⟨-, c3, hc3, (⟨rfl, rfl, rfl, rfl⟩ | ⟨rfl, _⟩ | ⟨s3, rfl, _⟩)⟩)
   · exact (hv2 hv).elim
   rotate_left
   · cases ZN hc hc3
   · cases ZN hc hc3
   conv => whnf
   repeat' ((first | refine ADD.mk (fun _ _ => ?_) | refine AD ?_ | refine FORK.mk ?_ ?_ | refine CALL.value (Vl) rfl rfl ?_ | refine AU ?_ | (refine IW (fun h => ?_) (fun h => ?_) <;> try (exfalso; omega))) <;> conv => whnf)
   refine CALL.aA [1] (hD) ?_
   rintro r O nx ⟨b1, hb1, rfl, rfl, rfl⟩
   conv => whnf
   repeat' ((first | refine ADD.mk (fun _ _ => ?_) | refine AD ?_ | refine FORK.mk ?_ ?_ | refine AU ?_ | (refine IW (fun h => ?_) (fun h => ?_) <;> try (exfalso; omega))) <;> conv => whnf)
   refine CALL.aA [0] (hE) ?_
   rintro r O nx ⟨b2, hb2, rfl, rfl, rfl⟩
   have hbb : b1 = b2 := by rw [Bool.eq_iff_iff, hb1, hb2]
   subst hbb
   conv => whnf
   repeat' ((first | refine ADD.mk (fun _ _ => ?_) | refine AD ?_ | refine FORK.mk ?_ ?_ | refine AU ?_ | (refine IW (fun h => ?_) (fun h => ?_) <;> try (exfalso; omega))) <;> conv => whnf)
   all_goals try (exfalso; simp at h; done)
   repeat' ((first | refine ADD.mk (fun _ _ => ?_) | refine AD ?_ | refine FORK.mk ?_ ?_ | refine CALL.value (Z1y) rfl rfl ?_ | refine CALL.value (Vl) rfl rfl ?_ | refine AU ?_ | (refine IW (fun h => ?_) (fun h => ?_) <;> try (exfalso; omega))) <;> conv => whnf)
   refine CALL.aA [0, 1] (hK) ?_
   rintro r O nx ⟨rfl, rfl, rfl⟩
   conv => whnf
   repeat' ((first | refine ADD.mk (fun _ _ => ?_) | refine AD ?_ | refine FORK.mk ?_ ?_ | refine AU ?_ | (refine IW (fun h => ?_) (fun h => ?_) <;> try (exfalso; omega))) <;> conv => whnf)
   exact FIN.valueK h0 rfl rfl
 · have hsl : s.length ≤ 1048576 := by have := hc.2.2; omega
   conv => whnf
   repeat' ((first | refine ADD.mk (fun _ _ => ?_) | refine AD ?_ | refine FORK.mk ?_ ?_ | refine AU ?_ | (refine IW (fun h => ?_) (fun h => ?_) <;> try (exfalso; omega))) <;> conv => whnf)
   refine CALL.aA [1] (hC) ?_
   rintro r O nx (⟨hv2, _⟩ | ⟨-, c2, hc2, (⟨rfl, _⟩ | ⟨s2, j2, rfl, hj2, rfl, rfl, rfl⟩)⟩)
   · exact (hv2 hv).elim
   · cases ZN hc hc2
   obtain rfl : s = s2 := by injection ZN hc hc2
   conv => whnf
   repeat' ((first | refine ADD.mk (fun _ _ => ?_) | refine AD ?_ | refine FORK.mk ?_ ?_ | refine AU ?_ | (refine IW (fun h => ?_) (fun h => ?_) <;> try (exfalso; omega))) <;> conv => whnf)
   refine CALL.aA [0] (hW) ?_
   rintro r O nx (⟨hv2, _⟩ | ⟨-, c3, hc3, (⟨rfl, _⟩ | ⟨rfl, rfl, rfl, rfl⟩ | ⟨s3, rfl, rfl, rfl, rfl⟩)⟩)
   · exact (hv2 hv).elim
   · cases ZN hc hc3
   · have hls : l = s := by injection (ZN hc hc3).symm
     have h1 := Vm s (List.replicate j Zv) l (some s.length) none hls (by simp; omega)
     have h2 := Vm s (List.replicate j2 Zv) l (some s.length) none hls (by simp; omega)
     have hO := Z4G (s ++ List.replicate j Zv) s.length (by simp) (some s.length) (by omega) (by simp; omega) (.inr rfl)
     conv => whnf
     repeat' ((first | refine ADD.mk (fun _ _ => ?_) | refine AD ?_ | refine FORK.mk ?_ ?_ | refine AU ?_ | (refine IW (fun h => ?_) (fun h => ?_) <;> try (exfalso; omega))) <;> conv => whnf)
     refine CALL.aA [2, 0] (h1) ?_
     rintro r O nx ⟨rfl, rfl, rfl⟩
     conv => whnf
     repeat' ((first | refine ADD.mk (fun _ _ => ?_) | refine AD ?_ | refine FORK.mk ?_ ?_ | refine AU ?_ | (refine IW (fun h => ?_) (fun h => ?_) <;> try (exfalso; omega))) <;> conv => whnf)
     refine CALL.aA [3, 0] (h2) ?_
     rintro r O nx ⟨rfl, rfl, rfl⟩
     conv => whnf
     repeat' ((first | refine ADD.mk (fun _ _ => ?_) | refine AD ?_ | refine FORK.mk ?_ ?_ | refine AU ?_ | (refine IW (fun h => ?_) (fun h => ?_) <;> try (exfalso; omega))) <;> conv => whnf)
     refine CALL.aA [1] (hD) ?_
     rintro r O nx ⟨b1, hb1, rfl, rfl, rfl⟩
     conv => whnf
     repeat' ((first | refine ADD.mk (fun _ _ => ?_) | refine AD ?_ | refine FORK.mk ?_ ?_ | refine AU ?_ | (refine IW (fun h => ?_) (fun h => ?_) <;> try (exfalso; omega))) <;> conv => whnf)
     refine CALL.aA [0] (hE) ?_
     rintro r O nx ⟨b2, hb2, rfl, rfl, rfl⟩
     have hbb : b1 = b2 := by rw [Bool.eq_iff_iff, hb1, hb2]
     subst hbb
     conv => whnf
     repeat' ((first | refine ADD.mk (fun _ _ => ?_) | refine AD ?_ | refine FORK.mk ?_ ?_ | refine AU ?_ | (refine IW (fun h => ?_) (fun h => ?_) <;> try (exfalso; omega))) <;> conv => whnf)
     all_goals try (exfalso; simp at h; done)
     refine CALL.aA [2] (hO) ?_
     rintro r O nx ⟨rfl, rfl, rfl⟩
     conv => whnf
     repeat' ((first | refine ADD.mk (fun _ _ => ?_) | refine AD ?_ | refine FORK.mk ?_ ?_ | refine AU ?_ | (refine IW (fun h => ?_) (fun h => ?_) <;> try (exfalso; omega))) <;> conv => whnf)
     refine CALL.aA [3, 0] (h2) ?_
     rintro r O nx ⟨rfl, rfl, rfl⟩
     conv => whnf
     repeat' ((first | refine ADD.mk (fun _ _ => ?_) | refine AD ?_ | refine FORK.mk ?_ ?_ | refine AU ?_ | (refine IW (fun h => ?_) (fun h => ?_) <;> try (exfalso; omega))) <;> conv => whnf)
     refine CALL.aA [0, 1] (hK) ?_
     rintro r O nx ⟨rfl, rfl, rfl⟩
     conv => whnf
     repeat' ((first | refine ADD.mk (fun _ _ => ?_) | refine AD ?_ | refine FORK.mk ?_ ?_ | refine AU ?_ | (refine IW (fun h => ?_) (fun h => ?_) <;> try (exfalso; omega))) <;> conv => whnf)
     exact FIN.valueK h0 rfl rfl
   · have hls : s3 = s := by injection (ZN hc hc3).symm
     have h1 := Vm s (List.replicate j Zv) s3 (some s.length) none hls (by simp; omega)
     have h2 := Vm s (List.replicate j2 Zv) s3 (some s.length) none hls (by simp; omega)
     have hO := Z4G (s ++ List.replicate j Zv) s.length (by simp) (some s.length) (by omega) (by simp; omega) (.inr rfl)
     conv => whnf
     repeat' ((first | refine ADD.mk (fun _ _ => ?_) | refine AD ?_ | refine FORK.mk ?_ ?_ | refine AU ?_ | (refine IW (fun h => ?_) (fun h => ?_) <;> try (exfalso; omega))) <;> conv => whnf)
     refine CALL.aA [2, 4] (h1) ?_
     rintro r O nx ⟨rfl, rfl, rfl⟩
     conv => whnf
     repeat' ((first | refine ADD.mk (fun _ _ => ?_) | refine AD ?_ | refine FORK.mk ?_ ?_ | refine AU ?_ | (refine IW (fun h => ?_) (fun h => ?_) <;> try (exfalso; omega))) <;> conv => whnf)
     refine CALL.aA [3, 4] (h2) ?_
     rintro r O nx ⟨rfl, rfl, rfl⟩
     conv => whnf
     repeat' ((first | refine ADD.mk (fun _ _ => ?_) | refine AD ?_ | refine FORK.mk ?_ ?_ | refine AU ?_ | (refine IW (fun h => ?_) (fun h => ?_) <;> try (exfalso; omega))) <;> conv => whnf)
     refine CALL.aA [1] (hD) ?_
     rintro r O nx ⟨b1, hb1, rfl, rfl, rfl⟩
     conv => whnf
     repeat' ((first | refine ADD.mk (fun _ _ => ?_) | refine AD ?_ | refine FORK.mk ?_ ?_ | refine AU ?_ | (refine IW (fun h => ?_) (fun h => ?_) <;> try (exfalso; omega))) <;> conv => whnf)
     refine CALL.aA [0] (hE) ?_
     rintro r O nx ⟨b2, hb2, rfl, rfl, rfl⟩
     have hbb : b1 = b2 := by rw [Bool.eq_iff_iff, hb1, hb2]
     subst hbb
     conv => whnf
     repeat' ((first | refine ADD.mk (fun _ _ => ?_) | refine AD ?_ | refine FORK.mk ?_ ?_ | refine AU ?_ | (refine IW (fun h => ?_) (fun h => ?_) <;> try (exfalso; omega))) <;> conv => whnf)
     all_goals try (exfalso; simp at h; done)
     refine CALL.aA [2] (hO) ?_
     rintro r O nx ⟨rfl, rfl, rfl⟩
     conv => whnf
     repeat' ((first | refine ADD.mk (fun _ _ => ?_) | refine AD ?_ | refine FORK.mk ?_ ?_ | refine AU ?_ | (refine IW (fun h => ?_) (fun h => ?_) <;> try (exfalso; omega))) <;> conv => whnf)
     refine CALL.aA [3, 4] (h2) ?_
     rintro r O nx ⟨rfl, rfl, rfl⟩
     conv => whnf
     repeat' ((first | refine ADD.mk (fun _ _ => ?_) | refine AD ?_ | refine FORK.mk ?_ ?_ | refine AU ?_ | (refine IW (fun h => ?_) (fun h => ?_) <;> try (exfalso; omega))) <;> conv => whnf)
     refine CALL.aA [0, 1] (hK) ?_
     rintro r O nx ⟨rfl, rfl, rfl⟩
     conv => whnf
     repeat' ((first | refine ADD.mk (fun _ _ => ?_) | refine AD ?_ | refine FORK.mk ?_ ?_ | refine AU ?_ | (refine IW (fun h => ?_) (fun h => ?_) <;> try (exfalso; omega))) <;> conv => whnf)
     exact FIN.valueK h0 rfl rfl
end Go.Proofs.YtjbbkimodgffiaaGreatDoor
