/- Part 28: Grow2. Conditions: as each part says. -/
import Derived.Test.YtjbbkimodgffiaaGreatDoorInG22
import Derived.Test.YtjbbkimodgffiaaGreatDoorInG24
import Derived.Test.YtjbbkimodgffiaaGreatDoorInG27
set_option linter.unusedVariables false
set_option linter.unusedSimpArgs false
set_option maxRecDepth 20000
set_option maxHeartbeats 8000000
namespace Go.Proofs.YtjbbkimodgffiaaGreatDoor
open Go.Sx Go.Our
theorem Zf3 {l m s : List Qd} {most : Int} (h : IsCl l most (some s)) : ObIn (l ++ m) (s ++ m) := fun q hq => (List.mem_append.1 hq).elim (fun hq => (Zfd h q hq).imp fun t ht => ⟨List.mem_append_left _ ht.1, ht.2⟩) fun hq => ⟨q, List.mem_append_right _ hq, rfl⟩
set_option maxHeartbeats 8000000 in
theorem Z4f (base l z m y : List Qd) (lA lB : Option Nat) (most : Int) (hq : Z1o l) (hqm : Z1o m) (hb : base.length ≤ 65536) (ho : ObIn base (l ++ m)) (hz : (l ++ z).length ≤ 4194304) (hy : (m ++ y).length ≤ 4194304) : Does Tryz.prog tab 26 2 [.sl (.loc 0) 0 16 l.length lA, .sl (.loc 1) 0 16 m.length lB, .int .i64 most] [] [(0, .rows 16 ((l ++ z).map Z7)), (1, .rows 16 ((m ++ y).map Z7))]
   (fun r O nx => ∃ s e, Z6T l m (topM most) s e ∧ r = .tup [.sl (.loc 2) 0 16 s.length none, .int .i64 e] ∧ O = [(2, .rows 16 (s.map Z7))] ∧ nx = 3) := by
 have hz' := hz
 have hy' := hy
 rw [List.length_append] at hz' hy'
 have hv1 := UH l z lA (by omega) hq
 have hv2 := UH m y lB (by omega) hqm
 have htop : topM most ≤ 1048576 := by unfold topM; split <;> omega
 have fin0 : ∀ e, Z6T l m (topM most) [] e → ∃ (s : List Qd) (e' : Int), Z6T l m (topM most) s e' ∧ SV.tup [.sl (.loc 2) 0 16 0 none, .int .i64 e] = .tup [.sl (.loc 2) 0 16 s.length none, .int .i64 e'] ∧ [(2, Hp.rows 16 (([] : List Qd).map Z7))] = [(2, Hp.rows 16 (s.map Z7))] ∧ 3 = 3 := fun e h => ⟨[], e, h, rfl, rfl, rfl⟩
 refine Does.enter Z2 (g := 26) (fn := Tryz.f26) Tryz.call26 Tryz.func26 rfl 48 rfl rfl [.tmp 6, .tmp 7] rfl ?_
 intro w0 F η0 h0
 conv => whnf
 repeat' ((first | refine AU ?_ | (refine IW (fun h => ?_) (fun h => ?_) <;> try (exfalso; omega))) <;> conv => whnf)
 refine CALL.aA [0] (hv1) ?_
 rintro r O nx ⟨rfl, rfl, rfl⟩
 conv => whnf
 repeat' ((first | refine ADD.mk (fun _ _ => ?_) | refine AD ?_ | refine FORK.mk ?_ ?_ | refine AU ?_ | (refine IW (fun h => ?_) (fun h => ?_) <;> try (exfalso; omega))) <;> conv => whnf)
 case' refine_1 =>
   refine CALL.aA [1] (hv2) ?_
   rintro r O nx ⟨rfl, rfl, rfl⟩
   conv => whnf
   repeat' ((first | refine ADD.mk (fun _ _ => ?_) | refine AD ?_ | refine FORK.mk ?_ ?_ | refine AU ?_ | (refine IW (fun h => ?_) (fun h => ?_) <;> try (exfalso; omega))) <;> conv => whnf)
 case' refine_2.refine_1 =>
   have e : Z1p l m = (ZQ l).2 := if_pos h
   refine FIN.nilT 16 ?_
   refine FIN.aA h0 [2] (.tup [.sl (.loc 2) 0 16 0 none, .int .i64 (ZQ l).2]) [(2, .rows 16 (([] : List Qd).map Z7))] ?_
   exact fin0 _ (.inl ⟨by rw [e]; exact h, e.symm, rfl⟩)
 case' refine_1.refine_1 =>
   have hl0 : (ZQ l).2 = 0 := by assumption
   have e : Z1p l m = (ZQ m).2 := if_neg (by simp [hl0])
   refine FIN.nilT 16 ?_
   refine FIN.aA h0 [2] (.tup [.sl (.loc 2) 0 16 0 none, .int .i64 (ZQ m).2]) [(2, .rows 16 (([] : List Qd).map Z7))] ?_
   exact fin0 _ (.inl ⟨by rw [e]; exact h, e.symm, rfl⟩)
 have k2 : (ZQ m).2 = 0 := h
 have k1 : (ZQ l).2 = 0 := by assumption
 have hb0 : Z1p l m = 0 := by unfold Z1p; simp [k1, k2]
 have kl := VL k1
 have km := VL k2
 have hD := Z6Y base l z lA hq (fun q hq' => ho q (List.mem_append_left _ hq')) kl.2 hb (by omega)
 have hU := Z84 l z m y lA lB (by omega)
 rw [ZbT ⟨Z0K (Nat.le_refl 1) kl.1, Z0K (Nat.le_refl 1) km.1⟩, Z8L triQ kl.1 km.1, Z49 triQ kl.1 km.1 (l := l ++ m) (fun _ => List.mem_append)] at hU
 have hmu := fun x => U7 (c := Zt) (l ++ m) x
 have hA := Z71 base (setL Zt (l ++ m)) [] none (topM most) (W6 triQ _) (fun q hq' => (List.mem_append.1 ((hmu q).1 hq')).elim (hq q) (hqm q)) (fun q hq' => ho q ((hmu q).1 hq')) hb htop (by have := Z34 (c := Zt) (l ++ m); simp at this ⊢; omega)
 rw [List.append_nil] at hA
 refine CALL.aA [0] (hD) ?_
 rintro r O nx ⟨b, hb', rfl, rfl, rfl⟩
 conv => whnf
 repeat' ((first | refine ADD.mk (fun _ _ => ?_) | refine AD ?_ | refine FORK.mk ?_ ?_ | refine AU ?_ | (refine IW (fun h => ?_) (fun h => ?_) <;> try (exfalso; omega))) <;> conv => whnf)
 · refine FIN.nilT 16 ?_
   refine FIN.aA h0 [2] (.tup [.sl (.loc 2) 0 16 0 none, .int .i64 270]) [(2, .rows 16 (([] : List Qd).map Z7))] ?_
   exact fin0 _ (.inr (.inl ⟨hb0, (fun hc => by have := hb'.2 hc; rw [h] at this; cases this), rfl, rfl⟩))
 have hcl0 := hb'.1 h
 refine CALL.aA [0, 1] (hU) ?_
 rintro r O nx ⟨rfl, rfl, rfl⟩
 conv => whnf
 repeat' ((first | refine ADD.mk (fun _ _ => ?_) | refine AD ?_ | refine FORK.mk ?_ ?_ | refine AU ?_ | (refine IW (fun h => ?_) (fun h => ?_) <;> try (exfalso; omega))) <;> conv => whnf)
 refine CALL.aA [2] (hA) ?_
 rintro r O nx ⟨c, hc, hcc⟩
 have hc := Za7 hmu hc
 rcases hcc with ⟨rfl, rfl, rfl, rfl⟩ | ⟨rfl, rfl, rfl, rfl⟩ | ⟨s, rfl, rfl, rfl, rfl⟩
 · conv => whnf
   repeat' ((first | refine ADD.mk (fun _ _ => ?_) | refine AD ?_ | refine FORK.mk ?_ ?_ | refine AU ?_ | (refine IW (fun h => ?_) (fun h => ?_) <;> try (exfalso; omega))) <;> conv => whnf)
   refine FIN.nilT 16 ?_
   refine FIN.aA h0 [3] (.tup [.sl (.loc 2) 0 16 0 none, .int .i64 1]) [(2, .rows 16 (([] : List Qd).map Z7))] ?_
   exact fin0 _ (.inr (.inr ⟨hb0, hcl0, _, hc, .inl ⟨rfl, rfl, rfl⟩⟩))
 · conv => whnf
   repeat' ((first | refine ADD.mk (fun _ _ => ?_) | refine AD ?_ | refine FORK.mk ?_ ?_ | refine AU ?_ | (refine IW (fun h => ?_) (fun h => ?_) <;> try (exfalso; omega))) <;> conv => whnf)
   refine FIN.aA h0 [2] (.tup [.sl (.loc 2) 0 16 (setL Zt (l ++ m)).length none, .int .i64 0]) [(2, .rows 16 ((setL Zt (l ++ m)).map Z7))] ?_
   exact ⟨_, 0, .inr (.inr ⟨hb0, hcl0, _, hc, .inr ⟨rfl, rfl⟩⟩), rfl, rfl, rfl⟩
 · conv => whnf
   repeat' ((first | refine ADD.mk (fun _ _ => ?_) | refine AD ?_ | refine FORK.mk ?_ ?_ | refine AU ?_ | (refine IW (fun h => ?_) (fun h => ?_) <;> try (exfalso; omega))) <;> conv => whnf)
   refine FIN.aA h0 [3] (.tup [.sl (.loc 2) 0 16 s.length none, .int .i64 0]) [(2, .rows 16 (s.map Z7))] ?_
   exact ⟨_, 0, .inr (.inr ⟨hb0, hcl0, _, hc, .inr ⟨rfl, rfl⟩⟩), rfl, rfl, rfl⟩
end Go.Proofs.YtjbbkimodgffiaaGreatDoor
