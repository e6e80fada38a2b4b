/- Part 22: Grow1. Conditions: as each part says. -/
import Derived.Test.YtjbbkimodgffiaaGreatDoorInG20
import Derived.Test.YtjbbkimodgffiaaGreatDoorInG21
set_option linter.unusedVariables false
set_option linter.unusedSimpArgs false
set_option maxRecDepth 20000
set_option maxHeartbeats 8000000
namespace Go.Proofs.YtjbbkimodgffiaaGreatDoor
open Go.Sx Go.Our
theorem Z6U (n : Int) (h1 : 0 ≤ n) (h2 : n ≤ 4194304) : Does Tryz.prog tab 78 0 [.val (.slice none 0 0), .int .i64 n] [] []
   (fun r O nx => r = .sl (.loc 0) 0 16 0 none ∧ O = [(0, .rows 16 ((List.replicate n.toNat ZL).map Z7))] ∧ nx = 1) := by
 have hw : IntKind.i64.wrap (n - IntKind.i64.wrap (0 - 0)) = n := by rw [Z8 (a := 0 - 0) (by omega) (by omega), Z8 (by omega) (by omega)]; omega
 refine Does.enter Z2 (g := 78) (fn := Tryz.f78) Tryz.call78 Tryz.func78 rfl 27 rfl rfl [.tmp 4] rfl ?_
 intro w0 F η0 h0
 conv => whnf
 repeat' ((first | refine AU ?_ | (refine IW (fun h => ?_) (fun h => ?_) <;> try (exfalso; omega))) <;> conv => whnf)
 · rw [hw]
   refine NEED.mk ⟨h1, by omega, (by show n.toNat * 224 ≤ _; omega)⟩ ?_
   conv => whnf
   repeat' ((first | refine AU ?_ | (refine IW (fun h => ?_) (fun h => ?_) <;> try (exfalso; omega))) <;> conv => whnf)
   refine FIN.aA h0 [0] (.sl (.loc 0) 0 16 0 none) [(0, .rows 16 ((List.replicate n.toNat ZL).map Z7))] ?_ (hO := ⟨Z9 (Ze _) (by rw [List.map_replicate]; rfl), trivial⟩)
   exact ⟨rfl, rfl, rfl⟩
 · have : n = 0 := by omega
   subst this
   refine FIN.nil 16 ?_
   refine FIN.aA h0 [0] (.sl (.loc 0) 0 16 0 none) [(0, .rows 16 ((List.replicate (0 : Int).toNat ZL).map Z7))] ?_
   exact ⟨rfl, rfl, rfl⟩
set_option maxHeartbeats 8000000 in
theorem Z6V (l z m y : List Qd) (lA lB : Option Nat) (hl : l.length ≤ 1048576) (hm : m.length ≤ 1048576) (hz : (l ++ z).length ≤ 1152921504606846976) (hy : (m ++ y).length ≤ 1152921504606846976) : Does Tryz.prog tab 53 3 [.sl (.loc 2) 0 1 2 none] [] [(0, .rows 16 ((l ++ z).map Z7)), (1, .rows 16 ((m ++ y).map Z7)), (2, .rows 1 [[.sl (.loc 0) 0 16 l.length lA], [.sl (.loc 1) 0 16 m.length lB]])]
   (fun r O nx => r = .sl (.loc 3) 0 16 (l ++ m).length none ∧ O = [(3, .rows 16 ((l ++ m).map Z7))] ∧ nx = 4) := by
 have hw : IntKind.i64.wrap (IntKind.i64.wrap (0 + (l.length : Int)) + (m.length : Int)) = ((l.length + m.length : Nat) : Int) := by rw [Z8 (a := 0 + (l.length : Int)) (by omega) (by omega), Z8 (by omega) (by omega)]; omega
 have hG := Z6U ((l.length + m.length : Nat) : Int) (by omega) (by omega)
 refine Does.enter Z2 (g := 53) (fn := Tryz.f53) Tryz.call53 Tryz.func53 rfl 36 rfl rfl [.tmp 2] rfl ?_
 intro w0 F η0 h0
 conv => whnf
 repeat' ((first | refine AU ?_ | (refine IW (fun h => ?_) (fun h => ?_) <;> try (exfalso; omega))) <;> conv => whnf)
 refine LOOP.once Z2 ?_
 conv => whnf
 repeat' ((first | refine AU ?_ | (refine IW (fun h => ?_) (fun h => ?_) <;> try (exfalso; omega))) <;> conv => whnf)
 refine LOOP.once Z2 ?_
 conv => whnf
 repeat' ((first | refine AU ?_ | (refine IW (fun h => ?_) (fun h => ?_) <;> try (exfalso; omega))) <;> conv => whnf)
 refine LOOP.once Z2 ?_
 conv => whnf
 repeat' ((first | refine AU ?_ | (refine IW (fun h => ?_) (fun h => ?_) <;> try (exfalso; omega))) <;> conv => whnf)
 rw [hw]
 refine CALL.aA [] (hG) ?_
 rintro r O nx ⟨rfl, rfl, rfl⟩
 conv => whnf
 repeat' ((first | refine AU ?_ | (refine IW (fun h => ?_) (fun h => ?_) <;> try (exfalso; omega))) <;> conv => whnf)
 refine LOOP.once Z2 ?_
 conv => whnf
 repeat' ((first | (refine NEED.mk (Xt 224 rfl rfl (by simp) (by simp) (by omega)) ?_; conv => whnf) | refine AU ?_ | (refine IW (fun h => ?_) (fun h => ?_) <;> try (exfalso; omega))) <;> conv => whnf)
 refine LOOP.once Z2 ?_
 conv => whnf
 repeat' ((first | (refine NEED.mk (Xt 224 rfl rfl (by simp) (by simp) (by omega)) ?_; conv => whnf) | refine AU ?_ | (refine IW (fun h => ?_) (fun h => ?_) <;> try (exfalso; omega))) <;> conv => whnf)
 refine LOOP.once Z2 ?_
 conv => whnf
 repeat' ((first | refine AU ?_ | (refine IW (fun h => ?_) (fun h => ?_) <;> try (exfalso; omega))) <;> conv => whnf)
 have hrow : List.take (0 + l.length) (List.take 0 ((List.replicate (((l.length + m.length : Nat) : Int).toNat) ZL).map Z7) ++ List.take l.length (List.drop 0 ((l ++ z).map Z7))) ++ List.take m.length (List.drop 0 ((m ++ y).map Z7)) = (l ++ m).map Z7 := by simp [List.take_of_length_le]
 rw [Z6 _ (Ze _), hrow, show 0 + l.length + m.length = (l ++ m).length by simp]
 refine FIN.aA h0 [5] (.sl (.loc 3) 0 16 (l ++ m).length none) [(3, .rows 16 ((l ++ m).map Z7))] ?_
 exact ⟨rfl, rfl, rfl⟩
set_option maxHeartbeats 8000000 in
theorem Z6W (l z m y : List Qd) (lA lB : Option Nat) (most : Int) (hq : Z1o l) (hqm : Z1o m) (hz : (l ++ z).length ≤ 4194304) (hy : (m ++ y).length ≤ 4194304) : Does Tryz.prog tab 25 2 [.sl (.loc 0) 0 16 l.length lA, .sl (.loc 1) 0 16 m.length lB, .int .i64 most] [] [(0, .rows 16 ((l ++ z).map Z7)), (1, .rows 16 ((m ++ y).map Z7))]
   (fun r O nx => ∃ s e j lim, Z6T l m (topM most) s e ∧ (lim = none ∨ lim = some s.length) ∧ j + s.length ≤ 2097152 ∧ r = .tup [.sl (.loc 2) 0 16 s.length lim, .int .i64 e] ∧ O = [(2, .rows 16 ((s ++ List.replicate j ZL).map Z7))] ∧ nx = 3) := by
 have hz' := hz
 have hy' := hy
 rw [List.length_append] at hz' hy'
 have hv1 := Z3f l z lA (by omega) hq
 have hv2 := Z3f m y lB (by omega) hqm
 have hO := Z09 [(ZQ l).2, (ZQ m).2] (by simp)
 have hor : orE [(ZQ l).2, (ZQ m).2] = Z1p l m := by simp only [orE, Z1p]; (repeat' split) <;> omega
 rw [hor] at hO
 have htop : topM most ≤ 1048576 := by unfold topM; split <;> omega
 have fin0 : ∀ e, Z6T l m (topM most) [] e → ∃ (s : List Qd) (e' : Int) (j : Nat) (lim : Option Nat), Z6T l m (topM most) s e' ∧ (lim = none ∨ lim = some s.length) ∧ j + s.length ≤ 2097152 ∧ SV.tup [.sl (.loc 2) 0 16 0 none, .int .i64 e] = .tup [.sl (.loc 2) 0 16 s.length lim, .int .i64 e'] ∧ [(2, Hp.rows 16 (([] : List Qd).map Z7))] = [(2, Hp.rows 16 ((s ++ List.replicate j ZL).map Z7))] ∧ 3 = 3 := fun e h => ⟨[], e, 0, none, h, .inl rfl, by simp, rfl, rfl, rfl⟩
 refine Does.enter Z2 (g := 25) (fn := Tryz.f25) Tryz.call25 Tryz.func25 rfl 40 rfl rfl [.tmp 6, .tmp 7] rfl ?_
 intro w0 F η0 h0
 conv => whnf
 repeat' ((first | refine AU ?_ | (refine IW (fun h => ?_) (fun h => ?_) <;> try (exfalso; omega))) <;> conv => whnf)
 refine CALL.aA [0] (hv1) ?_
 rintro r O nx ⟨rfl, rfl, rfl⟩
 conv => whnf
 repeat' ((first | refine AU ?_ | (refine IW (fun h => ?_) (fun h => ?_) <;> try (exfalso; omega))) <;> conv => whnf)
 refine CALL.aA [1] (hv2) ?_
 rintro r O nx ⟨rfl, rfl, rfl⟩
 conv => whnf
 repeat' ((first | refine AU ?_ | (refine IW (fun h => ?_) (fun h => ?_) <;> try (exfalso; omega))) <;> conv => whnf)
 refine CALL.look1 2 hO rfl rfl rfl rfl rfl rfl ?_
 conv => whnf
 repeat' ((first | refine AU ?_ | (refine IW (fun h => ?_) (fun h => ?_) <;> try (exfalso; omega))) <;> conv => whnf)
 · refine FIN.nilT 16 ?_
   refine FIN.aA h0 [3] (.tup [.sl (.loc 2) 0 16 0 none, .int .i64 (Z1p l m)]) [(2, .rows 16 (([] : List Qd).map Z7))] ?_
   exact fin0 _ (.inl ⟨h, rfl, rfl⟩)
 have hb0 := h
 obtain ⟨k1, k2⟩ : (ZQ l).2 = 0 ∧ (ZQ m).2 = 0 := by unfold Z1p at hb0; split at hb0 <;> simp_all
 have kl := (VL k1).2
 have km := (VL k2).2
 have hD := Z7Y l z lA (by omega) hq (by omega)
 have hC := Z6V l z m y lA lB kl km (by omega) (by omega)
 have hcl := Z6P (l ++ m) [] none most (by rw [List.length_append]; omega) (fun q h => (List.mem_append.1 h).elim (hq q) (hqm q)) (by simp; omega)
 rw [List.append_nil] at hcl
 refine CALL.aA [0] (hD) ?_
 rintro r O nx ⟨b, hb, rfl, rfl, rfl⟩
 conv => whnf
 repeat' ((first | refine AU ?_ | (refine IW (fun h => ?_) (fun h => ?_) <;> try (exfalso; omega))) <;> conv => whnf)
 · refine FIN.nilT 16 ?_
   refine FIN.aA h0 [3] (.tup [.sl (.loc 2) 0 16 0 none, .int .i64 270]) [(2, .rows 16 (([] : List Qd).map Z7))] ?_
   exact fin0 _ (.inr (.inl ⟨hb0, (fun hc => by have := hb.2 hc; rw [h] at this; cases this), rfl, rfl⟩))
 have hcl0 := hb.1 h
 refine CALL.aA [0, 1, 3] (hC) ?_
 rintro r O nx ⟨rfl, rfl, rfl⟩
 conv => whnf
 repeat' ((first | refine AU ?_ | (refine IW (fun h => ?_) (fun h => ?_) <;> try (exfalso; omega))) <;> conv => whnf)
 refine CALL.aA [4] (hcl) ?_
 rintro r O nx ⟨w', he, rfl, rfl, rfl⟩
 by_cases hle : (w'.all.length : Int) ≤ topM most
 · rw [if_pos hle]
   have hw := he.len
   have ht := Za3 w'.all [] none (by unfold VA; omega)
   rw [List.append_nil] at ht
   conv => whnf
   repeat' ((first | refine AU ?_ | (refine IW (fun h => ?_) (fun h => ?_) <;> try (exfalso; omega))) <;> conv => whnf)
   refine CALL.aA [6] (ht) ?_
   rintro r O nx ⟨j, hj, rfl, rfl, rfl⟩
   conv => whnf
   repeat' ((first | refine AU ?_ | (refine IW (fun h => ?_) (fun h => ?_) <;> try (exfalso; omega))) <;> conv => whnf)
   refine FIN.aA h0 [10] (.tup [.sl (.loc 2) 0 16 (setL Zt w'.all).length (some (setL Zt w'.all).length), .int .i64 0]) [(2, .rows 16 ((setL Zt w'.all ++ List.replicate j ZL).map Z7))] ?_
   have hc := Z6B he.inv he.done
   unfold Z8T at hc
   rw [if_pos hle] at hc
   exact ⟨_, 0, j, _, .inr (.inr ⟨hb0, hcl0, _, hc, .inr ⟨rfl, rfl⟩⟩), .inr rfl, by omega, rfl, rfl, rfl⟩
 · rw [if_neg hle]
   conv => whnf
   repeat' ((first | refine AU ?_ | (refine IW (fun h => ?_) (fun h => ?_) <;> try (exfalso; omega))) <;> conv => whnf)
   refine FIN.nilT 16 ?_
   refine FIN.aA h0 [10] (.tup [.sl (.loc 2) 0 16 0 none, .int .i64 1]) [(2, .rows 16 (([] : List Qd).map Z7))] ?_
   have hc := Z6B he.inv he.done
   unfold Z8T at hc
   rw [if_neg hle] at hc
   exact fin0 _ (.inr (.inr ⟨hb0, hcl0, _, hc, .inl ⟨rfl, rfl, rfl⟩⟩))
end Go.Proofs.YtjbbkimodgffiaaGreatDoor
