/- Part 30: Bij2. Conditions: as each part says. -/
import Derived.Test.YtbfbokdccdagkaaGreatDoorICh28
import Derived.Test.YtbfbokdccdagkaaGreatDoorICh29
set_option linter.unusedVariables false
set_option linter.unusedSimpArgs false
set_option maxRecDepth 20000
set_option maxHeartbeats 8000000
namespace Go.Proofs.YtbfbokdccdagkaaGreatDoor
open Go.Sx Go.Our
def ZbQ : Plan := (ZO [(0, 1), (1, 1), (2, 1), (3, 1), (5, 1), (6, 1), (7, 1), (4, 2), (8, 2), (9, 1)])
def ZbR : Plan := (ZO [(0, 1), (1, 1), (2, 1), (4, 1), (5, 1), (6, 1), (3, 2), (7, 2), (8, 1)])
theorem Z9F (ps : List Pr) (s : LB) : (toOf ps s).isSome = true ↔ s ∈ ps.map Prod.fst := by
 unfold toOf
 rw [Option.isSome_map, List.find?_isSome]
 simp only [decide_eq_true_eq, List.mem_map]
theorem Z5z (ps zp : List Pr) (s : LB) (lim : Option Nat) (hp : (ps ++ zp).length ≤ 1152921504606846976) : Does Tryz.prog tab 76 1 [.sl (.loc 0) 0 2 ps.length lim, .str s] [] [(0, .rows 2 ((ps ++ zp).map YZ))] (ValK 1 (.tup [.str ((toOf ps s).getD []), .bool (toOf ps s).isSome])) := by
 have hp1 : (ps ++ zp).length = ps.length + zp.length := List.length_append
 refine Does.enter Z3 (g := 76) (fn := Tryz.f76) Tryz.call76 Tryz.func76 rfl 25 rfl rfl [.tmp 4, .tmp 5] rfl ?_
 intro w0 F η0 h0
 conv => whnf
 repeat' ((first | refine AU ?_ | (refine IW (fun h => ?_) (fun h => ?_) <;> try (exfalso; omega))) <;> conv => whnf)
 refine LOOP.gok Z3 [0, 1] [] (X := Nat) (fun i => i ≤ ps.length ∧ toOf ps s = toOf (ps.drop i) s) (fun i => [(6, .int .i64 (i : Int))]) (fun i => []) 1 (fun i => ps.length - i) 0 ⟨by omega, rfl⟩ ?_
 conv => whnf
 refine ⟨by exact GOES.kA h0 [], ?_⟩
 rintro i ⟨hi, ht⟩
 conv => whnf
 by_cases hil : i < ps.length
 · rw [Z5u hil] at ht
   repeat' ((first | (refine GET.at (row := YZ (ps[i]'(by omega))) (Ws (by omega) (by omega)) ?_; conv => whnf) | refine AU ?_ | (refine IW (fun h => ?_) (fun h => ?_) <;> try (exfalso; omega))) <;> conv => whnf)
   · rw [if_pos h] at ht
     exact FIN.valueK h0 rfl (by rw [ht]; rfl)
   · rw [if_neg h] at ht
     refine ⟨i + 1, ⟨by omega, ht⟩, by omega, ?_⟩
     conv => whnf
     exact GOES.kA h0 []
 · have hie : i = ps.length := by omega
   rw [hie, List.drop_length] at ht
   repeat' ((first | refine AU ?_ | (refine IW (fun h => ?_) (fun h => ?_) <;> try (exfalso; omega))) <;> conv => whnf)
   exact FIN.valueK h0 rfl (by rw [ht]; rfl)
set_option maxHeartbeats 8000000 in
theorem Z9G (a za b zb : List Qd) (ps zp : List Pr) (limA limB limP : Option Nat) (ha : YC a) (hb : YC b) (hza : (a ++ za).length ≤ 1152921504606846976) (hzb : (b ++ zb).length ≤ 1152921504606846976) (hp : (ps ++ zp).length ≤ 1152921504606846976) : Does Tryz.prog tab 49 3 [.sl (.loc 0) 0 16 a.length limA, .sl (.loc 1) 0 16 b.length limB, .sl (.loc 2) 0 2 ps.length limP] [] [(0, .rows 16 ((a ++ za).map Zl)), (1, .rows 16 ((b ++ zb).map Zl)), (2, .rows 2 ((ps ++ zp).map YZ))] (ValK 3 (.bool (bijM (Z0y a) (Z0y b) ps))) := by
 have hA := Z0j a za limA ha hza
 have hB := Z0j b zb limB hb hzb
 have hAl := Z0U a
 have hBl := Z0U b
 have hp1 : (ps ++ zp).length = ps.length + zp.length := List.length_append
 unfold YC at ha hb
 have hrA : Rise cmpL (Z0y a) := XL triL _
 have hrB : Rise cmpL (Z0y b) := XL triL _
 refine Does.enter Z3 (g := 49) (fn := Tryz.f49) Tryz.call49 Tryz.func49 rfl 67 rfl rfl [.tmp 6] rfl ?_
 intro w0 F η0 h0
 conv => whnf
 repeat' ((first | refine AU ?_ | (refine IW (fun h => ?_) (fun h => ?_) <;> try (exfalso; omega))) <;> conv => whnf)
 refine CALL.aA [0] (hA) ?_
 rintro r O nx ⟨rfl, rfl, rfl⟩
 conv => whnf
 repeat' ((first | refine AU ?_ | (refine IW (fun h => ?_) (fun h => ?_) <;> try (exfalso; omega))) <;> conv => whnf)
 refine CALL.aA [1] (hB) ?_
 rintro r O nx ⟨rfl, rfl, rfl⟩
 conv => whnf
 obtain ⟨A, hAd⟩ : ∃ A, A = setL cmpL (X1 a) := ⟨_, rfl⟩
 obtain ⟨B, hBd⟩ : ∃ B, B = setL cmpL (X1 b) := ⟨_, rfl⟩
 unfold Z0y at *
 rw [← hAd] at hAl hrA
 rw [← hBd] at hBl hrB
 rw [← hAd, ← hBd]
 repeat' ((first | refine AU ?_ | (refine IW (fun h => ?_) (fun h => ?_) <;> try (exfalso; omega))) <;> conv => whnf)
 · exact FIN.valueK h0 rfl (congrArg SV.bool (h.elim (fun h => Z7d (by omega)) fun h => Z7e (by omega)).symm)
 have e1 : ps.length = A.length := by omega
 have e2 : A.length = B.length := by omega
 have hbi := ZbO hrA hrB e1 e2
 refine LOOP.gok Z3 [2, 7, 8] [] (X := Nat) (fun i => i ≤ A.length ∧ ∀ k (hk : k < A.length), k < i → A[k] ∈ ps.map Prod.fst ∧ (ps.map Prod.snd).count (B[k]'(e2 ▸ hk)) = 1) (fun i => [(9, .int .i64 (i : Int))]) (fun i => [(3, .rows 1 (A.map Zo)), (4, .rows 1 (B.map Zo))]) 5 (fun i => A.length - i) 0 ⟨by omega, fun k hk h => by omega⟩ ?_
 conv => whnf
 refine ⟨by exact GOES.kA h0 [3, 4], ?_⟩
 rintro i ⟨hi, hall⟩
 conv => whnf
 by_cases hil : i < A.length
 · have hP := Z5z ps zp A[i] limP hp
   have gA := ZcE (z := []) hil (k := 0 + (i : Int).toNat) (by omega)
   have hilB : i < B.length := e2 ▸ hil
   have gB := ZcE (z := []) hilB (k := 0 + (i : Int).toNat) (by omega)
   rw [List.append_nil] at gA gB
   repeat' ((first | (refine GET.at gA ?_; conv => whnf) | refine AU ?_ | (refine IW (fun h => ?_) (fun h => ?_) <;> try (exfalso; omega))) <;> conv => whnf)
   refine CALL.aA [2] (hP) ?_
   rintro r O nx ⟨rfl, rfl, rfl⟩
   conv => whnf
   repeat' ((first | refine AU ?_ | (refine IW (fun h => ?_) (fun h => ?_) <;> try (exfalso; omega))) <;> conv => whnf)
   · refine FIN.valueK h0 rfl (congrArg SV.bool (Eq.symm (Bool.eq_false_iff.2 fun hb => ?_)))
     rw [(Z9F ps A[i]).2 (hbi.1 hb i hil).1] at h
     cases h
   have hin := (Z9F ps A[i]).1 h
   refine LOOP.gok Z3 [2, 7, 8, 9] [3, 4] (X := Nat) (fun k => k ≤ ps.length) (fun k => [(13, .int .i64 (k : Int)), (12, .int .i64 ((((ps.take k).map Prod.snd).count B[i] : Nat) : Int))]) (fun k => []) 5 (fun k => ps.length - k) 0 (by omega) ?_
   conv => whnf
   refine ⟨by exact GOES.kA h0 [3, 4], ?_⟩
   intro k hk
   have hc : ((ps.take k).map Prod.snd).count B[i] ≤ k := Nat.le_trans List.count_le_length (by simp; omega)
   conv => whnf
   by_cases hkl : k < ps.length
   · have hs := Z9C hkl B[i]
     repeat' ((first | refine DRAWN.of (id := 15) Z3 mixed ZbQ (by kernel_rfl) ?_ | refine ADD.mk (fun _ _ => ?_) | refine AD ?_ | refine FORK.mk ?_ ?_ | (refine GET.at (row := YZ (ps[k]'(by omega))) (Ws (by omega) (by omega)) ?_; conv => whnf) | (refine GET.at gB ?_; conv => whnf) | refine AU ?_ | (refine IW (fun h => ?_) (fun h => ?_) <;> try (exfalso; omega))) <;> conv => whnf)
     · rw [if_pos h] at hs
       refine ⟨k + 1, by omega, by omega, ?_⟩
       rw [hs]
       conv => whnf
       exact GOES.kA h0 [3, 4]
     · rw [if_neg h] at hs
       refine ⟨k + 1, by omega, by omega, ?_⟩
       rw [hs]
       conv => whnf
       exact GOES.kA h0 [3, 4]
   · have hke : k = ps.length := by omega
     subst hke
     rw [List.take_length] at hc ⊢
     repeat' ((first | refine AU ?_ | (refine IW (fun h => ?_) (fun h => ?_) <;> try (exfalso; omega))) <;> conv => whnf)
     · refine FIN.valueK h0 rfl (congrArg SV.bool (Eq.symm (Bool.eq_false_iff.2 fun hb => ?_)))
       have := (hbi.1 hb i hil).2
       omega
     · refine ⟨i + 1, ⟨by omega, fun k hk hki => ?_⟩, by omega, ?_⟩
       · rcases Nat.lt_or_eq_of_le (Nat.le_of_lt_succ hki) with h2 | rfl
         · exact hall k hk h2
         · exact ⟨hin, by omega⟩
       · conv => whnf
         exact GOES.kA h0 [3, 4]
 · repeat' ((first | refine AU ?_ | (refine IW (fun h => ?_) (fun h => ?_) <;> try (exfalso; omega))) <;> conv => whnf)
   refine FIN.valueK h0 rfl (congrArg SV.bool (hbi.2 fun k hk => hall k hk (by omega)).symm)
theorem Z87 (l m zl zm : List Qd) (lA lB : Option Nat) (hl : (l ++ zl).length ≤ 1152921504606846976) (hm : (m ++ zm).length ≤ 1152921504606846976) : Does Tryz.prog tab 50 2 [.sl (.loc 0) 0 16 l.length lA, .sl (.loc 1) 0 16 m.length lB] [] [(0, .rows 16 ((l ++ zl).map Zl)), (1, .rows 16 ((m ++ zm).map Zl))] (ValK 2 (.bool (decide (l = m)))) := by
 have hl1 : (l ++ zl).length = l.length + zl.length := List.length_append
 have hm1 : (m ++ zm).length = m.length + zm.length := List.length_append
 refine Does.enter Z3 (g := 50) (fn := Tryz.f50) Tryz.call50 Tryz.func50 rfl 26 rfl rfl [.tmp 4] rfl ?_
 intro w0 F η0 h0
 conv => whnf
 repeat' ((first | refine AU ?_ | (refine IW (fun h => ?_) (fun h => ?_) <;> try (exfalso; omega))) <;> conv => whnf)
 · exact FIN.valueK h0 rfl (congrArg SV.bool (decide_eq_false fun e => by subst e; omega).symm)
 have hlm : l.length = m.length := by omega
 refine LOOP.gok Z3 [0, 1] [] (X := Nat) (fun i => i ≤ l.length ∧ l.take i = m.take i) (fun i => [(5, .int .i64 (i : Int))]) (fun i => []) 2 (fun i => l.length - i) 0 ⟨by omega, rfl⟩ ?_
 conv => whnf
 refine ⟨by exact GOES.kA h0 [], ?_⟩
 rintro i ⟨hi, ht⟩
 conv => whnf
 by_cases hil : i < l.length
 · have hs := Z2h hil (hlm ▸ hil) ht
   repeat' ((first | refine DRAWN.of (id := 6) Z3 mixed ZbR (by kernel_rfl) ?_ | refine ADD.mk (fun _ _ => ?_) | refine AD ?_ | refine FORK.mk ?_ ?_ | (refine GET.at (Z37 hil (by omega)) ?_; conv => whnf) | (refine GET.at (Z37 (hlm ▸ hil) (by omega)) ?_; conv => whnf) | refine AU ?_ | (refine IW (fun h => ?_) (fun h => ?_) <;> try (exfalso; omega))) <;> conv => whnf)
   · exact FIN.valueK h0 rfl (congrArg SV.bool (decide_eq_false fun e => by subst e; simp at h).symm)
   refine ⟨i + 1, ⟨by omega, hs.1 (Zb6 h)⟩, by omega, ?_⟩
   conv => whnf
   exact GOES.kA h0 []
 · repeat' ((first | refine AU ?_ | (refine IW (fun h => ?_) (fun h => ?_) <;> try (exfalso; omega))) <;> conv => whnf)
   rw [show i = l.length by omega, List.take_length, hlm, List.take_length] at ht
   exact FIN.valueK h0 rfl (congrArg SV.bool (decide_eq_true ht).symm)
set_option maxHeartbeats 8000000 in
theorem Z2D (a za b zb : List Qd) (ps zp : List Pr) (limA limB limP : Option Nat) (ha : YC a) (hb : YC b) (qa : Z0x a) (qb : Z0x b) (hza : (a ++ za).length ≤ 1152921504606846976) (hzb : (b ++ zb).length ≤ 1152921504606846976) (hp : (ps ++ zp).length ≤ 1152921504606846976) : Does Tryz.prog tab 22 3 [.sl (.loc 0) 0 16 a.length limA, .sl (.loc 1) 0 16 b.length limB, .sl (.loc 2) 0 2 ps.length limP] [] [(0, .rows 16 ((a ++ za).map Zl)), (1, .rows 16 ((b ++ zb).map Zl)), (2, .rows 2 ((ps ++ zp).map YZ))] (ValK 3 (.int .i64 (YK a b ps))) := by
 have hv := Z2C a za b zb limA limB (by unfold YC at ha; omega) (by unfold YC at hb; omega) qa qb
 have hbi := Z9G a za b zb ps zp limA limB limP ha hb hza hzb hp
 have hR := Z5v a za limA ps zp limP ha hza hp
 have hsl := WG (c := ZJ) (a.map (Jp ps))
 have hE := Z87 (setL ZJ (a.map (Jp ps))) b [] zb none limB (by unfold YC at ha; simp at hsl ⊢; omega) hzb
 rw [List.append_nil] at hE
 refine Does.enter Z3 (g := 22) (fn := Tryz.f22) Tryz.call22 Tryz.func22 rfl 27 rfl rfl [.tmp 6] rfl ?_
 intro w0 F η0 h0
 conv => whnf
 repeat' ((first | refine AU ?_ | (refine IW (fun h => ?_) (fun h => ?_) <;> try (exfalso; omega))) <;> conv => whnf)
 refine CALL.aA [0, 1] (hv) ?_
 rintro r O nx ⟨rfl, rfl, rfl⟩
 conv => whnf
 repeat' ((first | refine AU ?_ | (refine IW (fun h => ?_) (fun h => ?_) <;> try (exfalso; omega))) <;> conv => whnf)
 · refine FIN.valueK h0 rfl (congrArg (SV.int _) ?_)
   unfold YK; rw [if_pos (by simpa using h)]
 have hv0 := h
 refine CALL.aA [0, 1, 2] (hbi) ?_
 rintro r O nx ⟨rfl, rfl, rfl⟩
 conv => whnf
 repeat' ((first | refine AU ?_ | (refine IW (fun h => ?_) (fun h => ?_) <;> try (exfalso; omega))) <;> conv => whnf)
 · refine FIN.valueK h0 rfl (congrArg (SV.int _) ?_)
   unfold YK; rw [if_neg (by simpa using hv0), if_neg (by simp [h])]
 have hbj := h
 refine CALL.aA [0, 2] (hR) ?_
 rintro r O nx ⟨rfl, rfl, rfl⟩
 conv => whnf
 repeat' ((first | refine AU ?_ | (refine IW (fun h => ?_) (fun h => ?_) <;> try (exfalso; omega))) <;> conv => whnf)
 refine CALL.aA [3, 1] (hE) ?_
 rintro r O nx ⟨rfl, rfl, rfl⟩
 conv => whnf
 repeat' ((first | refine AU ?_ | (refine IW (fun h => ?_) (fun h => ?_) <;> try (exfalso; omega))) <;> conv => whnf)
 · refine FIN.valueK h0 rfl (congrArg (SV.int _) ?_)
   unfold YK; rw [if_neg (by simpa using hv0), if_neg (by simp_all)]
 · refine FIN.valueK h0 rfl (congrArg (SV.int _) ?_)
   unfold YK; rw [if_neg (by simpa using hv0), if_pos (by simp_all)]
end Go.Proofs.YtbfbokdccdagkaaGreatDoor
