/- Part 22: LawGraphs. Conditions: as each part says. -/
import Derived.Test.YtjbbkimodgffiaaGreatDoorIGr18
import Derived.Test.YtjbbkimodgffiaaGreatDoorIGr20
import Derived.Test.YtjbbkimodgffiaaGreatDoorIGr21
set_option linter.unusedVariables false
set_option linter.unusedSimpArgs false
set_option maxRecDepth 20000
set_option maxHeartbeats 8000000
namespace Go.Proofs.YtjbbkimodgffiaaGreatDoor
open Go.Sx Go.Our
def Yb : Plan := (Zq [(3, 1), (4, 1), (5, 1), (0, 2), (1, 2), (2, 2), (6, 2), (7, 1), (8, 3), (9, 0)])
def Yc : Plan := (Zq [(0, 1), (1, 1), (2, 1), (3, 1), (4, 1), (6, 1), (7, 1), (8, 1), (5, 2), (9, 2), (10, 1), (11, 1), (12, 1)])
def Z93 : Tm := ⟨4, [], [], []⟩
def patG (g : Tm) : Qd := ⟨Z93, Z93, Z93, g⟩
theorem Zab {g : Tm} (hg : g.k ≠ 4) (q : Qd) : Z91 (patG g) q = decide (q.g = g) := by
 unfold Z91 fitT patG Z93
 simp [hg, eq_comm]
theorem Zac {l : List Qd} (hv : (Yt l).2 = 0) : ∀ q ∈ l, q.g.k ≠ 4 := by
 intro q hq h
 have := WD hv q hq
 have hz : ¬ q.g = Zd := fun e => by rw [e] at h; cases h
 have hk : ¬ (q.g.k = 1 ∨ q.g.k = 2) := by omega
 unfold Zk at this
 simp only [hz, hk, if_false, if_true, not_false_eq_true] at this
 (repeat' split at this) <;> first | contradiction | cases this
theorem Zcb (a b : Tm) : (a.k == b.k && (a.t == b.t && (a.y == b.y && (a.l == b.l && true)))) = decide (a = b) := by
 rw [Bool.eq_iff_iff, decide_eq_true_iff, Z92]
 simp
theorem Zcc {l : List Qd} {j k : Nat} (h : j < l.length) (e : k = j) : (l.map Za)[k]? = some (Za l[j]) := by subst e; rw [List.getElem?_map, List.getElem?_eq_getElem h]; rfl
set_option maxHeartbeats 16000000 in
theorem Z1x (l : List Qd) (hl : Z16 l) (hq : Za4 l) : Does Tryz.prog tab 7 1 [.sl (.loc 0) 0 16 l.length none] [] [(0, .rows 16 (l.map Za))] (ValK 1 (.bool true)) := by
 have hl0 := hl
 unfold Z16 at hl
 have t4 : topM 4096 = 4096 := by decide
 have hC := Vr l [] none 4096 (by omega) hq (by simp; omega)
 have hG := Z1i l [] none hl0 (by simp; omega)
 have hT := Z2b l [] none hl0 (by simp; omega)
 rw [List.append_nil] at hC hG hT
 rw [← Z6p] at hG
 refine Does.enter Z2 (g := 7) (fn := Tryz.f7) Tryz.call7 Tryz.func7 rfl 129 rfl rfl [.tmp 2] rfl ?_
 intro w0 F η0 h0
 conv => whnf
 repeat' ((first | refine CALL.value (Z4u) rfl rfl ?_ | refine AU ?_ | (refine IW (fun h => ?_) (fun h => ?_) <;> try (exfalso; omega))) <;> conv => whnf)
 refine CALL.aA [0] (hC) ?_
 rintro r O nx (⟨hv1, rfl, rfl, rfl⟩ | ⟨hv1, c1, hc1, (⟨rfl, rfl, rfl, rfl⟩ | ⟨m, j1, rfl, hj1, rfl, rfl, rfl⟩)⟩)
 · conv => whnf
   repeat' ((first | refine AU ?_ | (refine IW (fun h => ?_) (fun h => ?_) <;> try (exfalso; omega))) <;> conv => whnf)
   all_goals exact FIN.valueK h0 rfl (congrArg SV.bool (by simp))
 · conv => whnf
   repeat' ((first | refine AU ?_ | (refine IW (fun h => ?_) (fun h => ?_) <;> try (exfalso; omega))) <;> conv => whnf)
   all_goals exact FIN.valueK h0 rfl (congrArg SV.bool (by simp))
 rw [t4] at hc1
 have hml := hc1.2.2
 have hr := Z2a hv1
 have hGm := Z1i m (List.replicate j1 ZF) (some m.length) (by unfold Z16; omega) (by simp; omega)
 have hTm := Z2b m (List.replicate j1 ZF) (some m.length) (by unfold Z16; omega) (by simp; omega)
 rw [← Z6p, Z5r hc1] at hGm
 conv => whnf
 repeat' ((first | refine AU ?_ | (refine IW (fun h => ?_) (fun h => ?_) <;> try (exfalso; omega))) <;> conv => whnf)
 refine CALL.aA [0] (hG) ?_
 rintro r O nx ⟨j2, hj2, rfl, rfl, rfl⟩
 conv => whnf
 repeat' ((first | refine AU ?_ | (refine IW (fun h => ?_) (fun h => ?_) <;> try (exfalso; omega))) <;> conv => whnf)
 refine CALL.aA [1] (hGm) ?_
 rintro r O nx ⟨j3, hj3, rfl, rfl, rfl⟩
 conv => whnf
 repeat' ((first | refine AU ?_ | (refine IW (fun h => ?_) (fun h => ?_) <;> try (exfalso; omega))) <;> conv => whnf)
 all_goals try (exfalso; simp at h; done)
 have hgl : (XZ l).length = l.length := by simp [XZ]
 have hg4 : ∀ g ∈ setL ZM (XZ l), g.k ≠ 4 := fun g hg => by
   obtain ⟨q, hq, rfl⟩ := List.mem_map.1 ((Uk _ _).1 hg)
   exact Zac hv1 q hq
 generalize setL ZM (XZ l) = G at *
 refine LOOP.far Z2 [0, 3, 5, 6] [] (X := Nat) (fun i => i ≤ G.length) (fun i => [(7, .int .i64 (i : Int))]) (fun i => [(1, .rows 16 ((m ++ List.replicate j1 ZF).map Za)), (2, .rows 4 ((G ++ List.replicate j2 Zd).map Zy)), (4, .box (Zy Z93))]) 3 5 (fun i => G.length - i) 0 (by omega) ?_
 conv => whnf
 refine ⟨by exact GOES.kA h0 [1, 2, 3, 4], ?_⟩
 intro i hi fo
 by_cases hil : i < G.length
 · obtain ⟨g, hgd⟩ : ∃ g, g = G[i] := ⟨_, rfl⟩
   have hg : g.k ≠ 4 := hg4 g (hgd ▸ List.getElem_mem _)
   have hfit := Zab hg
   have gg : ((G ++ List.replicate j2 Zd).map Zy)[0 + (i : Int).toNat]? = some (Zy g) := by
     rw [show 0 + (i : Int).toNat = i by omega, List.getElem?_map, List.getElem?_append_left hil, List.getElem?_eq_getElem hil, ← hgd]; rfl
   rcases fo with _ | fo
   all_goals
     conv => whnf
     repeat' ((first | refine DRAWN.of (id := 13) Z2 mixed Yb (by kernel_rfl) ?_ | refine DRAWN.of (id := 39) Z2 mixed Yc (by kernel_rfl) ?_ | refine ADD.mk (fun _ _ => ?_) | refine AD ?_ | refine FORK.mk ?_ ?_ | (refine GET.at gg ?_; conv => whnf) | refine AU ?_ | (refine IW (fun h => ?_) (fun h => ?_) <;> try (exfalso; omega))) <;> conv => whnf)
     refine CALL.aA [0] (Z2c (patG g) l.length) ?_
     rintro r O nx ⟨rfl, rfl, rfl⟩
     conv => whnf
     repeat' ((first | refine DRAWN.of (id := 13) Z2 mixed Yb (by kernel_rfl) ?_ | refine DRAWN.of (id := 39) Z2 mixed Yc (by kernel_rfl) ?_ | refine ADD.mk (fun _ _ => ?_) | refine AD ?_ | refine FORK.mk ?_ ?_ | refine AU ?_ | (refine IW (fun h => ?_) (fun h => ?_) <;> try (exfalso; omega))) <;> conv => whnf)
     refine RANGEF.of Z2 (gf := 58) (g := 58) (fn := Tryz.f58) (cap := [.ptr (.loc 8) 0 0 0, .ptr (.loc 9) 0 0 0]) Tryz.call58 Tryz.func58 rfl 24 rfl _ rfl rfl rfl rfl rfl ?_
     conv => whnf
     intro η1 h1
     conv => whnf
     refine GHO.loop (GHO.nilCell 6 0 16 rfl rfl) ?_
     refine LOOP.gok Z2 [0, 2, 6, 7] [1, 2, 3, 4, 5, 7, 8, 9, 10, 11] (X := Nat) (fun j => j ≤ l.length) (fun j => [(8, .int .i64 (j : Int))]) (fun j => [(6, .box [.sl (.loc 12) 0 16 (ownL g (l.take j)).length none]), (12, .rows 16 ((ownL g (l.take j)).map Za))]) 13 (fun j => l.length - j) 0 (by omega) ?_
     conv => whnf
     refine ⟨by rw [List.take_zero, show ownL g [] = [] from rfl]; exact GOES.kA h1 [12], ?_⟩
     intro j hj
     have hoj := Z38 g (l.take j)
     rw [List.length_take] at hoj
     conv => whnf
     by_cases hjl : j < l.length
     · have hs := Z6o (g := g) hjl
       have hF := Z4w (patG g) l[j]
       rw [hfit] at hF
       repeat' ((first | refine CALL.value (hF) rfl rfl ?_ | (refine GET.at (row := Za l[j]) (Zcc hjl (by omega)) ?_; conv => whnf) | refine AU ?_ | (refine IW (fun h => ?_) (fun h => ?_) <;> try (exfalso; omega))) <;> conv => whnf)
       · rw [if_pos h] at hs
         refine YIELD.of Z2 rfl rfl rfl ?_
         intro η2 ro2 h2
         conv => whnf
         repeat' ((first | (refine NEED.mk (Xy 256 rfl rfl (by simp) (by simp) (by omega)) ?_; conv => whnf) | refine AU ?_ | (refine IW (fun h => ?_) (fun h => ?_) <;> try (exfalso; omega))) <;> conv => whnf)
         refine ⟨j + 1, by omega, by omega, ?_⟩
         rw [hs]
         conv => whnf
         exact GOES.kA h1 [16]
       · rw [if_neg h] at hs
         refine ⟨j + 1, by omega, by omega, ?_⟩
         rw [hs]
         conv => whnf
         exact GOES.kA h1 [12]
     have hje : j = l.length := by omega
     subst hje
     rw [List.take_length] at hoj ⊢
     repeat' ((first | refine DRAWN.of (id := 13) Z2 mixed Yb (by kernel_rfl) ?_ | refine DRAWN.of (id := 39) Z2 mixed Yc (by kernel_rfl) ?_ | refine ADD.mk (fun _ _ => ?_) | refine AD ?_ | refine FORK.mk ?_ ?_ | refine AU ?_ | (refine IW (fun h => ?_) (fun h => ?_) <;> try (exfalso; omega))) <;> conv => whnf)
     refine CALL.aA [1] (Z2c (patG g) m.length (some m.length)) ?_
     rintro r O nx ⟨rfl, rfl, rfl⟩
     conv => whnf
     repeat' ((first | refine DRAWN.of (id := 13) Z2 mixed Yb (by kernel_rfl) ?_ | refine DRAWN.of (id := 39) Z2 mixed Yc (by kernel_rfl) ?_ | refine ADD.mk (fun _ _ => ?_) | refine AD ?_ | refine FORK.mk ?_ ?_ | refine AU ?_ | (refine IW (fun h => ?_) (fun h => ?_) <;> try (exfalso; omega))) <;> conv => whnf)
     refine RANGEF.of Z2 (gf := 58) (g := 58) (fn := Tryz.f58) (cap := [.ptr (.loc 13) 0 0 0, .ptr (.loc 14) 0 0 0]) Tryz.call58 Tryz.func58 rfl 24 rfl _ rfl rfl rfl rfl rfl ?_
     conv => whnf
     intro η1 h1
     conv => whnf
     refine GHO.loop (GHO.nilCell 7 0 16 rfl rfl) ?_
     refine LOOP.gok Z2 [0, 2, 6, 7] [1, 2, 3, 4, 5, 6, 10, 12, 13, 14, 15, 16] (X := Nat) (fun j => j ≤ m.length) (fun j => [(8, .int .i64 (j : Int))]) (fun j => [(7, .box [.sl (.loc 17) 0 16 (ownL g (m.take j)).length none]), (17, .rows 16 ((ownL g (m.take j)).map Za))]) 18 (fun j => m.length - j) 0 (by omega) ?_
     conv => whnf
     refine ⟨by rw [List.take_zero, show ownL g [] = [] from rfl]; exact GOES.kA h1 [17], ?_⟩
     intro j hj
     have hoj := Z38 g (m.take j)
     rw [List.length_take] at hoj
     conv => whnf
     by_cases hjl : j < m.length
     · have hs := Z6o (g := g) hjl
       have hF := Z4w (patG g) m[j]
       rw [hfit] at hF
       repeat' ((first | refine CALL.value (hF) rfl rfl ?_ | (refine GET.at (row := Za m[j]) (Zbr hjl (by omega)) ?_; conv => whnf) | refine AU ?_ | (refine IW (fun h => ?_) (fun h => ?_) <;> try (exfalso; omega))) <;> conv => whnf)
       · rw [if_pos h] at hs
         refine YIELD.of Z2 rfl rfl rfl ?_
         intro η2 ro2 h2
         conv => whnf
         repeat' ((first | (refine NEED.mk (Xy 256 rfl rfl (by simp) (by simp) (by omega)) ?_; conv => whnf) | refine AU ?_ | (refine IW (fun h => ?_) (fun h => ?_) <;> try (exfalso; omega))) <;> conv => whnf)
         refine ⟨j + 1, by omega, by omega, ?_⟩
         rw [hs]
         conv => whnf
         exact GOES.kA h1 [21]
       · rw [if_neg h] at hs
         refine ⟨j + 1, by omega, by omega, ?_⟩
         rw [hs]
         conv => whnf
         exact GOES.kA h1 [17]
     have hje : j = m.length := by omega
     subst hje
     rw [List.take_length] at hoj ⊢
     repeat' ((first | refine DRAWN.of (id := 13) Z2 mixed Yb (by kernel_rfl) ?_ | refine DRAWN.of (id := 39) Z2 mixed Yc (by kernel_rfl) ?_ | refine ADD.mk (fun _ _ => ?_) | refine AD ?_ | refine FORK.mk ?_ ?_ | refine AU ?_ | (refine IW (fun h => ?_) (fun h => ?_) <;> try (exfalso; omega))) <;> conv => whnf)
     have hCo := Vr (ownL g l) [] none 4096 (by omega) (fun q hq' => hq q (mem_own.1 hq').1) (by simp; omega)
     rw [List.append_nil] at hCo
     refine CALL.aA [12] (hCo) ?_
     rintro r O nx (⟨hv2, _⟩ | ⟨-, c2, hc2, hcc⟩)
     · exact (hv2 (Z8Z g hv1)).elim
     rw [t4] at hc2
     obtain rfl := Z1g (Zc8 hc1 g) hc2
     rcases hcc with (⟨hcc, _⟩ | ⟨n, j4, hcc, hj4, rfl, rfl, rfl⟩)
     · cases hcc
     cases hcc
     have hS := Z17 (ownL g m ++ List.replicate j4 ZF) (ownL g m) 0 (ownL g m).length 0 (ownL g m).length (some (ownL g m).length) none (by simp) (by simp) (by simp; omega) (by omega)
     rw [decide_eq_true (by simp)] at hS
     conv => whnf
     repeat' ((first | refine DRAWN.of (id := 13) Z2 mixed Yb (by kernel_rfl) ?_ | refine DRAWN.of (id := 39) Z2 mixed Yc (by kernel_rfl) ?_ | refine ADD.mk (fun _ _ => ?_) | refine AD ?_ | refine FORK.mk ?_ ?_ | refine AU ?_ | (refine IW (fun h => ?_) (fun h => ?_) <;> try (exfalso; omega))) <;> conv => whnf)
     refine CALL.aA [18, 17] (hS) ?_
     rintro r O nx ⟨rfl, rfl, rfl⟩
     conv => whnf
     repeat' ((first | refine DRAWN.of (id := 13) Z2 mixed Yb (by kernel_rfl) ?_ | refine DRAWN.of (id := 39) Z2 mixed Yc (by kernel_rfl) ?_ | refine ADD.mk (fun _ _ => ?_) | refine AD ?_ | refine FORK.mk ?_ ?_ | refine AU ?_ | (refine IW (fun h => ?_) (fun h => ?_) <;> try (exfalso; omega))) <;> conv => whnf)
     refine ⟨i + 1, by omega, by omega, ?_⟩
     conv => whnf
   · intro f
     exact GOES.kA h0 [1, 2, 10, 4]
   · refine NEED.mk rfl ?_
     conv => whnf
     intro f
     exact GOES.kA h0 [1, 2, 3, 4]
 · have hie : i = G.length := by omega
   subst hie
   have hTK := fun t => Z5s hc1 (t := t)
   have hl1 := Z5f (c := ZM) (l.flatMap Yz)
   have hl2 := UT Yz Wc l
   unfold Z03 at hTK
   generalize setL ZM (l.flatMap Yz) = TL at *
   have hm1 := Nat.le_trans (Z5f (c := ZM) (m.flatMap Yz)) (UT Yz Wc m)
   generalize setL ZM (m.flatMap Yz) = TM at *
   rcases fo with _ | fo
   all_goals
     conv => whnf
     repeat' ((first | refine AU ?_ | (refine IW (fun h => ?_) (fun h => ?_) <;> try (exfalso; omega))) <;> conv => whnf)
     refine CALL.aA [0] (hT) ?_
     rintro r O nx ⟨j5, hj5, rfl, rfl, rfl⟩
     conv => whnf
     repeat' ((first | (rw [Ze _ (Zu _)]; conv => whnf) | (refine NEED.mk (Za8 256 rfl rfl (by simp) (by decide) (by simp) rfl (by omega)) ?_; conv => whnf) | refine AU ?_ | (refine IW (fun h => ?_) (fun h => ?_) <;> try (exfalso; omega))) <;> conv => whnf)
     refine CALL.aA [1] (hTm) ?_
     rintro r O nx ⟨j6, hj6, rfl, rfl, rfl⟩
     conv => whnf
     repeat' ((first | refine AU ?_ | (refine IW (fun h => ?_) (fun h => ?_) <;> try (exfalso; omega))) <;> conv => whnf)
     refine LOOP.gok Z2 [19, 20] [3] (X := Nat) (fun i => i ≤ TM.length) (fun i => [(21, .int .i64 (i : Int)), (19, .sl (.loc 7) 0 4 (TL ++ [iriT typB]).length none)]) (fun i => [(7, .rows 4 ((TL ++ [iriT typB]).map Zy)), (8, .rows 4 ((TM ++ List.replicate j6 Zd).map Zy))]) 9 (fun i => TM.length - i) 0 (by omega) ?_
     conv => whnf
     refine ⟨by exact GOES.kA h0 [1, 2, 3, 4, 5, 6, 7, 8], ?_⟩
     have hKl : (TL ++ [iriT typB]).length = TL.length + 1 := by simp
     generalize TL ++ [iriT typB] = K at *
     intro i hi
     conv => whnf
     by_cases hil : i < TM.length
     · obtain ⟨kk, hkk, hke⟩ := List.mem_iff_getElem.1 (hTK _ (List.getElem_mem hil))
       have gi : ((TM ++ List.replicate j6 Zd).map Zy)[0 + (i : Int).toNat]? = some (Zy TM[i]) := by
         rw [show 0 + (i : Int).toNat = i by omega, List.getElem?_map, List.getElem?_append_left hil, List.getElem?_eq_getElem hil]; rfl
       repeat' ((first | refine AU ?_ | (refine IW (fun h => ?_) (fun h => ?_) <;> try (exfalso; omega))) <;> conv => whnf)
       refine LOOP.gok Z2 [19, 20, 21] [3, 7, 8] (X := Nat × Bool) (fun x => x.1 ≤ K.length ∧ (kk < x.1 → x.2 = true)) (fun x => [(23, .int .i64 (x.1 : Int)), (22, .bool x.2)]) (fun x => []) 9 (fun x => K.length - x.1) (0, false) ⟨by simp, fun h => by simp at h⟩ ?_
       conv => whnf
       refine ⟨by exact GOES.kA h0 [1, 2, 3, 4, 5, 6, 7, 8], ?_⟩
       rintro ⟨k, b⟩ ⟨hk, hb⟩
       dsimp only at hk hb ⊢
       by_cases hkl : k < K.length
       · have gk : (K.map Zy)[0 + (k : Int).toNat]? = some (Zy K[k]) := by
           rw [show 0 + (k : Int).toNat = k by omega, List.getElem?_map, List.getElem?_eq_getElem hkl]; rfl
         obtain ⟨Z, hZ⟩ : ∃ Z, Z = K[k] := ⟨_, rfl⟩
         rw [← hZ] at gk
         conv => whnf
         repeat' ((first | refine DRAWN.of (id := 13) Z2 mixed Yb (by kernel_rfl) ?_ | refine DRAWN.of (id := 39) Z2 mixed Yc (by kernel_rfl) ?_ | refine ADD.mk (fun _ _ => ?_) | refine AD ?_ | refine FORK.mk ?_ ?_ | (refine GET.at gk ?_; conv => whnf) | (refine GET.at gi ?_; conv => whnf) | (refine GETG.at gk ?_; conv => whnf) | (refine GETG.at gi ?_; conv => whnf) | refine AU ?_ | (refine IW (fun h => ?_) (fun h => ?_) <;> try (exfalso; omega))) <;> conv => whnf)
         · refine ⟨(k + 1, true), ⟨by dsimp only; omega, fun _ => rfl⟩, by dsimp only; omega, ?_⟩
           dsimp only
           conv => whnf
           exact GOES.kA h0 [1, 2, 3, 4, 5, 6, 7, 8]
         · refine ⟨(k + 1, decide (Z = TM[i])), ⟨by dsimp only; omega, fun h1 => ?_⟩, by dsimp only; omega, ?_⟩
           · by_cases e : kk < k
             · rw [hb e] at h; cases h
             · obtain rfl : kk = k := by dsimp only at h1; omega
               exact decide_eq_true (hZ.trans hke)
           · rw [Zcb Z TM[i]]
             dsimp only
             conv => whnf
             exact GOES.kA h0 [1, 2, 3, 4, 5, 6, 7, 8]
       · have hke : k = K.length := by omega
         subst hke
         obtain rfl := hb hkk
         conv => whnf
         repeat' ((first | refine AU ?_ | (refine IW (fun h => ?_) (fun h => ?_) <;> try (exfalso; omega))) <;> conv => whnf)
         refine ⟨i + 1, by omega, by omega, ?_⟩
         conv => whnf
         exact GOES.kA h0 [1, 2, 3, 4, 5, 6, 7, 8]
     · repeat' ((first | refine AU ?_ | (refine IW (fun h => ?_) (fun h => ?_) <;> try (exfalso; omega))) <;> conv => whnf)
       exact FIN.valueK h0 rfl rfl
end Go.Proofs.YtjbbkimodgffiaaGreatDoor
