/- Part 37: LawNews. Conditions: as each part says. -/
import Derived.Test.YtjbbkimodgffiaaGreatDoorInf25
import Derived.Test.YtjbbkimodgffiaaGreatDoorInf34
import Derived.Test.YtjbbkimodgffiaaGreatDoorInf36
set_option linter.unusedVariables false
set_option linter.unusedSimpArgs false
set_option maxRecDepth 20000
set_option maxHeartbeats 8000000
namespace Go.Proofs.YtjbbkimodgffiaaGreatDoor
open Go.Sx Go.Our
def Yh : Plan := (Zj [(0, 2), (1, 2), (2, 1), (3, 1), (4, 1), (5, 2), (6, 2), (7, 2), (8, 1), (9, 2), (10, 1), (11, 1)])
theorem Zfj (s l : List Qd) : (newM s l).length ≤ s.length + l.length := JH true false false _ s l (Nat.le_refl _)
set_option maxHeartbeats 16000000 in
theorem Z7J (l : List Qd) (most stop inn : Int) (hl : l.length ≤ 65536) (hq : WY l) (hs : -9223372036854775808 ≤ stop ∧ stop ≤ 9223372036854775807) : Does Tryz.prog tab 8 1 [.sl (.loc 0) 0 16 l.length none, .int .i64 most, .int .i64 stop, .int .i64 inn] [] [(0, .rows 16 (l.map Z3))] (ValK 1 (.bool true)) := by
 have hK := Z7c l (by unfold XQ; omega)
 have hR := Z4w l (by unfold XQ; omega)
 have hN := ZdV l [ZW, ZW] none most hl hq (by simp; omega)
 have hW := Z0F l most hl hq
 have htop : topM most ≤ 1048576 := by unfold topM; split <;> omega
 refine Does.enter Z2 (g := 8) (fn := Tryz.f8) Tryz.call8 Tryz.func8 rfl 109 rfl rfl [.cell 8 4] rfl ?_
 intro w0 F η0 h0
 conv => whnf
 repeat' ((first | refine AU ?_ | (refine IW (fun h => ?_) (fun h => ?_) <;> try (exfalso; omega))) <;> conv => whnf)
 refine CALL.aA [0] (hR) ?_
 rintro r O nx ⟨rfl, rfl, rfl⟩
 conv => whnf
 repeat' ((first | refine DRAWN.of (id := 15) Z2 mixed Yh (by kernel_rfl) ?_ | refine ADD.mk (fun _ _ => ?_) | refine AD ?_ | refine FORK.mk ?_ ?_ | refine AU ?_ | (refine IW (fun h => ?_) (fun h => ?_) <;> try (exfalso; omega))) <;> conv => whnf)
 have hout := h0
 apply Z5a (X := List Qd) (n := 12) (fun w => w.length ≤ 2097152) (fun w => [(DS, .dfs [.ptr (.loc 11) 0 0 0]), (0, .sl (.loc 0) 0 16 l.length none), (6, .ptr (.loc 1) 0 0 0), (7, .ptr (.loc 2) 0 0 0), (8, .ptr (.loc 3) 0 0 0), (9, .sl (.loc 4) 0 16 l.length none), (10, .ptr (.loc 7) 0 0 0), (14, .ptr (.loc 9) 0 0 0), (16, .ptr (.loc 10) 0 0 0)]) (fun w => [(1, .box [.int .i64 stop]), (2, .box [.int .i64 inn]), (3, .box [.bool false]), (4, .rows 16 ((l ++ [ZW, ZW]).map Z3)), (5, .box [.sl (.loc 6) 0 16 w.length none]), (6, .rows 16 (w.map Z3)), (7, .box [.fn (.func 88) [] [.ptr (.loc 5) 0 0 0]]), (8, .rows 16 (w.map Z3)), (9, .box [.sl (.loc 8) 0 16 w.length none]), (10, .box [.int .i64 1]), (11, .dfr)])
 · intro hk
   apply Z5a (X := List Qd) (n := 11) (fun w => w.length ≤ 2097152) (fun w => [(0, .sl (.loc 0) 0 16 l.length none), (6, .ptr (.loc 1) 0 0 0), (7, .ptr (.loc 2) 0 0 0), (8, .ptr (.loc 3) 0 0 0), (9, .sl (.loc 4) 0 16 l.length none), (10, .ptr (.loc 7) 0 0 0), (14, .ptr (.loc 9) 0 0 0), (16, .ptr (.loc 10) 0 0 0)]) (fun w => [(1, .box [.int .i64 stop]), (2, .box [.int .i64 inn]), (3, .box [.bool false]), (4, .rows 16 ((l ++ [ZW, ZW]).map Z3)), (5, .box [.sl (.loc 6) 0 16 w.length none]), (6, .rows 16 (w.map Z3)), (7, .box [.fn (.func 88) [] [.ptr (.loc 5) 0 0 0]]), (8, .rows 16 (w.map Z3)), (9, .box [.sl (.loc 8) 0 16 w.length none]), (10, .box [.int .i64 0])])
   · intro hk0
     refine CALL.aA [4] (hN) ?_
     rintro r O nx (⟨hv, rfl, rfl, rfl⟩ | ⟨hv, c, hc, (⟨rfl, rfl, rfl, rfl⟩ | ⟨s, rfl, rfl, rfl, rfl⟩)⟩)
     · conv => whnf
       repeat' ((first | refine DRAWN.of (id := 15) Z2 mixed Yh (by kernel_rfl) ?_ | refine ADD.mk (fun _ _ => ?_) | refine AD ?_ | refine FORK.mk ?_ ?_ | refine AU ?_ | (refine IW (fun h => ?_) (fun h => ?_) <;> try (exfalso; omega))) <;> conv => whnf)
       refine CALL.aA [0] (hW) ?_
       rintro r O nx (⟨-, rfl, rfl, rfl⟩ | ⟨hv2, _⟩)
       rotate_left
       · exact (hv hv2).elim
       conv => whnf
       repeat' ((first | refine DRAWN.of (id := 15) Z2 mixed Yh (by kernel_rfl) ?_ | refine ADD.mk (fun _ _ => ?_) | refine AD ?_ | refine FORK.mk ?_ ?_ | refine AU ?_ | (refine IW (fun h => ?_) (fun h => ?_) <;> try (exfalso; omega))) <;> conv => whnf)
       all_goals first
         | exact FIN.valueK h0 rfl rfl
         | (exfalso; simp_all; done)
         | trace_state
     · conv => whnf
       repeat' ((first | refine DRAWN.of (id := 15) Z2 mixed Yh (by kernel_rfl) ?_ | refine ADD.mk (fun _ _ => ?_) | refine AD ?_ | refine FORK.mk ?_ ?_ | refine AU ?_ | (refine IW (fun h => ?_) (fun h => ?_) <;> try (exfalso; omega))) <;> conv => whnf)
       refine CALL.aA [0] (hW) ?_
       rintro r O nx (⟨hv2, _⟩ | ⟨-, c3, hc3, (⟨rfl, rfl, rfl, rfl⟩ | ⟨rfl, _⟩ | ⟨s3, rfl, _⟩)⟩)
       · exact (hv2 hv).elim
       rotate_left
       · cases ZN hc hc3
       · cases ZN hc hc3
       conv => whnf
       repeat' ((first | refine DRAWN.of (id := 15) Z2 mixed Yh (by kernel_rfl) ?_ | refine ADD.mk (fun _ _ => ?_) | refine AD ?_ | refine FORK.mk ?_ ?_ | refine AU ?_ | (refine IW (fun h => ?_) (fun h => ?_) <;> try (exfalso; omega))) <;> conv => whnf)
       all_goals first
         | exact FIN.valueK h0 rfl rfl
         | (exfalso; simp_all; done)
         | trace_state
     · have hsl : s.length ≤ 1048576 := by have := hc.2.2; omega
       have hwl := Zfj s l
       replace hwl : (newM s l).length ≤ 2097152 := by omega
       have hrs := Yw (Nat.le_refl 1) hc.1
       have hrl := Yw (Nat.le_refl 1) (Wn hv).1
       conv => whnf
       repeat' ((first | refine DRAWN.of (id := 15) Z2 mixed Yh (by kernel_rfl) ?_ | refine ADD.mk (fun _ _ => ?_) | refine AD ?_ | refine FORK.mk ?_ ?_ | refine AU ?_ | (refine IW (fun h => ?_) (fun h => ?_) <;> try (exfalso; omega))) <;> conv => whnf)
       refine CALL.aA [0] (hW) ?_
       rintro r O nx (⟨hv2, _⟩ | ⟨-, c3, hc3, (⟨rfl, _⟩ | ⟨rfl, rfl, rfl, rfl⟩ | ⟨s3, rfl, rfl, rfl, rfl⟩)⟩)
       · exact (hv2 hv).elim
       · cases ZN hc hc3
       · obtain rfl : l = s := by injection (ZN hc hc3).symm
         have hM := Z3C l [] l [] none none (by simp; omega)
         rw [UW ⟨hrl, hrl⟩, List.append_nil] at hM
         conv => whnf
         repeat' ((first | refine DRAWN.of (id := 15) Z2 mixed Yh (by kernel_rfl) ?_ | refine ADD.mk (fun _ _ => ?_) | refine AD ?_ | refine FORK.mk ?_ ?_ | refine AU ?_ | (refine IW (fun h => ?_) (fun h => ?_) <;> try (exfalso; omega))) <;> conv => whnf)
         refine CALL.aA [0, 0] (hM) ?_
         rintro r O nx ⟨rfl, rfl, rfl⟩
         conv => whnf
         repeat' ((first | refine DRAWN.of (id := 15) Z2 mixed Yh (by kernel_rfl) ?_ | refine ADD.mk (fun _ _ => ?_) | refine AD ?_ | refine FORK.mk ?_ ?_ | refine AU ?_ | (refine IW (fun h => ?_) (fun h => ?_) <;> try (exfalso; omega))) <;> conv => whnf)
         refine LOOP.goes ?_ (hk0 (newM l l) hwl)
         exact GOES.kA h0 [1, 2, 3, 4, 5, 6, 7, 8, 9, 10]
       · obtain rfl : s3 = s := by injection (ZN hc hc3).symm
         have hM := Z3C s3 [] l [] none none (by simp; omega)
         rw [UW ⟨hrs, hrl⟩, List.append_nil, List.append_nil] at hM
         conv => whnf
         repeat' ((first | refine DRAWN.of (id := 15) Z2 mixed Yh (by kernel_rfl) ?_ | refine ADD.mk (fun _ _ => ?_) | refine AD ?_ | refine FORK.mk ?_ ?_ | refine AU ?_ | (refine IW (fun h => ?_) (fun h => ?_) <;> try (exfalso; omega))) <;> conv => whnf)
         refine CALL.aA [8, 0] (hM) ?_
         rintro r O nx ⟨rfl, rfl, rfl⟩
         conv => whnf
         repeat' ((first | refine DRAWN.of (id := 15) Z2 mixed Yh (by kernel_rfl) ?_ | refine ADD.mk (fun _ _ => ?_) | refine AD ?_ | refine FORK.mk ?_ ?_ | refine AU ?_ | (refine IW (fun h => ?_) (fun h => ?_) <;> try (exfalso; omega))) <;> conv => whnf)
         refine LOOP.goes ?_ (hk0 (newM s3 l) hwl)
         exact GOES.kA h0 [1, 2, 3, 4, 5, 6, 7, 9, 10, 11]
   · intro w hw
     refine LOOP.once Z2 ?_
     conv => whnf
     repeat' ((first | refine AU ?_ | (refine IW (fun h => ?_) (fun h => ?_) <;> try (exfalso; omega))) <;> conv => whnf)
     refine RANGEF.of Z2 (gf := 88) (g := 88) (fn := Tryz.f88) (cap := [.ptr (.loc 5) 0 0 0]) Tryz.call88 Tryz.func88 rfl 16 rfl _ rfl rfl rfl rfl rfl ?_
     conv => whnf
     intro η1 h0
     conv => whnf
     refine LOOP.gok Z2 [0, 5, 6] [1, 2, 3, 4, 5, 6, 7, 8, 9, 10, 12, 13] (X := Nat) (fun i => i ≤ w.length) (fun i => [(7, .int .i64 (i : Int))]) (fun i => [(11, .box [.int .i64 (i : Int)])]) 14 (fun i => w.length - i) 0 (by omega) ?_
     conv => whnf
     refine ⟨by exact GOES.cA h0, ?_⟩
     intro i hi
     conv => whnf
     by_cases hil : i < w.length
     · repeat' ((first | (refine GET.at (row := Z3 (w[i]'(by omega))) (Y3 (by omega) (by omega)) ?_; conv => whnf) | refine AU ?_ | (refine IW (fun h => ?_) (fun h => ?_) <;> try (exfalso; omega))) <;> conv => whnf)
       have hin := h0
       refine YIELD.of Z2 rfl rfl rfl ?_
       intro η2 ro2 h0
       conv => whnf
       repeat' ((first | refine DRAWN.of (id := 15) Z2 mixed Yh (by kernel_rfl) ?_ | refine ADD.mk (fun _ _ => ?_) | refine AD ?_ | refine FORK.mk ?_ ?_ | (refine GET.at (row := Z3 (w[i]'(by omega))) (Y3 (by omega) (by omega)) ?_; conv => whnf) | (refine GETG.at (row := Z3 (w[i]'(by omega))) (Y3 (by omega) (by omega)) ?_; conv => whnf) | refine AU ?_ | (refine IW (fun h => ?_) (fun h => ?_) <;> try (exfalso; omega))) <;> conv => whnf)
       all_goals first
         | (exfalso; simp_all; done)
         | (exfalso; omega)
         | skip
       · skip
         refine RANGEF.within Z2 (gf := 88) (g := 88) (fn := Tryz.f88) (cap := [.ptr (.loc 5) 0 0 0]) Tryz.call88 Tryz.func88 rfl 16 rfl _ rfl rfl rfl rfl rfl rfl ?_
         conv => whnf
         intro η3 h0
         conv => whnf
         refine LOOP.gok Z2 [0, 5, 6] [1, 2, 3, 4, 5, 6, 7, 8, 9, 10, 11, 12, 13, 14, 15, 17] (X := Nat) (fun j => j ≤ w.length) (fun j => [(7, .int .i64 (j : Int))]) (fun j => [(16, .box [.int .i64 (j : Int)])]) 18 (fun j => w.length - j) 0 (by omega) ?_
         conv => whnf
         refine ⟨by exact GOES.cA h0, ?_⟩
         intro j hj
         conv => whnf
         by_cases hjl : j < w.length
         · repeat' ((first | (refine GET.at (row := Z3 (w[j]'(by omega))) (Y3 (by omega) (by omega)) ?_; conv => whnf) | refine AU ?_ | (refine IW (fun h => ?_) (fun h => ?_) <;> try (exfalso; omega))) <;> conv => whnf)
           refine YIELD.of Z2 rfl rfl rfl ?_
           intro η4 ro4 h4
           conv => whnf
           repeat' ((first | refine AU ?_ | (refine IW (fun h => ?_) (fun h => ?_) <;> try (exfalso; omega))) <;> conv => whnf)
           all_goals first
             | (refine ⟨j + 1, by omega, by omega, ?_⟩; (conv => whnf); exact GOES.cA h0; done)
             | trace_state
         · have hje : j = w.length := by omega
           subst hje
           repeat' ((first | refine AU ?_ | (refine IW (fun h => ?_) (fun h => ?_) <;> try (exfalso; omega))) <;> conv => whnf)
           all_goals try (exfalso; simp_all; done)
           all_goals try (exfalso; omega)
           all_goals first
             | ((with_reducible refine Exists.intro (i + 1) ?_); (refine ⟨by omega, by omega, ?_⟩; (conv => whnf); exact GOES.cA hin))
             | ((with_reducible refine LOOP.goes ?_ (hk w hw)); exact GOES.kA hout [1, 2, 3, 4, 5, 6, 7, 8, 9, 18, 12])
       all_goals first
         | ((with_reducible refine Exists.intro (i + 1) ?_); (refine ⟨by omega, by omega, ?_⟩; (conv => whnf); exact GOES.cA hin))
         | ((with_reducible refine LOOP.goes ?_ (hk w hw)); exact GOES.kA hout [1, 2, 3, 4, 5, 6, 7, 8, 9, 16, 12])
     · have hie : i = w.length := by omega
       subst hie
       repeat' ((first | refine AU ?_ | (refine IW (fun h => ?_) (fun h => ?_) <;> try (exfalso; omega))) <;> conv => whnf)
       all_goals first
         | (exfalso; simp_all; done)
         | (exfalso; omega)
         | ((with_reducible refine LOOP.goes ?_ (hk w hw)); exact GOES.kA hout [1, 2, 3, 4, 5, 6, 7, 8, 9, 14, 12])
 · intro w hw
   refine LOOP.once Z2 ?_
   conv => whnf
   repeat' ((first | refine AU ?_ | (refine IW (fun h => ?_) (fun h => ?_) <;> try (exfalso; omega))) <;> conv => whnf)
   refine RANGEF.of Z2 (gf := 88) (g := 88) (fn := Tryz.f88) (cap := [.ptr (.loc 5) 0 0 0]) Tryz.call88 Tryz.func88 rfl 16 rfl _ rfl rfl rfl rfl rfl ?_
   conv => whnf
   intro η1 h0
   conv => whnf
   refine LOOP.gok Z2 [0, 5, 6] [1, 2, 3, 4, 5, 6, 7, 8, 9, 10, 11, 13, 14] (X := Nat) (fun i => i ≤ w.length) (fun i => [(7, .int .i64 (i : Int))]) (fun i => [(12, .box [.int .i64 (i : Int)])]) 15 (fun i => w.length - i) 0 (by omega) ?_
   conv => whnf
   refine ⟨by exact GOES.cA h0, ?_⟩
   intro i hi
   conv => whnf
   by_cases hil : i < w.length
   · repeat' ((first | (refine GET.at (row := Z3 (w[i]'(by omega))) (Y3 (by omega) (by omega)) ?_; conv => whnf) | refine AU ?_ | (refine IW (fun h => ?_) (fun h => ?_) <;> try (exfalso; omega))) <;> conv => whnf)
     have hin := h0
     refine YIELD.of Z2 rfl rfl rfl ?_
     intro η2 ro2 h0
     conv => whnf
     repeat' ((first | refine DRAWN.of (id := 15) Z2 mixed Yh (by kernel_rfl) ?_ | refine ADD.mk (fun _ _ => ?_) | refine AD ?_ | refine FORK.mk ?_ ?_ | (refine GET.at (row := Z3 (w[i]'(by omega))) (Y3 (by omega) (by omega)) ?_; conv => whnf) | (refine GETG.at (row := Z3 (w[i]'(by omega))) (Y3 (by omega) (by omega)) ?_; conv => whnf) | refine AU ?_ | (refine IW (fun h => ?_) (fun h => ?_) <;> try (exfalso; omega))) <;> conv => whnf)
     all_goals first
       | (exfalso; simp_all; done)
       | (exfalso; omega)
       | skip
     · skip
       refine RANGEF.within Z2 (gf := 88) (g := 88) (fn := Tryz.f88) (cap := [.ptr (.loc 5) 0 0 0]) Tryz.call88 Tryz.func88 rfl 16 rfl _ rfl rfl rfl rfl rfl rfl ?_
       conv => whnf
       intro η3 h0
       conv => whnf
       refine LOOP.gok Z2 [0, 5, 6] [1, 2, 3, 4, 5, 6, 7, 8, 9, 10, 11, 12, 13, 14, 15, 16, 18] (X := Nat) (fun j => j ≤ w.length) (fun j => [(7, .int .i64 (j : Int))]) (fun j => [(17, .box [.int .i64 (j : Int)])]) 19 (fun j => w.length - j) 0 (by omega) ?_
       conv => whnf
       refine ⟨by exact GOES.cA h0, ?_⟩
       intro j hj
       conv => whnf
       by_cases hjl : j < w.length
       · repeat' ((first | (refine GET.at (row := Z3 (w[j]'(by omega))) (Y3 (by omega) (by omega)) ?_; conv => whnf) | refine AU ?_ | (refine IW (fun h => ?_) (fun h => ?_) <;> try (exfalso; omega))) <;> conv => whnf)
         refine YIELD.of Z2 rfl rfl rfl ?_
         intro η4 ro4 h4
         conv => whnf
         repeat' ((first | refine AU ?_ | (refine IW (fun h => ?_) (fun h => ?_) <;> try (exfalso; omega))) <;> conv => whnf)
         all_goals first
           | (refine ⟨j + 1, by omega, by omega, ?_⟩; (conv => whnf); exact GOES.cA h0; done)
           | trace_state
       · have hje : j = w.length := by omega
         subst hje
         repeat' ((first | refine AU ?_ | (refine IW (fun h => ?_) (fun h => ?_) <;> try (exfalso; omega))) <;> conv => whnf)
         all_goals try (exfalso; simp_all; done)
         all_goals try (exfalso; omega)
         all_goals first
           | ((with_reducible refine Exists.intro (i + 1) ?_); (refine ⟨by omega, by omega, ?_⟩; (conv => whnf); exact GOES.cA hin))
           | trace_state
     all_goals first
       | ((with_reducible refine Exists.intro (i + 1) ?_); (refine ⟨by omega, by omega, ?_⟩; (conv => whnf); exact GOES.cA hin))
       | trace_state
   · have hie : i = w.length := by omega
     subst hie
     repeat' ((first | refine AU ?_ | (refine IW (fun h => ?_) (fun h => ?_) <;> try (exfalso; omega))) <;> conv => whnf)
     all_goals first
       | (exfalso; simp_all; done)
       | (exfalso; omega)
       | (refine LOOP.once Z2 ?_; (conv => whnf); repeat' ((first | refine AU ?_ | (refine IW (fun h => ?_) (fun h => ?_) <;> try (exfalso; omega))) <;> conv => whnf); refine CALL.aA [0, 4] (hK) ?_; rintro r O nx ⟨rfl, rfl, rfl⟩; (conv => whnf); exact FIN.valueK hout rfl rfl)
end Go.Proofs.YtjbbkimodgffiaaGreatDoor
