/- Part 16: World1. Conditions: as each part says. -/
import Derived.Test.YtjbbkimodgffiaaGreatDoorInf9
set_option linter.unusedVariables false
set_option linter.unusedSimpArgs false
set_option maxRecDepth 20000
set_option maxHeartbeats 8000000
namespace Go.Proofs.YtjbbkimodgffiaaGreatDoor
open Go.Sx Go.Our
def VV : Plan := (Zj [(0, 1), (1, 1), (2, 1), (3, 2), (4, 2), (5, 3), (6, 1), (7, 1), (8, 1), (9, 1), (10, 1)])
def VW : Plan := (Zj [(0, 1), (1, 1), (2, 1), (5, 1), (6, 1), (7, 1), (3, 2), (4, 2), (8, 2), (9, 1), (10, 0)])
def YL : Plan := (Zj [(0, 1), (1, 1), (2, 1), (3, 1), (4, 2), (5, 2), (6, 3), (7, 0), (8, 1), (9, 1), (10, 0)])
def VX : Plan := (Zj [(0, 1), (1, 1), (2, 1), (3, 2), (4, 2), (5, 2), (6, 3), (7, 0), (8, 1), (10, 1), (9, 0), (11, 0)])
abbrev ZfX (a b : Nat) (w : Wd) : Hp := .box [.sl (.loc a) 0 16 w.all.length none, .sl (.loc b) 0 49 w.why.length none, .mp (.loc 3), .mp (.loc 4)]
abbrev wdO (a b : Nat) (w : Wd) : Hps := [(0, ZfX a b w), (a, .rows 16 (w.all.map Z3)), (b, .rows 49 (w.why.map Z13)), (3, .mp (Xc w.place)), (4, .deep true 2 (atR w.at'))]
theorem Z9C (w : Wd) (s : St) (hok : WdOK w) (hl : w.all.length ≤ 4194304) : Does Tryz.prog tab 38 5 [.ptr (.loc 0) 0 0 0, .agg (Z13 s)] (wdO 1 2 w) []
   (fun r O nx => r = .tup [] ∧ O = wdO 5 6 (putM w s) ∧ nx = 7) := by
 have hw := hok.len
 have hat : ∀ i, i < 3 → (atL (Jl i s.q) (atN s.q w.at' i)).length ≤ 16777216 := fun i hi => by
   have := Z8r s.q w.at' _ hok.at3 i (Jl i s.q); omega
 refine Does.enter Z2 (g := 38) (fn := Tryz.f38) Tryz.call38 Tryz.func38 rfl 86 rfl rfl [] rfl ?_
 intro w0 F η0 h0
 conv => whnf
 repeat' ((first | refine DRAWN.of (id := 2) Z2 mixed VV (by kernel_rfl) ?_ | refine DRAWN.of (id := 4) Z2 mixed VW (by kernel_rfl) ?_ | refine DRAWN.of (id := 5) Z2 mixed YL (by kernel_rfl) ?_ | refine DRAWN.of (id := 6) Z2 mixed YL (by kernel_rfl) ?_ | refine DRAWN.of (id := 10) Z2 mixed VX (by kernel_rfl) ?_ | refine ADD.mk (fun _ _ => ?_) | refine AD ?_ | refine FORK.mk ?_ ?_ | (refine NEED.mk ⟨KQ.ok _, Z0r KQ _ _⟩ ?_; conv => whnf) | refine AU ?_ | (refine IW (fun h => ?_) (fun h => ?_) <;> try (exfalso; omega))) <;> conv => whnf)
 refine FIND.mk (fun i v hf => ?_) (fun hf => ?_)
 · obtain ⟨⟨j, x⟩, hj, he⟩ := Option.map_eq_some_iff.1 ((Z11 KQ intV s.q w.place 0).symm.trans hf)
   cases he
   clear hf
   have hm : putM w s = w := Z3m (by rw [Uh hj]; rfl)
   rw [hm]
   conv => whnf
   repeat' ((first | refine DRAWN.of (id := 2) Z2 mixed VV (by kernel_rfl) ?_ | refine DRAWN.of (id := 4) Z2 mixed VW (by kernel_rfl) ?_ | refine DRAWN.of (id := 5) Z2 mixed YL (by kernel_rfl) ?_ | refine DRAWN.of (id := 6) Z2 mixed YL (by kernel_rfl) ?_ | refine DRAWN.of (id := 10) Z2 mixed VX (by kernel_rfl) ?_ | refine ADD.mk (fun _ _ => ?_) | refine AD ?_ | refine FORK.mk ?_ ?_ | refine AU ?_ | (refine IW (fun h => ?_) (fun h => ?_) <;> try (exfalso; omega))) <;> conv => whnf)
   refine FIN.aA h0 [1, 2] (.tup []) (wdO 5 6 w) ?_
   exact ⟨rfl, rfl, rfl⟩
 · have hj := Option.map_eq_none_iff.1 ((Z11 KQ intV s.q w.place 0).symm.trans hf)
   clear hf
   have hm := Z71 (Wj hj)
   rw [hm]
   have e3 : Hp.mp (setM KQ.ks (KQ.enc s.q) (intV (w.all.length : Int)) (Xc w.place)) = Hp.mp (Xc (setA s.q (w.all.length : Int) w.place)) := congrArg Hp.mp (Zc4 KQ intV s.q _ w.place)
   conv => whnf
   repeat' ((first | refine DRAWN.of (id := 2) Z2 mixed VV (by kernel_rfl) ?_ | refine DRAWN.of (id := 4) Z2 mixed VW (by kernel_rfl) ?_ | refine DRAWN.of (id := 5) Z2 mixed YL (by kernel_rfl) ?_ | refine DRAWN.of (id := 6) Z2 mixed YL (by kernel_rfl) ?_ | refine DRAWN.of (id := 10) Z2 mixed VX (by kernel_rfl) ?_ | refine ADD.mk (fun _ _ => ?_) | refine AD ?_ | refine FORK.mk ?_ ?_ | (refine NEED.mk ⟨KQ.ok _, Z0r KQ _ _⟩ ?_; conv => whnf) | (refine NEED.mk (YP 1024 rfl rfl (by simp) (by simp) (by omega)) ?_; conv => whnf) | refine AU ?_ | (refine IW (fun h => ?_) (fun h => ?_) <;> try (exfalso; omega))) <;> conv => whnf)
   refine LOOP.gok Z2 [0, 4, 70] [0, 6] (X := Nat) (fun i => i ≤ 3) (fun i => [(71, .int .i64 (i : Int))]) (fun i => [(8, .rows 16 ((w.all ++ [s.q]).map Z3)), (10, .rows 49 ((w.why ++ [s]).map Z13)), (3, .mp (Xc (setA s.q (w.all.length : Int) w.place))), (4, .deep true 2 (atR (atN s.q w.at' i)))]) 11 (fun i => 3 - i) 0 (by omega) ?_
   conv => whnf
   refine ⟨by (refine GOES.cutting h0 rfl rfl rfl (by (repeat' (first | (refine Y2 rfl ?_ ?_) | exact ZU (Z5 _) | exact ZG (Z5 _) | exact ZU (Yf _) | exact ZG (Yf _) | exact V5 (YM _) | exact V4 (UO _) | rfl))) ?_ ?_ <;> (repeat' (first | exact e3 | (with_reducible rfl) | exact trivial | (exact Zp rfl (by first | omega | (simp (disch := omega) only [lnB, Z9, Zb] <;> omega) | (simp; done) | (simp <;> omega))) | (exact congrArg (SV.int _) (by first | omega | (simp (disch := omega) only [lnB, Z9, Zb] <;> omega) | (simp; done) | (simp <;> omega))) | (exact JT (by first | omega | (simp (disch := omega) only [lnB, Z9, Zb] <;> omega) | (simp; done) | (simp <;> omega))) | (exact UF (by first | omega | (simp (disch := omega) only [lnB, Z9, Zb] <;> omega) | (simp; done) | (simp <;> omega))) | (exact Zq _ (h := .rows _ _) (Z5 _)) | (exact Zq _ (h := .rows _ _) (Yf _)) | (exact congrArg (Hp.rows _) (by (simp [List.take_of_length_le, Z3, Qd.row, Z13, St.row]))) | ((conv => whnf); refine ⟨?_, ?_⟩) | rfl))), ?_⟩
   intro i hi
   conv => whnf
   by_cases hil : i < 3
   · repeat' ((first | refine DRAWN.of (id := 2) Z2 mixed VV (by kernel_rfl) ?_ | refine DRAWN.of (id := 4) Z2 mixed VW (by kernel_rfl) ?_ | refine DRAWN.of (id := 5) Z2 mixed YL (by kernel_rfl) ?_ | refine DRAWN.of (id := 6) Z2 mixed YL (by kernel_rfl) ?_ | refine DRAWN.of (id := 10) Z2 mixed VX (by kernel_rfl) ?_ | refine ADD.mk (fun _ _ => ?_) | refine AD ?_ | refine FORK.mk ?_ ?_ | (refine GET.at (row := (Jl i s.q).row) (by rcases (show i = 0 ∨ i = 1 ∨ i = 2 by omega) with rfl | rfl | rfl <;> rfl) ?_; conv => whnf) | (refine NEED.mk ⟨KQ.ok (Jl i s.q), Z3k KQ _ _ _⟩ ?_; conv => whnf) | refine AU ?_ | (refine IW (fun h => ?_) (fun h => ?_) <;> try (exfalso; omega))) <;> conv => whnf)
     refine FINDD.mk (fun a d hf => ?_) (fun hf => ?_)
     · obtain ⟨⟨j, l⟩, hj2, he⟩ := Option.map_eq_some_iff.1 ((Z3j KQ 16 qdsV (Jl i s.q) (atN s.q w.at' i) 0).symm.trans hf)
       cases he
       clear hf
       have hll : l.length ≤ 16777216 := by have := hat i hil; unfold atL at this; rwa [Uh hj2] at this
       conv => whnf
       repeat' ((first | refine DRAWN.of (id := 2) Z2 mixed VV (by kernel_rfl) ?_ | refine DRAWN.of (id := 4) Z2 mixed VW (by kernel_rfl) ?_ | refine DRAWN.of (id := 5) Z2 mixed YL (by kernel_rfl) ?_ | refine DRAWN.of (id := 6) Z2 mixed YL (by kernel_rfl) ?_ | refine DRAWN.of (id := 10) Z2 mixed VX (by kernel_rfl) ?_ | refine ADD.mk (fun _ _ => ?_) | refine AD ?_ | refine FORK.mk ?_ ?_ | (refine NEED.mk (YP 256 rfl rfl (by simp) (by simp) (by simp; omega)) ?_; conv => whnf) | (refine NEED.mk ⟨by omega, by simp [XT]; exact (List.getElem?_eq_some_iff.1 (Z5q hj2)).1⟩ ?_; conv => whnf) | refine AU ?_ | (refine IW (fun h => ?_) (fun h => ?_) <;> try (exfalso; omega))) <;> conv => whnf)
       refine ⟨i + 1, by omega, by omega, ?_⟩
       conv => whnf
       (refine GOES.cutting h0 rfl rfl rfl (by (repeat' (first | (refine Y2 rfl ?_ ?_) | exact ZU (Z5 _) | exact ZG (Z5 _) | exact ZU (Yf _) | exact ZG (Yf _) | exact V5 (YM _) | exact V4 (UO _) | rfl))) ?_ ?_ <;> (repeat' (first | exact congrArg (Hp.deep true 2) (Zdy hj2 (Nat.zero_add _) (by omega) (by simp [List.take_of_length_le, Z3, Qd.row])) | (with_reducible rfl) | exact trivial | (exact Zp rfl (by first | omega | (simp (disch := omega) only [lnB, Z9, Zb] <;> omega) | (simp; done) | (simp <;> omega))) | (exact congrArg (SV.int _) (by first | omega | (simp (disch := omega) only [lnB, Z9, Zb] <;> omega) | (simp; done) | (simp <;> omega))) | (exact JT (by first | omega | (simp (disch := omega) only [lnB, Z9, Zb] <;> omega) | (simp; done) | (simp <;> omega))) | (exact UF (by first | omega | (simp (disch := omega) only [lnB, Z9, Zb] <;> omega) | (simp; done) | (simp <;> omega))) | (exact Zq _ (h := .rows _ _) (Z5 _)) | (exact Zq _ (h := .rows _ _) (Yf _)) | (exact congrArg (Hp.rows _) (by rfl)) | ((conv => whnf); refine ⟨?_, ?_⟩) | rfl)))
     · have hj2 := Option.map_eq_none_iff.1 ((Z3j KQ 16 qdsV (Jl i s.q) (atN s.q w.at' i) 0).symm.trans hf)
       clear hf
       conv => whnf
       repeat' ((first | refine DRAWN.of (id := 2) Z2 mixed VV (by kernel_rfl) ?_ | refine DRAWN.of (id := 4) Z2 mixed VW (by kernel_rfl) ?_ | refine DRAWN.of (id := 5) Z2 mixed YL (by kernel_rfl) ?_ | refine DRAWN.of (id := 6) Z2 mixed YL (by kernel_rfl) ?_ | refine DRAWN.of (id := 10) Z2 mixed VX (by kernel_rfl) ?_ | refine ADD.mk (fun _ _ => ?_) | refine AD ?_ | refine FORK.mk ?_ ?_ | (refine NEED.mk ⟨rfl, by omega, Nat.le_of_ble_eq_true rfl⟩ ?_; conv => whnf) | refine AU ?_ | (refine IW (fun h => ?_) (fun h => ?_) <;> try (exfalso; omega))) <;> conv => whnf)
       refine ⟨i + 1, by omega, by omega, ?_⟩
       conv => whnf
       (refine GOES.cutting h0 rfl rfl rfl (by (repeat' (first | (refine Y2 rfl ?_ ?_) | exact ZU (Z5 _) | exact ZG (Z5 _) | exact ZU (Yf _) | exact ZG (Yf _) | exact V5 (YM _) | exact V4 (UO _) | rfl))) ?_ ?_ <;> (repeat' (first | exact congrArg (Hp.deep true 2) (Zc8 hj2 (by omega) (by simp [List.take_of_length_le, Z3, Qd.row])) | (with_reducible rfl) | exact trivial | (exact Zp rfl (by first | omega | (simp (disch := omega) only [lnB, Z9, Zb] <;> omega) | (simp; done) | (simp <;> omega))) | (exact congrArg (SV.int _) (by first | omega | (simp (disch := omega) only [lnB, Z9, Zb] <;> omega) | (simp; done) | (simp <;> omega))) | (exact JT (by first | omega | (simp (disch := omega) only [lnB, Z9, Zb] <;> omega) | (simp; done) | (simp <;> omega))) | (exact UF (by first | omega | (simp (disch := omega) only [lnB, Z9, Zb] <;> omega) | (simp; done) | (simp <;> omega))) | (exact Zq _ (h := .rows _ _) (Z5 _)) | (exact Zq _ (h := .rows _ _) (Yf _)) | (exact congrArg (Hp.rows _) (by rfl)) | ((conv => whnf); refine ⟨?_, ?_⟩) | rfl)))
   · have hie : i = 3 := by omega
     subst hie
     repeat' ((first | refine AU ?_ | (refine IW (fun h => ?_) (fun h => ?_) <;> try (exfalso; omega))) <;> conv => whnf)
     refine FIN.aA h0 [8, 10] (.tup []) ([(0, .box [.sl (.loc 5) 0 16 (w.all.length + 1) none, .sl (.loc 6) 0 49 (w.why.length + 1) none, .mp (.loc 3), .mp (.loc 4)]), (5, .rows 16 ((w.all ++ [s.q]).map Z3)), (6, .rows 49 ((w.why ++ [s]).map Z13)), (3, .mp (Xc (setA s.q (w.all.length : Int) w.place))), (4, .deep true 2 (atR (atN s.q w.at' 3)))]) ?_
     exact ⟨rfl, by simp [wdO, ZfX], rfl⟩
theorem Z4z (l z : List Qd) (lim : Option Nat) (hl : l.length ≤ 4194304) (hz : (l ++ z).length ≤ 1152921504606846976) : Does Tryz.prog tab 36 1 [.sl (.loc 0) 0 16 l.length lim] [] [(0, .rows 16 ((l ++ z).map Z3))]
   (fun r O nx => r = .ptr (.loc 1) 0 0 0 ∧ O = [(1, .box [.sl (.loc 2) 0 16 (ZK l).all.length none, .sl (.loc 3) 0 49 (ZK l).why.length none, .mp (.loc 4), .mp (.loc 5)]), (2, .rows 16 ((ZK l).all.map Z3)), (3, .rows 49 ((ZK l).why.map Z13)), (4, .mp (Xc (ZK l).place)), (5, .deep true 2 (atR (ZK l).at'))] ∧ nx = 6) := by
 have hW := fun i => Z5t (l.take i)
 have hL := fun i => Z3n (l.take i)
 have hstep : ∀ i (h : i < l.length), ZK (l.take (i + 1)) = putM (ZK (l.take i)) (Z0s l[i]) := fun i h => by
   rw [List.take_succ_eq_append_getElem h]; unfold ZK; rw [List.foldl_append]; rfl
 refine Does.enter Z2 (g := 36) (fn := Tryz.f36) Tryz.call36 Tryz.func36 rfl 22 rfl rfl [.tmp 2] rfl ?_
 intro w0 F η0 h0
 conv => whnf
 repeat' ((first | refine AU ?_ | (refine IW (fun h => ?_) (fun h => ?_) <;> try (exfalso; omega))) <;> conv => whnf)
 refine GHO.loop (GHO.nilCell 3 0 16 rfl rfl) ?_
 refine GHO.loop (GHO.nilCell 3 1 49 rfl rfl) ?_
 refine GHO.loop (GHO.deep0 2 rfl) ?_
 refine LOOP.gok Z2 [3, 10, 11] [] (X := Nat) (fun i => i ≤ l.length) (fun i => [(12, .int .i64 (i : Int))]) (fun i => [(3, .box [.sl (.loc 4) 0 16 (ZK (l.take i)).all.length none, .sl (.loc 5) 0 49 (ZK (l.take i)).why.length none, .mp (.loc 1), .mp (.loc 2)]), (4, .rows 16 ((ZK (l.take i)).all.map Z3)), (5, .rows 49 ((ZK (l.take i)).why.map Z13)), (1, .mp (Xc (ZK (l.take i)).place)), (2, .deep true 2 (atR (ZK (l.take i)).at'))]) 6 (fun i => l.length - i) 0 (by omega) ?_
 conv => whnf
 refine ⟨by (refine GOES.cutting h0 rfl rfl rfl (by (repeat' (first | (refine Y2 rfl ?_ ?_) | exact ZU (Z5 _) | exact ZG (Z5 _) | exact ZU (Yf _) | exact ZG (Yf _) | exact V5 (YM _) | exact V4 (UO _) | rfl))) ?_ ?_ <;> (repeat' (first | (with_reducible rfl) | exact trivial | (exact Zp rfl (by first | omega | (simp (disch := omega) only [lnB, Z9, Zb] <;> omega) | (simp; done) | (simp <;> omega))) | (exact congrArg (SV.int _) (by first | omega | (simp (disch := omega) only [lnB, Z9, Zb] <;> omega) | (simp; done) | (simp <;> omega))) | (exact JT (by first | omega | (simp (disch := omega) only [lnB, Z9, Zb] <;> omega) | (simp; done) | (simp <;> omega))) | (exact UF (by first | omega | (simp (disch := omega) only [lnB, Z9, Zb] <;> omega) | (simp; done) | (simp <;> omega))) | (exact Zq _ (h := .rows _ _) (Z5 _)) | (exact Zq _ (h := .rows _ _) (Yf _)) | (exact congrArg (Hp.rows _) (by rfl)) | ((conv => whnf); refine ⟨?_, ?_⟩) | rfl))), ?_⟩
 intro i hi
 have hWi := hW i
 have hLi : (ZK (l.take i)).all.length ≤ 4194304 := by have := hL i; rw [List.length_take] at this; omega
 conv => whnf
 by_cases hil : i < l.length
 · have hs := hstep i hil
   have hput := Z9C (ZK (l.take i)) (Z0s l[i]) hWi hLi
   rw [← hs] at hput
   clear hW hL hstep hs hWi
   have gi : ((l ++ z).map Z3)[0 + (i : Int).toNat]? = some (Z3 l[i]) := by
     rw [show 0 + (i : Int).toNat = i by omega, List.getElem?_map, List.getElem?_append_left hil, List.getElem?_eq_getElem hil]; rfl
   repeat' ((first | (refine GET.at gi ?_; conv => whnf) | refine AU ?_ | (refine IW (fun h => ?_) (fun h => ?_) <;> try (exfalso; omega))) <;> conv => whnf)
   refine CALL.aA [3, 4, 5, 1, 2] (hput) ?_
   rintro r O nx ⟨rfl, rfl, rfl⟩
   conv => whnf
   repeat' ((first | refine AU ?_ | (refine IW (fun h => ?_) (fun h => ?_) <;> try (exfalso; omega))) <;> conv => whnf)
   refine ⟨i + 1, by omega, by omega, ?_⟩
   conv => whnf
   (refine GOES.keeping h0 [1, 2, 3, 7, 8] rfl rfl rfl (by (repeat' (first | (refine Y2 rfl ?_ ?_) | exact ZU (Z5 _) | exact ZG (Z5 _) | exact ZU (Yf _) | exact ZG (Yf _) | exact V5 (YM _) | exact V4 (UO _) | rfl))) ?_ ?_ <;> (repeat' (first | exact (Zq _ (h := .mp _) (YM _)).trans (Zq _ (h := .mp _) (YM _)).symm | exact (Zq _ (h := .deep _ _ _) (UO _)).trans (Zq _ (h := .deep _ _ _) (UO _)).symm | (with_reducible rfl) | exact trivial | (exact Zp rfl (by first | omega | (simp (disch := omega) only [lnB, Z9, Zb] <;> omega) | (simp; done) | (simp <;> omega))) | (exact congrArg (SV.int _) (by first | omega | (simp (disch := omega) only [lnB, Z9, Zb] <;> omega) | (simp; done) | (simp <;> omega))) | (exact JT (by first | omega | (simp (disch := omega) only [lnB, Z9, Zb] <;> omega) | (simp; done) | (simp <;> omega))) | (exact UF (by first | omega | (simp (disch := omega) only [lnB, Z9, Zb] <;> omega) | (simp; done) | (simp <;> omega))) | (exact (Zq _ (h := .rows _ _) (Z5 _)).symm) | (exact (Zq _ (h := .rows _ _) (Z5 _)).trans (Zq _ (h := .rows _ _) (Z5 _)).symm) | (exact Za (Z5 _) (by rfl)) | (exact (Zq _ (h := .rows _ _) (Yf _)).symm) | (exact (Zq _ (h := .rows _ _) (Yf _)).trans (Zq _ (h := .rows _ _) (Yf _)).symm) | (exact Za (Yf _) (by rfl)) | ((conv => whnf); refine ⟨?_, ?_⟩) | (simp only [ren, renB]; done) | rfl)))
 · have hie : i = l.length := by omega
   subst hie
   rw [List.take_length] at *
   repeat' ((first | refine AU ?_ | (refine IW (fun h => ?_) (fun h => ?_) <;> try (exfalso; omega))) <;> conv => whnf)
   refine FIN.aA h0 [3, 4, 5, 1, 2] (.ptr (.loc 1) 0 0 0) ([(1, .box [.sl (.loc 2) 0 16 (ZK l).all.length none, .sl (.loc 3) 0 49 (ZK l).why.length none, .mp (.loc 4), .mp (.loc 5)]), (2, .rows 16 ((ZK l).all.map Z3)), (3, .rows 49 ((ZK l).why.map Z13)), (4, .mp (Xc (ZK l).place)), (5, .deep true 2 (atR (ZK l).at'))]) ?_
   exact ⟨rfl, rfl, rfl⟩
end Go.Proofs.YtjbbkimodgffiaaGreatDoor
