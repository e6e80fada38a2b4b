/- Part 18: World4, World5, World6, World7, Awake25. Conditions: as each part says. -/
import Derived.Test.YtjbbkimodgffiaaGreatDoorIGr17
set_option linter.unusedVariables false
set_option linter.unusedSimpArgs false
set_option maxRecDepth 20000
set_option maxHeartbeats 8000000
namespace Go.Proofs.YtjbbkimodgffiaaGreatDoor
open Go.Sx Go.Our
def Z4n : Plan := (.take 56 0 (.take 57 1 (.take 58 1 (.take 59 1 (.take 61 1 (.take 63 1 (.take 60 2 (.take 62 2 (.take 64 2 (.take 65 1 (.take 66 3 (.take 67 0 (.take 68 1 (.take 69 1 (.take 70 1 (.take 73 1 (.take 71 2 (.take 74 2 (.fork 72 3 76 3 (.take 75 1 (.take 76 3 (.join (Zq [(77, 0), (78, 1), (79, 1)])))) (.take 72 3 (.take 75 1 (.join (Zq [(77, 0), (78, 1), (79, 1)])))))))))))))))))))))))
def Z4o : Plan := (.take 46 0 (.take 47 1 (.take 48 1 (.take 49 1 (.take 52 1 (.take 50 2 (.take 53 2 (.fork 51 3 55 3 (.take 54 1 (.take 55 3 (.join Z4n))) (.take 51 3 (.take 54 1 (.join Z4n)))))))))))
def Z4p : Plan := (.take 36 0 (.take 37 1 (.take 38 1 (.take 39 1 (.take 42 1 (.take 40 2 (.take 43 2 (.fork 41 3 45 3 (.take 44 1 (.take 45 3 (.join Z4o))) (.take 41 3 (.take 44 1 (.join Z4o)))))))))))
def Z4q : Plan := (.take 26 0 (.take 27 1 (.take 28 1 (.take 29 1 (.take 32 1 (.take 30 2 (.take 33 2 (.fork 31 3 35 3 (.take 34 1 (.take 35 3 (.join Z4p))) (.take 31 3 (.take 34 1 (.join Z4p)))))))))))
def X7 : Plan := (.take 0 1 (.take 2 1 (.take 1 2 (.take 3 2 (.take 4 1 (.take 5 3 (.take 6 0 (.take 7 1 (.take 8 1 (.take 10 1 (.take 12 1 (.take 9 2 (.take 11 2 (.take 13 2 (.take 14 1 (.take 15 3 (.take 16 0 (.take 17 1 (.take 18 1 (.take 19 1 (.take 22 1 (.take 20 2 (.take 23 2 (.fork 21 3 25 3 (.take 24 1 (.take 25 3 (.join Z4q))) (.take 21 3 (.take 24 1 (.join Z4q)))))))))))))))))))))))))))
set_option maxHeartbeats 16000000 in
theorem Z7k (most : Int) (q : Qd) (L : List Qd) (w : Wd) (h : CInv L w) (hL : ∀ q ∈ L, QdSm q) (hq : q ∈ w.all) (hm : (w.all.length : Int) ≤ most) (hmost : most ≤ 1048576) : Does Tryz.prog tab 49 7 [.ptr (.loc 0) 0 0 0, .agg (Za q), .fn (.func 109) [] [.ptr (.loc 5) 0 0 0, .ptr (.loc 6) 0 0 0]] (wdN 0 1 2 3 4 w)
   [(5, .box [.ptr (.loc 0) 0 0 0]), (6, .box [.int .i64 most])] (fun r O nx => r = .bool (J1 most q w).2 ∧ O = wdN 0 7 8 3 4 (J1 most q w).1 ∧ nx = 9) := by
 have hdw : J1 most q w = askL (Z8 most) Wd.at' q (asks q) w := rfl
 have step : ∀ (a : Go.Our.Ask) (nr : List (List SV)) (s : Wd), a.2.2.map Z4f = nr → a.2.2.length = nr.length → CInv L s → q ∈ s.all → (s.all.length : Int) ≤ most → a.2.2.length ≤ 100 → ∃ s' b, askM (Z8 most) Wd.at' q a s = (s', b) ∧ (b = true → CInv L s' ∧ q ∈ s'.all ∧ (s'.all.length : Int) ≤ most) ∧
     Does Tryz.prog tab 73 11 [.bool a.1, .agg (Za a.2.1), .sl (.loc 9) 0 1 nr.length none, .ptr (.loc 7) 0 0 0, .ptr (.loc 8) 0 0 0, .ptr (.loc 10) 0 0 0] (wdN 0 1 2 3 4 s)
   [(5, .box [.ptr (.loc 0) 0 0 0]), (6, .box [.int .i64 most]), (7, .box [.ptr (.loc 0) 0 0 0]), (8, .box (Za q)), (9, .rows 1 nr), (10, .box [.fn (.func 109) [] [.ptr (.loc 5) 0 0 0, .ptr (.loc 6) 0 0 0]])]
   (fun r O nx => r = .bool b ∧ O = wdN 0 11 12 3 4 s' ∧ nx = 13) := by
   rintro ⟨f, x, ns⟩ nr s rfl hnl hs hqs hms hns
   have hA := Z5i (most := most) (c := Vo f q (atL x s.at') ns) hs (Z6a hs hqs (f, x, ns)) hms
   have ha := Zbn most f x q ns L s hs hL hqs hms hmost hns
   have hu : askM (Z8 most) Wd.at' q (f, x, ns) s = Zw (Z8 most) (Vo f q (atL x s.at') ns) s := rfl
   refine ⟨_, _, rfl, fun hb => ?_, (by rw [← hnl]; exact ha)⟩
   have hb : (Zw (Z8 most) (Vo f q (atL x s.at') ns) s).2 = true := hb
   exact ⟨hA.1.inv, hA.1.pre.subset hqs, hA.1.yes hb hms⟩
 refine Does.enter Z2 (g := 49) (fn := Tryz.f49) Tryz.call49 Tryz.func49 rfl 91 rfl rfl [.tmp 6] rfl ?_
 intro w0 F η0 h0
 conv => whnf
 repeat' ((first | with_reducible refine IF.tt ?_ | with_reducible refine IF.ff ?_ | (show DRAWN _ _ _ _ _ _ _; first | refine DRAWN.ofF (id := 3) Z2 mixed X7 (by kernel_rfl) ?_) | refine ADD.mk (fun _ _ => ?_) | refine AD ?_ | refine FORK.mk ?_ ?_ | with_reducible refine JOIN.go ?_ | refine AU ?_ | (refine IW (fun h => ?_) (fun h => ?_) <;> try (exfalso; omega))) <;> conv => whnf)
 obtain ⟨s1, b1, e1, i1, d1⟩ := step (true, ⟨q.g, Zd, q.s, Zd⟩, [2, 3, 7]) [[.int .i64 2], [.int .i64 3], [.int .i64 7]] w rfl rfl h hq hm (by simp)
 refine CALL.aA [0, 1, 2, 3, 4, 5, 6, 7, 8, 11, 9] (d1) ?_
 rintro r O nx ⟨rfl, rfl, rfl⟩
 conv => whnf
 repeat' ((first | with_reducible refine IF.tt ?_ | with_reducible refine IF.ff ?_ | (refine FORK.pass _ _ _ _ rfl rfl rfl rfl rfl rfl rfl rfl rfl rfl rfl rfl rfl rfl rfl rfl (by first | rfl | assumption) (by decide) ?_; conv => whnf) | (show DRAWN _ _ _ _ _ _ _; first | refine DRAWN.ofF (id := 3) Z2 mixed X7 (by kernel_rfl) ?_) | refine ADD.mk (fun _ _ => ?_) | refine AD ?_ | refine FORK.mk ?_ ?_ | with_reducible refine JOIN.go ?_ | refine AU ?_ | (refine IW (fun h => ?_) (fun h => ?_) <;> try (exfalso; omega))) <;> conv => whnf)
 rotate_left
 · have hall : J1 most q w = (s1, false) := by rw [hdw]; simp [asks, askL, e1, h]
   rw [hall]
   refine FIN.aA h0 [12, 13] (.bool false) (wdN 0 7 8 3 4 s1) ?_
   exact ⟨rfl, rfl, rfl⟩
 as_aux_lemma =>
 have c1 := h
 have g1 := i1 h
 obtain ⟨s2, b2, e2, i2, d2⟩ := step (true, ⟨q.g, q.o, q.p, Zd⟩, [5, 11]) [[.int .i64 5], [.int .i64 11]] s1 rfl rfl g1.1 g1.2.1 g1.2.2 (by simp)
 refine CALL.aA [0, 12, 13, 3, 4, 5, 6, 7, 8, 14, 9] (d2) ?_
 rintro r O nx ⟨rfl, rfl, rfl⟩
 conv => whnf
 repeat' ((first | with_reducible refine IF.tt ?_ | with_reducible refine IF.ff ?_ | (refine FORK.pass _ _ _ _ rfl rfl rfl rfl rfl rfl rfl rfl rfl rfl rfl rfl rfl rfl rfl rfl (by first | rfl | assumption) (by decide) ?_; conv => whnf) | (refine FORK.adds 33 37 36 30 (iriT typB).sv (.sl (.loc 17) 0 1 1 none) (.agg (Za ⟨q.g, Zd, iriT typB, q.s⟩)) [(17, .rows 1 [[.int .i64 9]])] (17 + 1) (fun r => by ((conv => whnf); (repeat' ((first | (with_reducible refine ADD.mk (fun _ _ => ?_)) | refine CALL.value (YH typB) rfl rfl ?_ | refine AU ?_) <;> conv => whnf)); exact JOIN.ij r (by decide))) (fun r => by ((conv => whnf); (repeat' ((first | (with_reducible refine ADD.mk (fun _ _ => ?_)) | refine CALL.value (YH typB) rfl rfl ?_ | refine AU ?_) <;> conv => whnf)); exact JOIN.ji r (by decide))) ?_; conv => whnf) | (show DRAWN _ _ _ _ _ _ _; first | refine DRAWN.ofF (id := 3) Z2 mixed X7 (by kernel_rfl) ?_) | refine ADD.mk (fun _ _ => ?_) | refine AD ?_ | refine FORK.mk ?_ ?_ | with_reducible refine JOIN.go ?_ | refine AU ?_ | (refine IW (fun h => ?_) (fun h => ?_) <;> try (exfalso; omega))) <;> conv => whnf)
 rotate_left
 · have hall : J1 most q w = (s2, false) := by rw [hdw]; simp [asks, askL, e1, e2, c1, h]
   rw [hall]
   refine FIN.aA h0 [15, 16] (.bool false) (wdN 0 7 8 3 4 s2) ?_
   exact ⟨rfl, rfl, rfl⟩
 as_aux_lemma =>
 have c2 := h
 have g2 := i2 h
 obtain ⟨s3, b3, e3, i3, d3⟩ := step (true, ⟨q.g, Zd, iriT typB, q.s⟩, [9]) [[.int .i64 9]] s2 rfl rfl g2.1 g2.2.1 g2.2.2 (by simp)
 refine CALL.aA [0, 15, 16, 3, 4, 5, 6, 7, 8, 17, 9] (d3) ?_
 rintro r O nx ⟨rfl, rfl, rfl⟩
 conv => whnf
 repeat' ((first | with_reducible refine IF.tt ?_ | with_reducible refine IF.ff ?_ | (refine FORK.pass _ _ _ _ rfl rfl rfl rfl rfl rfl rfl rfl rfl rfl rfl rfl rfl rfl rfl rfl (by first | rfl | assumption) (by decide) ?_; conv => whnf) | (refine FORK.adds 43 47 46 40 (iriT domB).sv (.sl (.loc 20) 0 1 1 none) (.agg (Za ⟨q.g, q.p, iriT domB, Zd⟩)) [(20, .rows 1 [[.int .i64 2]])] (20 + 1) (fun r => by ((conv => whnf); (repeat' ((first | (with_reducible refine ADD.mk (fun _ _ => ?_)) | refine CALL.value (YH domB) rfl rfl ?_ | refine AU ?_) <;> conv => whnf)); exact JOIN.ij r (by decide))) (fun r => by ((conv => whnf); (repeat' ((first | (with_reducible refine ADD.mk (fun _ _ => ?_)) | refine CALL.value (YH domB) rfl rfl ?_ | refine AU ?_) <;> conv => whnf)); exact JOIN.ji r (by decide))) ?_; conv => whnf) | (show DRAWN _ _ _ _ _ _ _; first | refine DRAWN.ofF (id := 3) Z2 mixed X7 (by kernel_rfl) ?_) | refine ADD.mk (fun _ _ => ?_) | refine AD ?_ | refine FORK.mk ?_ ?_ | with_reducible refine JOIN.go ?_ | refine AU ?_ | (refine IW (fun h => ?_) (fun h => ?_) <;> try (exfalso; omega))) <;> conv => whnf)
 rotate_left
 · have hall : J1 most q w = (s3, false) := by rw [hdw]; simp [asks, askL, e1, e2, e3, c1, c2, h]
   rw [hall]
   refine FIN.aA h0 [18, 19] (.bool false) (wdN 0 7 8 3 4 s3) ?_
   exact ⟨rfl, rfl, rfl⟩
 as_aux_lemma =>
 have c3 := h
 have g3 := i3 h
 obtain ⟨s4, b4, e4, i4, d4⟩ := step (false, ⟨q.g, q.p, iriT domB, Zd⟩, [2]) [[.int .i64 2]] s3 rfl rfl g3.1 g3.2.1 g3.2.2 (by simp)
 refine CALL.aA [0, 18, 19, 3, 4, 5, 6, 7, 8, 20, 9] (d4) ?_
 rintro r O nx ⟨rfl, rfl, rfl⟩
 conv => whnf
 repeat' ((first | with_reducible refine IF.tt ?_ | with_reducible refine IF.ff ?_ | (refine FORK.pass _ _ _ _ rfl rfl rfl rfl rfl rfl rfl rfl rfl rfl rfl rfl rfl rfl rfl rfl (by first | rfl | assumption) (by decide) ?_; conv => whnf) | (refine FORK.adds 53 57 56 50 (iriT ranB).sv (.sl (.loc 23) 0 1 1 none) (.agg (Za ⟨q.g, q.p, iriT ranB, Zd⟩)) [(23, .rows 1 [[.int .i64 3]])] (23 + 1) (fun r => by ((conv => whnf); (repeat' ((first | (with_reducible refine ADD.mk (fun _ _ => ?_)) | refine CALL.value (YH ranB) rfl rfl ?_ | refine AU ?_) <;> conv => whnf)); exact JOIN.ij r (by decide))) (fun r => by ((conv => whnf); (repeat' ((first | (with_reducible refine ADD.mk (fun _ _ => ?_)) | refine CALL.value (YH ranB) rfl rfl ?_ | refine AU ?_) <;> conv => whnf)); exact JOIN.ji r (by decide))) ?_; conv => whnf) | (show DRAWN _ _ _ _ _ _ _; first | refine DRAWN.ofF (id := 3) Z2 mixed X7 (by kernel_rfl) ?_) | refine ADD.mk (fun _ _ => ?_) | refine AD ?_ | refine FORK.mk ?_ ?_ | with_reducible refine JOIN.go ?_ | refine AU ?_ | (refine IW (fun h => ?_) (fun h => ?_) <;> try (exfalso; omega))) <;> conv => whnf)
 rotate_left
 · have hall : J1 most q w = (s4, false) := by rw [hdw]; simp [asks, askL, e1, e2, e3, e4, c1, c2, c3, h]
   rw [hall]
   refine FIN.aA h0 [21, 22] (.bool false) (wdN 0 7 8 3 4 s4) ?_
   exact ⟨rfl, rfl, rfl⟩
 as_aux_lemma =>
 have c4 := h
 have g4 := i4 h
 obtain ⟨s5, b5, e5, i5, d5⟩ := step (false, ⟨q.g, q.p, iriT ranB, Zd⟩, [3]) [[.int .i64 3]] s4 rfl rfl g4.1 g4.2.1 g4.2.2 (by simp)
 refine CALL.aA [0, 21, 22, 3, 4, 5, 6, 7, 8, 23, 9] (d5) ?_
 rintro r O nx ⟨rfl, rfl, rfl⟩
 conv => whnf
 repeat' ((first | with_reducible refine IF.tt ?_ | with_reducible refine IF.ff ?_ | (refine FORK.pass _ _ _ _ rfl rfl rfl rfl rfl rfl rfl rfl rfl rfl rfl rfl rfl rfl rfl rfl (by first | rfl | assumption) (by decide) ?_; conv => whnf) | (refine FORK.adds 63 67 66 60 (iriT subP).sv (.sl (.loc 26) 0 1 1 none) (.agg (Za ⟨q.g, q.p, iriT subP, Zd⟩)) [(26, .rows 1 [[.int .i64 7]])] (26 + 1) (fun r => by ((conv => whnf); (repeat' ((first | (with_reducible refine ADD.mk (fun _ _ => ?_)) | refine CALL.value (YH subP) rfl rfl ?_ | refine AU ?_) <;> conv => whnf)); exact JOIN.ij r (by decide))) (fun r => by ((conv => whnf); (repeat' ((first | (with_reducible refine ADD.mk (fun _ _ => ?_)) | refine CALL.value (YH subP) rfl rfl ?_ | refine AU ?_) <;> conv => whnf)); exact JOIN.ji r (by decide))) ?_; conv => whnf) | (show DRAWN _ _ _ _ _ _ _; first | refine DRAWN.ofF (id := 3) Z2 mixed X7 (by kernel_rfl) ?_) | refine ADD.mk (fun _ _ => ?_) | refine AD ?_ | refine FORK.mk ?_ ?_ | with_reducible refine JOIN.go ?_ | refine AU ?_ | (refine IW (fun h => ?_) (fun h => ?_) <;> try (exfalso; omega))) <;> conv => whnf)
 rotate_left
 · have hall : J1 most q w = (s5, false) := by rw [hdw]; simp [asks, askL, e1, e2, e3, e4, e5, c1, c2, c3, c4, h]
   rw [hall]
   refine FIN.aA h0 [24, 25] (.bool false) (wdN 0 7 8 3 4 s5) ?_
   exact ⟨rfl, rfl, rfl⟩
 as_aux_lemma =>
 have c5 := h
 have g5 := i5 h
 obtain ⟨s6, b6, e6, i6, d6⟩ := step (false, ⟨q.g, q.p, iriT subP, Zd⟩, [7]) [[.int .i64 7]] s5 rfl rfl g5.1 g5.2.1 g5.2.2 (by simp)
 refine CALL.aA [0, 24, 25, 3, 4, 5, 6, 7, 8, 26, 9] (d6) ?_
 rintro r O nx ⟨rfl, rfl, rfl⟩
 conv => whnf
 repeat' ((first | with_reducible refine IF.tt ?_ | with_reducible refine IF.ff ?_ | (refine FORK.pass _ _ _ _ rfl rfl rfl rfl rfl rfl rfl rfl rfl rfl rfl rfl rfl rfl rfl rfl (by first | rfl | assumption) (by decide) ?_; conv => whnf) | (show DRAWN _ _ _ _ _ _ _; first | refine DRAWN.ofF (id := 3) Z2 mixed X7 (by kernel_rfl) ?_) | refine ADD.mk (fun _ _ => ?_) | refine AD ?_ | refine FORK.mk ?_ ?_ | with_reducible refine JOIN.go ?_ | refine AU ?_ | (refine IW (fun h => ?_) (fun h => ?_) <;> try (exfalso; omega))) <;> conv => whnf)
 rotate_left
 · have hall : J1 most q w = (s6, false) := by rw [hdw]; simp [asks, askL, e1, e2, e3, e4, e5, e6, c1, c2, c3, c4, c5, h]
   rw [hall]
   refine FIN.aA h0 [27, 28] (.bool false) (wdN 0 7 8 3 4 s6) ?_
   exact ⟨rfl, rfl, rfl⟩
 as_aux_lemma =>
 have c6 := h
 have g6 := i6 h
 obtain ⟨s7, b7, e7, i7, d7⟩ := step (false, ⟨q.g, Zd, q.p, q.s⟩, [5, 11]) [[.int .i64 5], [.int .i64 11]] s6 rfl rfl g6.1 g6.2.1 g6.2.2 (by simp)
 refine CALL.aA [0, 27, 28, 3, 4, 5, 6, 7, 8, 29, 9] (d7) ?_
 rintro r O nx ⟨rfl, rfl, rfl⟩
 conv => whnf
 repeat' ((first | with_reducible refine IF.tt ?_ | with_reducible refine IF.ff ?_ | (refine FORK.pass _ _ _ _ rfl rfl rfl rfl rfl rfl rfl rfl rfl rfl rfl rfl rfl rfl rfl rfl (by first | rfl | assumption) (by decide) ?_; conv => whnf) | (refine FORK.adds 84 88 87 81 (iriT subC).sv (.sl (.loc 32) 0 1 1 none) (.agg (Za ⟨q.g, q.o, iriT subC, Zd⟩)) [(32, .rows 1 [[.int .i64 9]])] (32 + 1) (fun r => by ((conv => whnf); (repeat' ((first | (with_reducible refine ADD.mk (fun _ _ => ?_)) | refine CALL.value (YH subC) rfl rfl ?_ | refine AU ?_) <;> conv => whnf)); exact JOIN.ij r (by decide))) (fun r => by ((conv => whnf); (repeat' ((first | (with_reducible refine ADD.mk (fun _ _ => ?_)) | refine CALL.value (YH subC) rfl rfl ?_ | refine AU ?_) <;> conv => whnf)); exact JOIN.ji r (by decide))) ?_; conv => whnf) | (show DRAWN _ _ _ _ _ _ _; first | refine DRAWN.ofF (id := 3) Z2 mixed X7 (by kernel_rfl) ?_) | refine ADD.mk (fun _ _ => ?_) | refine AD ?_ | refine FORK.mk ?_ ?_ | with_reducible refine JOIN.go ?_ | refine AU ?_ | (refine IW (fun h => ?_) (fun h => ?_) <;> try (exfalso; omega))) <;> conv => whnf)
 rotate_left
 · have hall : J1 most q w = (s7, false) := by rw [hdw]; simp [asks, askL, e1, e2, e3, e4, e5, e6, e7, c1, c2, c3, c4, c5, c6, h]
   rw [hall]
   refine FIN.aA h0 [30, 31] (.bool false) (wdN 0 7 8 3 4 s7) ?_
   exact ⟨rfl, rfl, rfl⟩
 as_aux_lemma =>
 have c7 := h
 have g7 := i7 h
 obtain ⟨s8, b8, e8, i8, d8⟩ := step (false, ⟨q.g, q.o, iriT subC, Zd⟩, [9]) [[.int .i64 9]] s7 rfl rfl g7.1 g7.2.1 g7.2.2 (by simp)
 refine CALL.aA [0, 30, 31, 3, 4, 5, 6, 7, 8, 32, 9] (d8) ?_
 rintro r O nx ⟨rfl, rfl, rfl⟩
 conv => whnf
 repeat' ((first | with_reducible refine IF.tt ?_ | with_reducible refine IF.ff ?_ | (refine FORK.pass _ _ _ _ rfl rfl rfl rfl rfl rfl rfl rfl rfl rfl rfl rfl rfl rfl rfl rfl (by first | rfl | assumption) (by decide) ?_; conv => whnf) | (show DRAWN _ _ _ _ _ _ _; first | refine DRAWN.ofF (id := 3) Z2 mixed X7 (by kernel_rfl) ?_) | refine ADD.mk (fun _ _ => ?_) | refine AD ?_ | refine FORK.mk ?_ ?_ | with_reducible refine JOIN.go ?_ | refine AU ?_ | (refine IW (fun h => ?_) (fun h => ?_) <;> try (exfalso; omega))) <;> conv => whnf)
 have hall : J1 most q w = (s8, b8) := by rw [hdw]; cases b8 <;> simp [asks, askL, e1, e2, e3, e4, e5, e6, e7, e8, c1, c2, c3, c4, c5, c6, c7]
 rw [hall]
 refine FIN.aA h0 [33, 34] (.bool b8) (wdN 0 7 8 3 4 s8) ?_
 exact ⟨rfl, rfl, rfl⟩
end Go.Proofs.YtjbbkimodgffiaaGreatDoor
namespace Go.Proofs.YtjbbkimodgffiaaGreatDoor
open Go.Sx Go.Our
def UQ : Plan := (Zq [(0, 1), (1, 2), (2, 1), (3, 1), (4, 2), (5, 1), (6, 1), (7, 1), (8, 2), (9, 1), (10, 1), (11, 2), (12, 1), (13, 2), (14, 1), (15, 1)])
def UR : Plan := (Zq [(5, 1), (8, 1), (0, 2), (1, 2), (2, 1), (3, 1), (4, 2), (6, 1), (7, 2), (9, 0)])
def US : Plan := (Zq [(0, 2), (1, 1), (2, 1), (3, 2), (4, 1), (5, 2), (6, 1), (7, 1)])
structure Ended (L : List Qd) (most B : Int) (w : Wd) : Prop where
 inv : CInv L w
 done : (w.all.length : Int) ≤ most → Z25 w.all.length w
 len : (w.all.length : Int) ≤ B
 run : ∃ n, Z8N most (ZG L) n w ∧ ¬ More most n w
set_option maxHeartbeats 8000000 in
theorem Z7l (most B : Int) (L : List Qd) (w : Wd) (hw0 : w = ZG L) (h : CInv L w) (hL : ∀ q ∈ L, QdSm q) (hw : (w.all.length : Int) ≤ B) (hB : most + 1 ≤ B) (hB2 : B ≤ 2097152) (hmost : most ≤ 1048576) : Does Tryz.prog tab 72 5 [.ptr (.loc 0) 0 0 0, .int .i64 most] (wdN 0 1 2 3 4 w) []
   (fun r O nx => ∃ w', Ended L most B w' ∧ r = .bool (decide ((w'.all.length : Int) ≤ most)) ∧ O = wdN 0 5 6 3 4 w' ∧ nx = 7) := by
 refine Does.enter Z2 (g := 72) (fn := Tryz.f72) Tryz.call72 Tryz.func72 rfl 41 rfl rfl [.tmp 4] rfl ?_
 intro w0 F η0 h0
 conv => whnf
 repeat' ((first | refine DRAWN.of (id := 2) Z2 mixed UQ (by kernel_rfl) ?_ | refine DRAWN.of (id := 4) Z2 mixed UR (by kernel_rfl) ?_ | refine DRAWN.of (id := 5) Z2 mixed US (by kernel_rfl) ?_ | refine ADD.mk (fun _ _ => ?_) | refine AD ?_ | refine FORK.mk ?_ ?_ | refine AU ?_ | (refine IW (fun h => ?_) (fun h => ?_) <;> try (exfalso; omega))) <;> conv => whnf)
 refine LOOP.gok Z2 [2, 3] [5, 6] (X := Nat × Wd) (fun x => CInv L x.2 ∧ ((x.2.all.length : Int) ≤ most → Z25 x.1 x.2) ∧ (x.2.all.length : Int) ≤ B ∧ x.1 ≤ x.2.all.length ∧ Z8N most (ZG L) x.1 x.2) (fun x => [(5, .int .i64 (x.1 : Int))]) (fun x => wdN 0 7 8 3 4 x.2) 9 (fun x => most.toNat + 1 - x.1) (0, w) ⟨h, (fun _ a ha => by simp at ha), hw, Nat.zero_le _, hw0 ▸ YJ _ _⟩ ?_
 conv => whnf
 refine ⟨by exact GOES.kA h0 [5, 6, 1, 2], ?_⟩
 clear h hw
 rintro ⟨i, v⟩ ⟨hI, hd, hw, hi, hr⟩
 dsimp only at hI hd hw hi hr
 conv => whnf
 repeat' ((first | refine DRAWN.of (id := 2) Z2 mixed UQ (by kernel_rfl) ?_ | refine DRAWN.of (id := 4) Z2 mixed UR (by kernel_rfl) ?_ | refine DRAWN.of (id := 5) Z2 mixed US (by kernel_rfl) ?_ | refine ADD.mk (fun _ _ => ?_) | refine AD ?_ | refine FORK.mk ?_ ?_ | refine AU ?_ | (refine IW (fun h => ?_) (fun h => ?_) <;> try (exfalso; omega))) <;> conv => whnf)
 · rename_i hil
   have hil : i < v.all.length := by omega
   have gi : (v.all.map Za)[0 + (i : Int).toNat]? = some (Za v.all[i]) := by
     rw [show 0 + (i : Int).toNat = i by omega, List.getElem?_map, List.getElem?_eq_getElem hil]; rfl
   refine GET.at gi ?_
   conv => whnf
   repeat' ((first | refine DRAWN.of (id := 2) Z2 mixed UQ (by kernel_rfl) ?_ | refine DRAWN.of (id := 4) Z2 mixed UR (by kernel_rfl) ?_ | refine DRAWN.of (id := 5) Z2 mixed US (by kernel_rfl) ?_ | refine ADD.mk (fun _ _ => ?_) | refine AD ?_ | refine FORK.mk ?_ ?_ | refine AU ?_ | (refine IW (fun h => ?_) (fun h => ?_) <;> try (exfalso; omega))) <;> conv => whnf)
   refine CALL.aA [0, 7, 8, 3, 4, 5, 6] (Z7k most v.all[i] L v hI hL (List.getElem_mem _) h hmost) ?_
   rintro r O nx ⟨rfl, rfl, rfl⟩
   conv => whnf
   repeat' ((first | refine DRAWN.of (id := 2) Z2 mixed UQ (by kernel_rfl) ?_ | refine DRAWN.of (id := 4) Z2 mixed UR (by kernel_rfl) ?_ | refine DRAWN.of (id := 5) Z2 mixed US (by kernel_rfl) ?_ | refine ADD.mk (fun _ _ => ?_) | refine AD ?_ | refine FORK.mk ?_ ?_ | refine AU ?_ | (refine IW (fun h => ?_) (fun h => ?_) <;> try (exfalso; omega))) <;> conv => whnf)
   obtain ⟨g, hg⟩ := Z8M hil hI h (hd h)
   refine ⟨(i + 1, (J1 most v.all[i] v).1), ⟨g.inv, hg, by have := g.upto h; dsimp only; omega, by have := g.pre.length_le; dsimp only; omega, Za2 hr hil h⟩, by dsimp only; omega, ?_⟩
   conv => whnf
   exact GOES.kA h0 [5, 6, 9, 10]
 · refine FIN.aA h0 [7, 8] (.bool (decide ((v.all.length : Int) ≤ most))) (wdN 0 5 6 3 4 v) ?_
   exact ⟨v, ⟨hI, fun h' => by omega, hw, i, hr, fun h' => by have := h'.2; omega⟩, rfl, rfl, rfl⟩
 · have hie : i = v.all.length := by omega
   subst hie
   refine FIN.aA h0 [7, 8] (.bool (decide ((v.all.length : Int) ≤ most))) (wdN 0 5 6 3 4 v) ?_
   exact ⟨v, ⟨hI, hd, hw, _, hr, fun h' => Nat.lt_irrefl _ h'.1⟩, rfl, rfl, rfl⟩
abbrev topM (most : Int) : Int := if 1048576 < most then 1048576 else most
set_option maxHeartbeats 8000000 in
theorem Z4r (l z : List Qd) (lim : Option Nat) (most : Int) (hl : l.length ≤ 2097152) (hL : ∀ q ∈ l, QdSm q) (hz : (l ++ z).length ≤ 1152921504606846976) : Does Tryz.prog tab 45 1 [.sl (.loc 0) 0 16 l.length lim, .int .i64 most] [] [(0, .rows 16 ((l ++ z).map Za))]
   (fun r O nx => ∃ w', Ended l (topM most) 2097152 w' ∧ r = (if (w'.all.length : Int) ≤ topM most then .tup [.ptr (.loc 1) 0 0 0, .int .i64 0] else .tup [.val (.pointer none), .int .i64 1]) ∧ O = wdN 1 2 3 4 5 w' ∧ nx = 6) := by
 have hf := Z6N l z lim (by omega) hz
 refine Does.enter Z2 (g := 45) (fn := Tryz.f45) Tryz.call45 Tryz.func45 rfl 15 rfl rfl [.tmp 4, .tmp 5] rfl ?_
 intro w0 F η0 h0
 conv => whnf
 repeat' ((first | refine AU ?_ | (refine IW (fun h => ?_) (fun h => ?_) <;> try (exfalso; omega))) <;> conv => whnf)
 refine CALL.aA [0] (hf) ?_
 rintro r O nx ⟨rfl, rfl, rfl⟩
 conv => whnf
 repeat' ((first | refine ADD.mk (fun _ _ => ?_) | refine AD ?_ | refine FORK.mk ?_ ?_ | refine AU ?_ | (refine IW (fun h => ?_) (fun h => ?_) <;> try (exfalso; omega))) <;> conv => whnf)
 have hcl := Z7l (topM most) 2097152 l (ZG l) rfl (Z8L l) hL (by have := Z43 l; omega) (by unfold topM; split <;> omega) (by omega) (by unfold topM; split <;> omega)
 refine CALL.aA [1, 2, 3, 4, 5] (hcl) ?_
 rintro r O nx ⟨w', he, rfl, rfl, rfl⟩
 conv => whnf
 repeat' ((first | refine ADD.mk (fun _ _ => ?_) | refine AD ?_ | refine FORK.mk ?_ ?_ | refine AU ?_ | (refine IW (fun h => ?_) (fun h => ?_) <;> try (exfalso; omega))) <;> conv => whnf)
 · refine FIN.aA h0 [1, 6, 7, 4, 5] (.tup [.val (.pointer none), .int .i64 1]) (wdN 1 2 3 4 5 w') ?_
   exact ⟨w', he, (if_neg (by omega)).symm, rfl, rfl⟩
 · refine FIN.aA h0 [1, 6, 7, 4, 5] (.tup [.ptr (.loc 1) 0 0 0, .int .i64 0]) (wdN 1 2 3 4 5 w') ?_
   exact ⟨w', he, (if_pos h).symm, rfl, rfl⟩
theorem Z5p (l z : List Qd) (lim : Option Nat) (hl : l.length ≤ 1152921504606846976) (hq : Za4 l) : Does Tryz.prog tab 43 1 [.sl (.loc 0) 0 16 l.length lim] [] [(0, .rows 16 ((l ++ z).map Za))] (ValK 1 (.int .i64 (Yt l).2)) := by
 have hv := Z5o l z lim hl hq
 refine Does.enter Z2 (g := 43) (fn := Tryz.f43) Tryz.call43 Tryz.func43 rfl 11 rfl rfl [.tmp 2] rfl ?_
 intro w0 F η0 h0
 conv => whnf
 repeat' ((first | refine AU ?_ | (refine IW (fun h => ?_) (fun h => ?_) <;> try (exfalso; omega))) <;> conv => whnf)
 refine CALL.aA [0] (hv) ?_
 rintro r O nx ⟨rfl, rfl, rfl⟩
 conv => whnf
 repeat' ((first | refine AU ?_ | (refine IW (fun h => ?_) (fun h => ?_) <;> try (exfalso; omega))) <;> conv => whnf)
 exact FIN.valueK h0 rfl rfl
def ClQ (l : List Qd) (most : Int) (r : SV) (O : Hps) (nx : Nat) : Prop :=
 ((Yt l).2 ≠ 0 ∧ r = .tup [.val (.slice none 0 0), .int .i64 (Yt l).2] ∧ O = [] ∧ nx = 1) ∨
 ((Yt l).2 = 0 ∧ ∃ c, IsCl l (topM most) c ∧ ((c = none ∧ r = .tup [.val (.slice none 0 0), .int .i64 1] ∧ O = [] ∧ nx = 1) ∨
   ∃ s j, c = some s ∧ j + s.length ≤ 2097152 ∧ r = .tup [.sl (.loc 1) 0 16 s.length (some s.length), .int .i64 0] ∧ O = [(1, .rows 16 ((s ++ List.replicate j ZF).map Za))] ∧ nx = 2))
set_option maxHeartbeats 8000000 in
theorem Vr (l z : List Qd) (lim : Option Nat) (most : Int) (hl : l.length ≤ 1152921504606846976) (hq : Za4 l) (hz : (l ++ z).length ≤ 1152921504606846976) : Does Tryz.prog tab 20 1 [.sl (.loc 0) 0 16 l.length lim, .int .i64 most] [] [(0, .rows 16 ((l ++ z).map Za))] (ClQ l most) := by
 have hv := Z5p l z lim hl hq
 have hsm : (Yt l).2 = 0 → l.length ≤ 1048576 := fun h => by
   unfold Yt at h
   split at h
   · cases h
   · omega
 refine Does.enter Z2 (g := 20) (fn := Tryz.f20) Tryz.call20 Tryz.func20 rfl 28 rfl rfl [.tmp 4, .tmp 5] rfl ?_
 intro w0 F η0 h0
 conv => whnf
 repeat' ((first | refine AU ?_ | (refine IW (fun h => ?_) (fun h => ?_) <;> try (exfalso; omega))) <;> conv => whnf)
 refine CALL.aA [0] (hv) ?_
 rintro r O nx ⟨rfl, rfl, rfl⟩
 conv => whnf
 repeat' ((first | refine ADD.mk (fun _ _ => ?_) | refine AD ?_ | refine FORK.mk ?_ ?_ | refine AU ?_ | (refine IW (fun h => ?_) (fun h => ?_) <;> try (exfalso; omega))) <;> conv => whnf)
 · refine FIN.aA h0 [] (.tup [.val (.slice none 0 0), .int .i64 (Yt l).2]) [] ?_
   exact .inl ⟨h, rfl, rfl, rfl⟩
 have hv0 := h
 have hlen := hsm h
 refine CALL.aA [0] (Z4r l z lim most (by omega) hq hz) ?_
 rintro r O nx ⟨w', he, rfl, rfl, rfl⟩
 by_cases hle : (w'.all.length : Int) ≤ topM most
 · rw [if_pos hle]
   have hw := he.len
   have ht := Z29 w'.all [] none (by unfold Z16; omega)
   rw [List.append_nil] at ht
   conv => whnf
   repeat' ((first | refine ADD.mk (fun _ _ => ?_) | refine AD ?_ | refine FORK.mk ?_ ?_ | refine AU ?_ | (refine IW (fun h => ?_) (fun h => ?_) <;> try (exfalso; omega))) <;> conv => whnf)
   refine CALL.aA [2] (ht) ?_
   rintro r O nx ⟨j, hj, rfl, rfl, rfl⟩
   conv => whnf
   repeat' ((first | refine ADD.mk (fun _ _ => ?_) | refine AD ?_ | refine FORK.mk ?_ ?_ | refine AU ?_ | (refine IW (fun h => ?_) (fun h => ?_) <;> try (exfalso; omega))) <;> conv => whnf)
   refine FIN.aA h0 [6] (.tup [.sl (.loc 1) 0 16 (setL ZB w'.all).length (some (setL ZB w'.all).length), .int .i64 0]) [(1, .rows 16 ((setL ZB w'.all ++ List.replicate j ZF).map Za))] ?_
   have hc := Z4i he.inv he.done
   unfold Z6c at hc
   rw [if_pos hle] at hc
   exact .inr ⟨hv0, _, hc, .inr ⟨_, j, rfl, by omega, rfl, rfl, rfl⟩⟩
 · rw [if_neg hle]
   conv => whnf
   repeat' ((first | refine ADD.mk (fun _ _ => ?_) | refine AD ?_ | refine FORK.mk ?_ ?_ | refine AU ?_ | (refine IW (fun h => ?_) (fun h => ?_) <;> try (exfalso; omega))) <;> conv => whnf)
   refine FIN.aA h0 [] (.tup [.val (.slice none 0 0), .int .i64 1]) [] ?_
   have hc := Z4i he.inv he.done
   unfold Z6c at hc
   rw [if_neg hle] at hc
   exact .inr ⟨hv0, _, hc, .inl ⟨rfl, rfl, rfl, rfl⟩⟩
def VP : Plan := (Zq [(0, 2), (2, 2), (4, 2), (6, 2), (8, 2), (9, 2), (10, 2), (11, 1), (1, 3), (3, 1), (5, 3), (7, 1), (12, 3), (13, 0), (14, 1)])
theorem Zc7 : ∀ q ∈ exL, q ∈ exM := by decide +kernel
theorem Zcn : ∀ q ∈ exM, QdSm q := by decide +kernel
theorem Z7n : Does Tryz.prog tab 55 0 [.str [115, 117, 98, 67, 108, 97, 115, 115, 79, 102]] [] [] (Val (iriT subC).sv) := by
 refine Does.enter Z2 (g := 55) (fn := Tryz.f55) Tryz.call55 Tryz.func55 rfl 6 rfl rfl [.cell 2 28] rfl ?_
 intro w0 F η0 h0
 conv => whnf
 repeat' ((first | refine AU ?_ | (refine IW (fun h => ?_) (fun h => ?_) <;> try (exfalso; omega))) <;> conv => whnf)
 exact FIN.value h0 rfl rfl
set_option maxHeartbeats 8000000 in
theorem Z4u : Does Tryz.prog tab 27 0 [] [] [] (ValK 0 (.bool true)) := by
 have hs := Z29 exL [] none (by decide)
 rw [List.append_nil, Zc6] at hs
 refine Does.enter Z2 (g := 27) (fn := Tryz.f27) Tryz.call27 Tryz.func27 rfl 54 rfl rfl [.tmp 0] rfl ?_
 intro w0 F η0 h0
 conv => whnf
 repeat' ((first | refine DRAWN.of (id := 3) Z2 mixed VP (by kernel_rfl) ?_ | refine ADD.mk (fun _ _ => ?_) | refine AD ?_ | refine FORK.mk ?_ ?_ | refine CALL.value (Z7n) rfl rfl ?_ | refine AU ?_ | (refine IW (fun h => ?_) (fun h => ?_) <;> try (exfalso; omega))) <;> conv => whnf)
 refine CALL.aA [5] (hs) ?_
 rintro r O nx ⟨j, hj, rfl, rfl, rfl⟩
 conv => whnf
 repeat' ((first | refine DRAWN.of (id := 3) Z2 mixed VP (by kernel_rfl) ?_ | refine ADD.mk (fun _ _ => ?_) | refine AD ?_ | refine FORK.mk ?_ ?_ | refine AU ?_ | (refine IW (fun h => ?_) (fun h => ?_) <;> try (exfalso; omega))) <;> conv => whnf)
 have hC := Vr exL (List.replicate j ZF) (some exL.length) 100 (by decide) (fun q hq => Zcn q (Zc7 q hq)) (by have h3 : exL.length = 3 := rfl; simp at hj ⊢; omega)
 refine CALL.aA [6] (hC) ?_
 rintro r O nx (⟨hv, rfl, rfl, rfl⟩ | ⟨hv, c, hc, (⟨rfl, rfl, rfl, rfl⟩ | ⟨s, j2, rfl, hj2, rfl, rfl, rfl⟩)⟩)
 · exact (hv Za6).elim
 · have := Z1g hc Z8X; cases this
 obtain rfl : exM = s := by injection (Z1g hc Z8X).symm
 have hF := Z8Y exM (List.replicate j2 ZF) exQ (some exM.length) (by have h3 : exM.length = 6 := rfl; simp at hj2 ⊢; omega) Z5q
 rw [Z8I triQ Z5q, decide_eq_true Zcm] at hF
 conv => whnf
 repeat' ((first | refine DRAWN.of (id := 3) Z2 mixed VP (by kernel_rfl) ?_ | refine ADD.mk (fun _ _ => ?_) | refine AD ?_ | refine FORK.mk ?_ ?_ | refine AU ?_ | (refine IW (fun h => ?_) (fun h => ?_) <;> try (exfalso; omega))) <;> conv => whnf)
 refine CALL.aA [7] (hF) ?_
 rintro r O nx ⟨rfl, rfl, rfl⟩
 conv => whnf
 repeat' ((first | refine DRAWN.of (id := 3) Z2 mixed VP (by kernel_rfl) ?_ | refine ADD.mk (fun _ _ => ?_) | refine AD ?_ | refine FORK.mk ?_ ?_ | refine AU ?_ | (refine IW (fun h => ?_) (fun h => ?_) <;> try (exfalso; omega))) <;> conv => whnf)
 all_goals first
   | exact FIN.valueK h0 rfl rfl
   | trace_state
end Go.Proofs.YtjbbkimodgffiaaGreatDoor
