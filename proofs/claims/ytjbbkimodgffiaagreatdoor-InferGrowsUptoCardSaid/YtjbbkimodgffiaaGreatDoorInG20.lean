/- Part 20: World9. Conditions: as each part says. -/
import Derived.Test.YtjbbkimodgffiaaGreatDoorInG19
set_option linter.unusedVariables false
set_option linter.unusedSimpArgs false
set_option maxRecDepth 20000
set_option maxHeartbeats 8000000
namespace Go.Proofs.YtjbbkimodgffiaaGreatDoor
open Go.Sx Go.Our
def Z6H : Plan := (.take 56 0 (.take 57 1 (.take 58 1 (.take 59 1 (.take 61 1 (.take 63 1 (.take 60 2 (.take 62 2 (.take 64 2 (.take 65 1 (.take 66 3 (.take 67 0 (.take 68 1 (.take 69 1 (.take 70 1 (.take 73 1 (.take 71 2 (.take 74 2 (.fork 72 3 76 3 (.take 75 1 (.take 76 3 (.join (Zl [(77, 0), (78, 1), (79, 1)])))) (.take 72 3 (.take 75 1 (.join (Zl [(77, 0), (78, 1), (79, 1)])))))))))))))))))))))))
def Z6I : Plan := (.take 46 0 (.take 47 1 (.take 48 1 (.take 49 1 (.take 52 1 (.take 50 2 (.take 53 2 (.fork 51 3 55 3 (.take 54 1 (.take 55 3 (.join Z6H))) (.take 51 3 (.take 54 1 (.join Z6H)))))))))))
def Z6J : Plan := (.take 36 0 (.take 37 1 (.take 38 1 (.take 39 1 (.take 42 1 (.take 40 2 (.take 43 2 (.fork 41 3 45 3 (.take 44 1 (.take 45 3 (.join Z6I))) (.take 41 3 (.take 44 1 (.join Z6I)))))))))))
def Z6K : Plan := (.take 26 0 (.take 27 1 (.take 28 1 (.take 29 1 (.take 32 1 (.take 30 2 (.take 33 2 (.fork 31 3 35 3 (.take 34 1 (.take 35 3 (.join Z6J))) (.take 31 3 (.take 34 1 (.join Z6J)))))))))))
def XD : Plan := (.take 0 1 (.take 2 1 (.take 1 2 (.take 3 2 (.take 4 1 (.take 5 3 (.take 6 0 (.take 7 1 (.take 8 1 (.take 10 1 (.take 12 1 (.take 9 2 (.take 11 2 (.take 13 2 (.take 14 1 (.take 15 3 (.take 16 0 (.take 17 1 (.take 18 1 (.take 19 1 (.take 22 1 (.take 20 2 (.take 23 2 (.fork 21 3 25 3 (.take 24 1 (.take 25 3 (.join Z6K))) (.take 21 3 (.take 24 1 (.join Z6K)))))))))))))))))))))))))))
set_option maxHeartbeats 16000000 in
theorem Z7X (q : Qd) (w : Wd) (hI : Fair w) (hq : q ∈ w.all) : Does Tryz.prog tab 49 6 [.ptr (.loc 0) 0 0 0, .agg (Z7 q), .fn (.func 50) [] [.ptr (.loc 5) 0 0 0]] (wdN 0 1 2 3 4 w)
   [(5, .box [.ptr (.loc 0) 0 0 0])] (fun r O nx => r = .bool (askL (Zy w) (fun _ => w.at') q (asks q) ()).2 ∧ O = wdN 0 1 2 3 4 w ∧ nx = 6) := by
 have step : ∀ (a : Go.Our.Ask) (nr : List (List SV)), a.2.2.map XH = nr → a.2.2.length = nr.length → a.2.2.length ≤ 100 → ∃ b, (askM (Zy w) (fun _ => w.at') q a ()).2 = b ∧
     Does Tryz.prog tab 73 10 [.bool a.1, .agg (Z7 a.2.1), .sl (.loc 8) 0 1 nr.length none, .ptr (.loc 6) 0 0 0, .ptr (.loc 7) 0 0 0, .ptr (.loc 9) 0 0 0] (wdN 0 1 2 3 4 w)
   [(5, .box [.ptr (.loc 0) 0 0 0]), (6, .box [.ptr (.loc 0) 0 0 0]), (7, .box (Z7 q)), (8, .rows 1 nr), (9, .box [.fn (.func 50) [] [.ptr (.loc 5) 0 0 0]])]
   (fun r O nx => r = .bool b ∧ O = wdN 0 1 2 3 4 w ∧ nx = 10) := by
   rintro ⟨f, x, ns⟩ nr rfl hnl hns
   exact ⟨_, rfl, by rw [← hnl]; exact ZbN f x q ns w hI hq hns⟩
 refine Does.enter Z2 (g := 49) (fn := Tryz.f49) Tryz.call49 Tryz.func49 rfl 91 rfl rfl [.tmp 6] rfl ?_
 intro w0 F η0 h0
 conv => whnf
 repeat' ((first | with_reducible refine IF.tt ?_ | with_reducible refine IF.ff ?_ | (show DRAWN _ _ _ _ _ _ _; first | refine DRAWN.ofF (id := 3) Z2 mixed XD (by kernel_rfl) ?_) | refine ADD.mk (fun _ _ => ?_) | refine AD ?_ | refine FORK.mk ?_ ?_ | with_reducible refine JOIN.go ?_ | refine AU ?_ | (refine IW (fun h => ?_) (fun h => ?_) <;> try (exfalso; omega))) <;> conv => whnf)
 obtain ⟨b1, e1, d1⟩ := step (true, ⟨q.g, Zm, q.s, Zm⟩, [2, 3, 7]) [[.int .i64 2], [.int .i64 3], [.int .i64 7]] rfl rfl (by simp)
 refine CALL.aA [0, 1, 2, 3, 4, 5, 6, 7, 10, 8] (d1) ?_
 rintro r O nx ⟨rfl, rfl, rfl⟩
 conv => whnf
 repeat' ((first | with_reducible refine IF.tt ?_ | with_reducible refine IF.ff ?_ | (refine FORK.pass _ _ _ _ rfl rfl rfl rfl rfl rfl rfl rfl rfl rfl rfl rfl rfl rfl rfl rfl (by first | rfl | assumption) (by decide) ?_; conv => whnf) | (show DRAWN _ _ _ _ _ _ _; first | refine DRAWN.ofF (id := 3) Z2 mixed XD (by kernel_rfl) ?_) | refine ADD.mk (fun _ _ => ?_) | refine AD ?_ | refine FORK.mk ?_ ?_ | with_reducible refine JOIN.go ?_ | refine AU ?_ | (refine IW (fun h => ?_) (fun h => ?_) <;> try (exfalso; omega))) <;> conv => whnf)
 rotate_left
 · have hall : (askL (Zy w) (fun _ => w.at') q (asks q) ()).2 = false := by simp [asks, askL, e1, h]
   rw [hall]
   refine FIN.aA h0 [] (.bool false) (wdN 0 1 2 3 4 w) ?_
   exact ⟨rfl, rfl, rfl⟩
 as_aux_lemma =>
 have c1 := h
 obtain ⟨b2, e2, d2⟩ := step (true, ⟨q.g, q.o, q.p, Zm⟩, [5, 11]) [[.int .i64 5], [.int .i64 11]] rfl rfl (by simp)
 refine CALL.aA [0, 1, 2, 3, 4, 5, 6, 7, 11, 8] (d2) ?_
 rintro r O nx ⟨rfl, rfl, rfl⟩
 conv => whnf
 repeat' ((first | with_reducible refine IF.tt ?_ | with_reducible refine IF.ff ?_ | (refine FORK.pass _ _ _ _ rfl rfl rfl rfl rfl rfl rfl rfl rfl rfl rfl rfl rfl rfl rfl rfl (by first | rfl | assumption) (by decide) ?_; conv => whnf) | (refine FORK.adds 33 37 36 30 (iriT typB).sv (.sl (.loc 12) 0 1 1 none) (.agg (Z7 ⟨q.g, Zm, iriT typB, q.s⟩)) [(12, .rows 1 [[.int .i64 9]])] (12 + 1) (fun r => by ((conv => whnf); (repeat' ((first | (with_reducible refine ADD.mk (fun _ _ => ?_)) | refine CALL.value (ZJ typB) rfl rfl ?_ | refine AU ?_) <;> conv => whnf)); exact JOIN.ij r (by decide))) (fun r => by ((conv => whnf); (repeat' ((first | (with_reducible refine ADD.mk (fun _ _ => ?_)) | refine CALL.value (ZJ typB) rfl rfl ?_ | refine AU ?_) <;> conv => whnf)); exact JOIN.ji r (by decide))) ?_; conv => whnf) | (show DRAWN _ _ _ _ _ _ _; first | refine DRAWN.ofF (id := 3) Z2 mixed XD (by kernel_rfl) ?_) | refine ADD.mk (fun _ _ => ?_) | refine AD ?_ | refine FORK.mk ?_ ?_ | with_reducible refine JOIN.go ?_ | refine AU ?_ | (refine IW (fun h => ?_) (fun h => ?_) <;> try (exfalso; omega))) <;> conv => whnf)
 rotate_left
 · have hall : (askL (Zy w) (fun _ => w.at') q (asks q) ()).2 = false := by simp [asks, askL, e1, e2, c1, h]
   rw [hall]
   refine FIN.aA h0 [] (.bool false) (wdN 0 1 2 3 4 w) ?_
   exact ⟨rfl, rfl, rfl⟩
 as_aux_lemma =>
 have c2 := h
 obtain ⟨b3, e3, d3⟩ := step (true, ⟨q.g, Zm, iriT typB, q.s⟩, [9]) [[.int .i64 9]] rfl rfl (by simp)
 refine CALL.aA [0, 1, 2, 3, 4, 5, 6, 7, 12, 8] (d3) ?_
 rintro r O nx ⟨rfl, rfl, rfl⟩
 conv => whnf
 repeat' ((first | with_reducible refine IF.tt ?_ | with_reducible refine IF.ff ?_ | (refine FORK.pass _ _ _ _ rfl rfl rfl rfl rfl rfl rfl rfl rfl rfl rfl rfl rfl rfl rfl rfl (by first | rfl | assumption) (by decide) ?_; conv => whnf) | (refine FORK.adds 43 47 46 40 (iriT domB).sv (.sl (.loc 13) 0 1 1 none) (.agg (Z7 ⟨q.g, q.p, iriT domB, Zm⟩)) [(13, .rows 1 [[.int .i64 2]])] (13 + 1) (fun r => by ((conv => whnf); (repeat' ((first | (with_reducible refine ADD.mk (fun _ _ => ?_)) | refine CALL.value (ZJ domB) rfl rfl ?_ | refine AU ?_) <;> conv => whnf)); exact JOIN.ij r (by decide))) (fun r => by ((conv => whnf); (repeat' ((first | (with_reducible refine ADD.mk (fun _ _ => ?_)) | refine CALL.value (ZJ domB) rfl rfl ?_ | refine AU ?_) <;> conv => whnf)); exact JOIN.ji r (by decide))) ?_; conv => whnf) | (show DRAWN _ _ _ _ _ _ _; first | refine DRAWN.ofF (id := 3) Z2 mixed XD (by kernel_rfl) ?_) | refine ADD.mk (fun _ _ => ?_) | refine AD ?_ | refine FORK.mk ?_ ?_ | with_reducible refine JOIN.go ?_ | refine AU ?_ | (refine IW (fun h => ?_) (fun h => ?_) <;> try (exfalso; omega))) <;> conv => whnf)
 rotate_left
 · have hall : (askL (Zy w) (fun _ => w.at') q (asks q) ()).2 = false := by simp [asks, askL, e1, e2, e3, c1, c2, h]
   rw [hall]
   refine FIN.aA h0 [] (.bool false) (wdN 0 1 2 3 4 w) ?_
   exact ⟨rfl, rfl, rfl⟩
 as_aux_lemma =>
 have c3 := h
 obtain ⟨b4, e4, d4⟩ := step (false, ⟨q.g, q.p, iriT domB, Zm⟩, [2]) [[.int .i64 2]] rfl rfl (by simp)
 refine CALL.aA [0, 1, 2, 3, 4, 5, 6, 7, 13, 8] (d4) ?_
 rintro r O nx ⟨rfl, rfl, rfl⟩
 conv => whnf
 repeat' ((first | with_reducible refine IF.tt ?_ | with_reducible refine IF.ff ?_ | (refine FORK.pass _ _ _ _ rfl rfl rfl rfl rfl rfl rfl rfl rfl rfl rfl rfl rfl rfl rfl rfl (by first | rfl | assumption) (by decide) ?_; conv => whnf) | (refine FORK.adds 53 57 56 50 (iriT ranB).sv (.sl (.loc 14) 0 1 1 none) (.agg (Z7 ⟨q.g, q.p, iriT ranB, Zm⟩)) [(14, .rows 1 [[.int .i64 3]])] (14 + 1) (fun r => by ((conv => whnf); (repeat' ((first | (with_reducible refine ADD.mk (fun _ _ => ?_)) | refine CALL.value (ZJ ranB) rfl rfl ?_ | refine AU ?_) <;> conv => whnf)); exact JOIN.ij r (by decide))) (fun r => by ((conv => whnf); (repeat' ((first | (with_reducible refine ADD.mk (fun _ _ => ?_)) | refine CALL.value (ZJ ranB) rfl rfl ?_ | refine AU ?_) <;> conv => whnf)); exact JOIN.ji r (by decide))) ?_; conv => whnf) | (show DRAWN _ _ _ _ _ _ _; first | refine DRAWN.ofF (id := 3) Z2 mixed XD (by kernel_rfl) ?_) | refine ADD.mk (fun _ _ => ?_) | refine AD ?_ | refine FORK.mk ?_ ?_ | with_reducible refine JOIN.go ?_ | refine AU ?_ | (refine IW (fun h => ?_) (fun h => ?_) <;> try (exfalso; omega))) <;> conv => whnf)
 rotate_left
 · have hall : (askL (Zy w) (fun _ => w.at') q (asks q) ()).2 = false := by simp [asks, askL, e1, e2, e3, e4, c1, c2, c3, h]
   rw [hall]
   refine FIN.aA h0 [] (.bool false) (wdN 0 1 2 3 4 w) ?_
   exact ⟨rfl, rfl, rfl⟩
 as_aux_lemma =>
 have c4 := h
 obtain ⟨b5, e5, d5⟩ := step (false, ⟨q.g, q.p, iriT ranB, Zm⟩, [3]) [[.int .i64 3]] rfl rfl (by simp)
 refine CALL.aA [0, 1, 2, 3, 4, 5, 6, 7, 14, 8] (d5) ?_
 rintro r O nx ⟨rfl, rfl, rfl⟩
 conv => whnf
 repeat' ((first | with_reducible refine IF.tt ?_ | with_reducible refine IF.ff ?_ | (refine FORK.pass _ _ _ _ rfl rfl rfl rfl rfl rfl rfl rfl rfl rfl rfl rfl rfl rfl rfl rfl (by first | rfl | assumption) (by decide) ?_; conv => whnf) | (refine FORK.adds 63 67 66 60 (iriT subP).sv (.sl (.loc 15) 0 1 1 none) (.agg (Z7 ⟨q.g, q.p, iriT subP, Zm⟩)) [(15, .rows 1 [[.int .i64 7]])] (15 + 1) (fun r => by ((conv => whnf); (repeat' ((first | (with_reducible refine ADD.mk (fun _ _ => ?_)) | refine CALL.value (ZJ subP) rfl rfl ?_ | refine AU ?_) <;> conv => whnf)); exact JOIN.ij r (by decide))) (fun r => by ((conv => whnf); (repeat' ((first | (with_reducible refine ADD.mk (fun _ _ => ?_)) | refine CALL.value (ZJ subP) rfl rfl ?_ | refine AU ?_) <;> conv => whnf)); exact JOIN.ji r (by decide))) ?_; conv => whnf) | (show DRAWN _ _ _ _ _ _ _; first | refine DRAWN.ofF (id := 3) Z2 mixed XD (by kernel_rfl) ?_) | refine ADD.mk (fun _ _ => ?_) | refine AD ?_ | refine FORK.mk ?_ ?_ | with_reducible refine JOIN.go ?_ | refine AU ?_ | (refine IW (fun h => ?_) (fun h => ?_) <;> try (exfalso; omega))) <;> conv => whnf)
 rotate_left
 · have hall : (askL (Zy w) (fun _ => w.at') q (asks q) ()).2 = false := by simp [asks, askL, e1, e2, e3, e4, e5, c1, c2, c3, c4, h]
   rw [hall]
   refine FIN.aA h0 [] (.bool false) (wdN 0 1 2 3 4 w) ?_
   exact ⟨rfl, rfl, rfl⟩
 as_aux_lemma =>
 have c5 := h
 obtain ⟨b6, e6, d6⟩ := step (false, ⟨q.g, q.p, iriT subP, Zm⟩, [7]) [[.int .i64 7]] rfl rfl (by simp)
 refine CALL.aA [0, 1, 2, 3, 4, 5, 6, 7, 15, 8] (d6) ?_
 rintro r O nx ⟨rfl, rfl, rfl⟩
 conv => whnf
 repeat' ((first | with_reducible refine IF.tt ?_ | with_reducible refine IF.ff ?_ | (refine FORK.pass _ _ _ _ rfl rfl rfl rfl rfl rfl rfl rfl rfl rfl rfl rfl rfl rfl rfl rfl (by first | rfl | assumption) (by decide) ?_; conv => whnf) | (show DRAWN _ _ _ _ _ _ _; first | refine DRAWN.ofF (id := 3) Z2 mixed XD (by kernel_rfl) ?_) | refine ADD.mk (fun _ _ => ?_) | refine AD ?_ | refine FORK.mk ?_ ?_ | with_reducible refine JOIN.go ?_ | refine AU ?_ | (refine IW (fun h => ?_) (fun h => ?_) <;> try (exfalso; omega))) <;> conv => whnf)
 rotate_left
 · have hall : (askL (Zy w) (fun _ => w.at') q (asks q) ()).2 = false := by simp [asks, askL, e1, e2, e3, e4, e5, e6, c1, c2, c3, c4, c5, h]
   rw [hall]
   refine FIN.aA h0 [] (.bool false) (wdN 0 1 2 3 4 w) ?_
   exact ⟨rfl, rfl, rfl⟩
 as_aux_lemma =>
 have c6 := h
 obtain ⟨b7, e7, d7⟩ := step (false, ⟨q.g, Zm, q.p, q.s⟩, [5, 11]) [[.int .i64 5], [.int .i64 11]] rfl rfl (by simp)
 refine CALL.aA [0, 1, 2, 3, 4, 5, 6, 7, 16, 8] (d7) ?_
 rintro r O nx ⟨rfl, rfl, rfl⟩
 conv => whnf
 repeat' ((first | with_reducible refine IF.tt ?_ | with_reducible refine IF.ff ?_ | (refine FORK.pass _ _ _ _ rfl rfl rfl rfl rfl rfl rfl rfl rfl rfl rfl rfl rfl rfl rfl rfl (by first | rfl | assumption) (by decide) ?_; conv => whnf) | (refine FORK.adds 84 88 87 81 (iriT subC).sv (.sl (.loc 17) 0 1 1 none) (.agg (Z7 ⟨q.g, q.o, iriT subC, Zm⟩)) [(17, .rows 1 [[.int .i64 9]])] (17 + 1) (fun r => by ((conv => whnf); (repeat' ((first | (with_reducible refine ADD.mk (fun _ _ => ?_)) | refine CALL.value (ZJ subC) rfl rfl ?_ | refine AU ?_) <;> conv => whnf)); exact JOIN.ij r (by decide))) (fun r => by ((conv => whnf); (repeat' ((first | (with_reducible refine ADD.mk (fun _ _ => ?_)) | refine CALL.value (ZJ subC) rfl rfl ?_ | refine AU ?_) <;> conv => whnf)); exact JOIN.ji r (by decide))) ?_; conv => whnf) | (show DRAWN _ _ _ _ _ _ _; first | refine DRAWN.ofF (id := 3) Z2 mixed XD (by kernel_rfl) ?_) | refine ADD.mk (fun _ _ => ?_) | refine AD ?_ | refine FORK.mk ?_ ?_ | with_reducible refine JOIN.go ?_ | refine AU ?_ | (refine IW (fun h => ?_) (fun h => ?_) <;> try (exfalso; omega))) <;> conv => whnf)
 rotate_left
 · have hall : (askL (Zy w) (fun _ => w.at') q (asks q) ()).2 = false := by simp [asks, askL, e1, e2, e3, e4, e5, e6, e7, c1, c2, c3, c4, c5, c6, h]
   rw [hall]
   refine FIN.aA h0 [] (.bool false) (wdN 0 1 2 3 4 w) ?_
   exact ⟨rfl, rfl, rfl⟩
 as_aux_lemma =>
 have c7 := h
 obtain ⟨b8, e8, d8⟩ := step (false, ⟨q.g, q.o, iriT subC, Zm⟩, [9]) [[.int .i64 9]] rfl rfl (by simp)
 refine CALL.aA [0, 1, 2, 3, 4, 5, 6, 7, 17, 8] (d8) ?_
 rintro r O nx ⟨rfl, rfl, rfl⟩
 conv => whnf
 repeat' ((first | with_reducible refine IF.tt ?_ | with_reducible refine IF.ff ?_ | (refine FORK.pass _ _ _ _ rfl rfl rfl rfl rfl rfl rfl rfl rfl rfl rfl rfl rfl rfl rfl rfl (by first | rfl | assumption) (by decide) ?_; conv => whnf) | (show DRAWN _ _ _ _ _ _ _; first | refine DRAWN.ofF (id := 3) Z2 mixed XD (by kernel_rfl) ?_) | refine ADD.mk (fun _ _ => ?_) | refine AD ?_ | refine FORK.mk ?_ ?_ | with_reducible refine JOIN.go ?_ | refine AU ?_ | (refine IW (fun h => ?_) (fun h => ?_) <;> try (exfalso; omega))) <;> conv => whnf)
 have hall : (askL (Zy w) (fun _ => w.at') q (asks q) ()).2 = b8 := by cases b8 <;> simp [asks, askL, e1, e2, e3, e4, e5, e6, e7, e8, c1, c2, c3, c4, c5, c6, c7]
 rw [hall]
 refine FIN.aA h0 [] (.bool b8) (wdN 0 1 2 3 4 w) ?_
 exact ⟨rfl, rfl, rfl⟩
theorem Z5b {l m : List Qd} (h : ∀ q, q ∈ l ↔ q ∈ m) : XW l ↔ XW m := by
 unfold XW
 constructor
 · intro hc n a b ha hb hd; exact (h _).1 (hc n a b ((h _).2 ha) ((h _).2 hb) hd)
 · intro hc n a b ha hb hd; exact (h _).2 (hc n a b ((h _).1 ha) ((h _).1 hb) hd)
theorem Za4 {l : List Qd} (hl : l.length ≤ 1048577) (hL : ∀ q ∈ l, QdSm q) : Fair (ZI l) :=
 ⟨Z4R l, Z8O l, fun o ho => hL o ((Z06 l o).1 ho), Nat.le_trans (Z2T l) hl⟩
set_option maxHeartbeats 8000000 in
theorem Z7Y (l z : List Qd) (lim : Option Nat) (hl : l.length ≤ 1048577) (hL : ∀ q ∈ l, QdSm q) (hz : (l ++ z).length ≤ 1152921504606846976) : Does Tryz.prog tab 22 1 [.sl (.loc 0) 0 16 l.length lim] [] [(0, .rows 16 ((l ++ z).map Z7))]
   (fun r O nx => ∃ b : Bool, (b = true ↔ XW l) ∧ r = .bool b ∧ O = [] ∧ nx = 1) := by
 have hf := Z45 l z lim (by omega) hz
 have hI := Za4 hl hL
 have hiff : (∀ q ∈ (ZI l).all, (askL (Zy (ZI l)) (fun _ => (ZI l).at') q (asks q) ()).2 = true) ↔ XW l := (Z9Y hI.spots).trans (Z5b (Z06 l))
 refine Does.enter Z2 (g := 22) (fn := Tryz.f22) Tryz.call22 Tryz.func22 rfl 23 rfl rfl [.tmp 2] rfl ?_
 intro w0 F η0 h0
 conv => whnf
 repeat' ((first | with_reducible refine IF.tt ?_ | with_reducible refine IF.ff ?_ | refine AU ?_ | (refine IW (fun h => ?_) (fun h => ?_) <;> try (exfalso; omega))) <;> conv => whnf)
 refine CALL.aA [0] (hf) ?_
 rintro r O nx ⟨rfl, rfl, rfl⟩
 generalize ZI l = w at *
 have hwl := hI.len
 conv => whnf
 repeat' ((first | with_reducible refine IF.tt ?_ | with_reducible refine IF.ff ?_ | refine ADD.mk (fun _ _ => ?_) | refine AD ?_ | refine FORK.mk ?_ ?_ | with_reducible refine JOIN.go ?_ | refine AU ?_ | (refine IW (fun h => ?_) (fun h => ?_) <;> try (exfalso; omega))) <;> conv => whnf)
 refine LOOP.gok Z2 [3, 11, 12] [] (X := Nat) (fun i => i ≤ w.all.length ∧ ∀ q ∈ w.all.take i, (askL (Zy w) (fun _ => w.at') q (asks q) ()).2 = true) (fun i => [(13, .int .i64 (i : Int))]) (fun i => wdN 1 2 3 4 5 w ++ [(6, .box [.ptr (.loc 1) 0 0 0])]) 7 (fun i => w.all.length - i) 0 ⟨by omega, by simp⟩ ?_
 conv => whnf
 refine ⟨by exact GOES.cA h0, ?_⟩
 rintro i ⟨hi, hall⟩
 conv => whnf
 by_cases hil : i < w.all.length
 · have gi : (w.all.map Z7)[0 + (i : Int).toNat]? = some (Z7 w.all[i]) := by
     rw [show 0 + (i : Int).toNat = i by omega, List.getElem?_map, List.getElem?_eq_getElem hil]; rfl
   repeat' ((first | with_reducible refine IF.tt ?_ | with_reducible refine IF.ff ?_ | refine ADD.mk (fun _ _ => ?_) | refine AD ?_ | refine FORK.mk ?_ ?_ | with_reducible refine JOIN.go ?_ | (refine GET.at gi ?_; conv => whnf) | refine AU ?_ | (refine IW (fun h => ?_) (fun h => ?_) <;> try (exfalso; omega))) <;> conv => whnf)
   refine CALL.aA [1, 2, 3, 4, 5, 6] (Z7X w.all[i] w hI (List.getElem_mem _)) ?_
   rintro r O nx ⟨rfl, rfl, rfl⟩
   conv => whnf
   repeat' ((first | with_reducible refine IF.tt ?_ | with_reducible refine IF.ff ?_ | refine ADD.mk (fun _ _ => ?_) | refine AD ?_ | refine FORK.mk ?_ ?_ | with_reducible refine JOIN.go ?_ | refine AU ?_ | (refine IW (fun h => ?_) (fun h => ?_) <;> try (exfalso; omega))) <;> conv => whnf)
   · refine FIN.aA h0 [] (.bool false) [] ?_
     exact ⟨false, ⟨(fun h => by cases h), fun hc => by have := hiff.2 hc _ (List.getElem_mem hil); rw [h] at this; cases this⟩, rfl, rfl, rfl⟩
   · refine ⟨i + 1, ⟨by omega, fun q hq => ?_⟩, by omega, ?_⟩
     · rcases (Jr hil).1 hq with hq | rfl
       · exact hall q hq
       · exact h
     · conv => whnf
       exact GOES.cA h0
 · have hie : i = w.all.length := by omega
   subst hie
   rw [List.take_length] at hall
   repeat' ((first | with_reducible refine IF.tt ?_ | with_reducible refine IF.ff ?_ | refine AU ?_ | (refine IW (fun h => ?_) (fun h => ?_) <;> try (exfalso; omega))) <;> conv => whnf)
   refine FIN.aA h0 [] (.bool true) [] ?_
   exact ⟨true, ⟨fun _ => hiff.1 hall, fun _ => rfl⟩, rfl, rfl, rfl⟩
end Go.Proofs.YtjbbkimodgffiaaGreatDoor
