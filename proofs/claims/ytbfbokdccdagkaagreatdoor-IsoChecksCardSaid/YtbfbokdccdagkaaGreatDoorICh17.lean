/- Part 17: Tag7. Conditions: as each part says. -/
import Derived.Test.YtbfbokdccdagkaaGreatDoorICh14
set_option linter.unusedVariables false
set_option linter.unusedSimpArgs false
set_option maxRecDepth 20000
set_option maxHeartbeats 8000000
namespace Go.Proofs.YtbfbokdccdagkaaGreatDoor
open Go.Sx Go.Our
def WR : Plan := (ZO [(0, 1), (1, 1), (2, 1), (4, 1), (9, 1), (10, 1), (3, 2), (5, 1), (6, 2), (7, 1), (11, 2), (8, 3), (12, 3), (13, 1)])
def WS : Plan := (ZO [(0, 1), (1, 1), (2, 1), (3, 1), (5, 1), (4, 2), (6, 3), (7, 3), (8, 0), (9, 1), (10, 1), (11, 0)])
def dupM (xs : List (List UInt8)) (w : List UInt8) : Bool := xs.any fun x => Zd (x.take 1) == Zd w
theorem Z78 {xs : List (List UInt8)} {w : List UInt8} {i : Nat} (h : i < xs.length) : dupM (xs.drop i) w = (Zd (xs[i].take 1) == Zd w || dupM (xs.drop (i + 1)) w) := by
 unfold dupM; rw [List.drop_eq_getElem_cons h]; rfl
theorem VZ (ps : List (List UInt8)) (hb : XY ps + ps.length ≤ 34359738368) (a m : Nat) (ham : a + (m + 1) = ps.length) (w : List UInt8) (hw : ps[a]? = some w) (hw1 : w.length = 1)
   (L E S R : List UInt8) (v : Nat) (P : List UInt8) (xs : List (List UInt8)) (hxs : ∀ x ∈ xs, 1 ≤ x.length ∧ Sm x) (hxl : xs.length ≤ 34359738368) :
   Does Tryz.prog tab 228 5 [.ptr (.loc 0) 0 0 0, .ptr (.loc 2) 0 0 0] [(0, rd6 a (m + 1)), (2, tg6 L E S R 3 v 4 xs.length P), (4, .rows 1 (xs.map Zb))] [(1, .rows 1 (ps.map Zb))]
     (fun r O nx => ∃ (n : Nat) (xs' : List (List UInt8)), n = ZK (Yl 2) (ps.drop (a + 1)) ∧ r = .bool (!dupM xs w && decide (n ≠ 0)) ∧ (dupM xs w = false → ∃ z, xs' = xs ++ [z] ∧ z.take 1 = w ∧ Sm z) ∧
       O = [(0, rd6 (a + 1 + n) (m - n)), (2, tg6 L E S R 3 v 5 xs'.length P), (5, .rows 1 (xs'.map Zb))] ∧ nx = 6) := by
 have hsm := UV (ps := ps) (by omega)
 have hwl : Sm w := hsm w (List.mem_of_getElem? hw)
 refine Does.enter Z3 (g := 228) (fn := Tryz.f228) Tryz.call228 Tryz.func228 rfl 69 rfl rfl [.tmp 4] rfl ?_
 intro w0 F η0 h0
 conv => whnf
 refine CALL.aA [0, 1] (Yr ps a m ham w hw) ?_
 rintro r O' nx' ⟨rfl, rfl, rfl⟩
 conv => whnf
 refine LOOP.go Z3 [0, 1] (X := Nat × List (List UInt8)) (fun y => y.1 ≤ m ∧ y.2.length = y.1 + 1 ∧ y.2[0]? = some w ∧ XY y.2 ≤ ((ps.take (a + 1 + y.1)).map List.length).sum ∧ ZK (Yl 2) (ps.drop (a + 1)) = y.1 + ZK (Yl 2) (ps.drop (a + 1 + y.1))) (fun y => [(5, .sl (.loc 5) 0 1 y.2.length none)]) (fun y => [(0, rd6 (a + 1 + y.1) (m - y.1)), (2, tg6 L E S R 3 v 4 xs.length P), (4, .rows 1 (xs.map Zb)), (5, .rows 1 (y.2.map Zb))]) 6 (fun y => m - y.1) (0, [w]) ⟨by simp, by simp, by simp, ?_, by simp⟩ ?_
 · simp only [Nat.add_zero]
   rw [Uz hw]; simp [XY]
 conv => whnf
 refine ⟨by (refine GOES.keeping h0 [5] rfl rfl rfl (by first | rfl | (simp only [Z6, Z4, Z0 _ (Z1 _), Bool.and_self, Bool.and_true] <;> rfl)) ?_ ?_ <;> (repeat' (first | (with_reducible rfl) | (exact Z8 (Z1 _) (Z5 _ (Z1 _))) | (exact Z8 (Z1 _) (by simp [Zb, Zw, List.take_of_length_le])) | (exact Zp rfl (by first | (simp; done) | omega | (simp; omega))) | (exact congrArg (SV.int _) (by first | omega | (simp (disch := omega) only [lnB, Z2, Z7] <;> omega) | (simp; done) | (simp <;> omega))) | ((conv => whnf); refine ⟨?_, ?_⟩) | exact trivial | (simp only [ren, renB]; done) | rfl))), ?_⟩
 rintro ⟨c, l⟩ ⟨hc, hl, hl0, hlb, hx⟩
 dsimp only at hc hl hl0 hlb hx ⊢
 have hlt0 := Yq ps (a + 1 + c)
 have out : ∀ (n : Nat), ZK (Yl 2) (ps.drop (a + 1 + c)) = 0 → ZK (Yl 2) (ps.drop (a + 1)) = c := by intro n h; omega
 conv => whnf
 rcases Nat.lt_or_ge c m with hcm | hcm
 · have hlt : a + 1 + c < ps.length := by omega
   have hs := hsm _ (List.getElem_mem hlt)
   have hs1 := Uz (List.getElem?_eq_getElem hlt)
   repeat' ((first | (refine GET.at (row := Zb (ps[a + 1 + c]'(by omega))) (by rw [List.getElem?_map, show a + 1 + c + (0 : Int).toNat = a + 1 + c by simp, List.getElem?_eq_getElem (by omega)]; rfl) ?_; conv => whnf) | refine CALL.value (JB _ _ _ hs) rfl rfl ?_ | refine AU ?_ | (refine IW (fun h => ?_) (fun h => ?_) <;> try (exfalso; omega))) <;> conv => whnf)
   · obtain ⟨k', hk'⟩ : ∃ k', m - c = k' + 1 := ⟨m - c - 1, by omega⟩
     rw [hk']
     refine CALL.aA [0, 1] (Yr ps (a + 1 + c) k' (by omega) _ (List.getElem?_eq_getElem hlt)) ?_
     rintro r O' nx' ⟨rfl, rfl, rfl⟩
     conv => whnf
     repeat' ((first | refine AU ?_ | (refine IW (fun h => ?_) (fun h => ?_) <;> try (exfalso; omega))) <;> conv => whnf)
     have e : (l ++ [ps[a + 1 + c]]).length = l.length + 1 := by simp
     refine ⟨(c + 1, l ++ [ps[a + 1 + c]]), ⟨by simp only; omega, by simp; omega, by simp only; rw [List.getElem?_append_left (by omega), hl0], ?_, ?_⟩, by simp only; omega, ?_⟩
     · simp only
       rw [show a + 1 + (c + 1) = a + 1 + c + 1 by omega, hs1]
       simp [XY] at hlb ⊢; omega
     · simp only
       rw [hx, List.drop_eq_getElem_cons hlt]
       simp only [ZK]
       rw [if_pos h]
       show c + (ZK _ _ + 1) = _
       rw [show a + 1 + (c + 1) = a + 1 + c + 1 by omega]; omega
     · dsimp only
       rw [e, show a + 1 + (c + 1) = a + 1 + c + 1 by omega, show m - (c + 1) = k' by omega]
       conv => whnf
       (refine GOES.keeping h0 [7] rfl rfl rfl (by first | rfl | (simp only [Z6, Z4, Z0 _ (Z1 _), Bool.and_self, Bool.and_true] <;> rfl)) ?_ ?_ <;> (repeat' (first | (with_reducible rfl) | (exact Z8 (Z1 _) (Z5 _ (Z1 _))) | (exact Z8 (Z1 _) (by simp [Zb, Zw, List.take_of_length_le])) | (exact Zp rfl (by first | (simp; done) | omega | (simp; omega))) | (exact congrArg (SV.int _) (by first | omega | (simp (disch := omega) only [lnB, Z2, Z7] <;> omega) | (simp; done) | (simp <;> omega))) | ((conv => whnf); refine ⟨?_, ?_⟩) | exact trivial | (simp only [ren, renB]; done) | rfl)))
   · have hn : ZK (Yl 2) (ps.drop (a + 1)) = c := by
       rw [hx, List.drop_eq_getElem_cons hlt]; simp only [ZK]; rw [if_neg (by simp [h])]; rfl
     refine LOOP.go Z3 [1, 5] (X := Nat) (fun i => i ≤ xs.length ∧ dupM xs w = dupM (xs.drop i) w) (fun i => [(7, .int .i64 (i : Int))]) (fun i => [(0, rd6 (a + 1 + c) (m - c)), (2, tg6 L E S R 3 v 4 xs.length P), (4, .rows 1 (xs.map Zb)), (5, .rows 1 (l.map Zb))]) 6 (fun i => xs.length - i) 0 ⟨by omega, rfl⟩ ?_
     conv => whnf
     refine ⟨by (refine GOES.keeping h0 [5] rfl rfl rfl (by first | rfl | (simp only [Z6, Z4, Z0 _ (Z1 _), Bool.and_self, Bool.and_true] <;> rfl)) ?_ ?_ <;> (repeat' (first | (with_reducible rfl) | (exact Z8 (Z1 _) (Z5 _ (Z1 _))) | (exact Z8 (Z1 _) (by simp [Zb, Zw, List.take_of_length_le])) | (exact Zp rfl (by first | (simp; done) | omega | (simp; omega))) | (exact congrArg (SV.int _) (by first | omega | (simp (disch := omega) only [lnB, Z2, Z7] <;> omega) | (simp; done) | (simp <;> omega))) | ((conv => whnf); refine ⟨?_, ?_⟩) | exact trivial | (simp only [ren, renB]; done) | rfl))), ?_⟩
     rintro i ⟨hi, hd⟩
     dsimp only at hi hd ⊢
     conv => whnf
     rcases Nat.lt_or_ge i xs.length with him | him
     · obtain ⟨hx1, hx2⟩ := hxs _ (List.getElem_mem him)
       have hsub : Sm (xs[i].take (1 : Int).toNat) := by simp; omega
       repeat' ((first | refine DRAWN.of (id := 8) Z3 mixed WR (by kernel_rfl) ?_ | refine DRAWN.of (id := 10) Z3 mixed WS (by kernel_rfl) ?_ | refine ADD.mk (fun _ _ => ?_) | refine AD ?_ | refine FORK.mk ?_ ?_ | (refine GET.at (row := Zb (xs[i]'(by omega))) (by rw [List.getElem?_map, show 0 + (i : Int).toNat = i by simp, List.getElem?_eq_getElem (by omega)]; rfl) ?_; conv => whnf) | (refine GET.at (row := Zb w) (by rw [List.getElem?_map, show 0 + (0 : Int).toNat = 0 by simp, hl0]; rfl) ?_; conv => whnf) | refine CALL.value (Yj _ hsub) rfl rfl ?_ | refine CALL.value (Yj _ hwl) rfl rfl ?_ | refine AU ?_ | (refine IW (fun h => ?_) (fun h => ?_) <;> try (exfalso; omega))) <;> conv => whnf)
       · have hdup : dupM xs w = true := by rw [hd, Z78 him, beq_iff_eq.2 h]; rfl
         refine FIN.aA h0 [4] (.bool false) [(0, rd6 (a + 1 + c) (m - c)), (2, tg6 L E S R 3 v 5 xs.length P), (5, .rows 1 (xs.map Zb))] ?_
         exact ⟨c, xs, hn.symm, by rw [hdup]; rfl, by simp [hdup], rfl, rfl⟩
       · refine ⟨i + 1, ⟨by omega, ?_⟩, by omega, ?_⟩
         · rw [hd, Z78 him]
           have : (Zd (xs[i].take 1) == Zd w) = false := by simpa using h
           rw [this, Bool.false_or]
         · conv => whnf
           (refine GOES.keeping h0 [5] rfl rfl rfl (by first | rfl | (simp only [Z6, Z4, Z0 _ (Z1 _), Bool.and_self, Bool.and_true] <;> rfl)) ?_ ?_ <;> (repeat' (first | (with_reducible rfl) | (exact Z8 (Z1 _) (Z5 _ (Z1 _))) | (exact Z8 (Z1 _) (by simp [Zb, Zw, List.take_of_length_le])) | (exact Zp rfl (by first | (simp; done) | omega | (simp; omega))) | (exact congrArg (SV.int _) (by first | omega | (simp (disch := omega) only [lnB, Z2, Z7] <;> omega) | (simp; done) | (simp <;> omega))) | ((conv => whnf); refine ⟨?_, ?_⟩) | exact trivial | (simp only [ren, renB]; done) | rfl)))
     · have hdup : dupM xs w = false := by rw [hd, List.drop_eq_nil_of_le (by omega)]; rfl
       repeat' ((first | refine DRAWN.of (id := 8) Z3 mixed WR (by kernel_rfl) ?_ | refine DRAWN.of (id := 10) Z3 mixed WS (by kernel_rfl) ?_ | refine ADD.mk (fun _ _ => ?_) | refine AD ?_ | refine FORK.mk ?_ ?_ | refine AU ?_ | (refine IW (fun h => ?_) (fun h => ?_) <;> try (exfalso; omega))) <;> conv => whnf)
       refine CALL.aA [5] (Xv l (by omega) 0 l.length (by omega)) ?_
       rintro r O' nx' ⟨z, hz, hzw, rfl, rfl, rfl⟩
       conv => whnf
       repeat' ((first | refine DRAWN.of (id := 8) Z3 mixed WR (by kernel_rfl) ?_ | refine DRAWN.of (id := 10) Z3 mixed WS (by kernel_rfl) ?_ | refine ADD.mk (fun _ _ => ?_) | refine AD ?_ | refine FORK.mk ?_ ?_ | refine AU ?_ | (refine IW (fun h => ?_) (fun h => ?_) <;> try (exfalso; omega))) <;> conv => whnf)
       obtain ⟨t, rfl⟩ := hzw w hl0
       have e : (xs ++ [w ++ t]).length = xs.length + 1 := by simp
       have ec : decide ((1 : Int) < (l.length : Int)) = decide (c ≠ 0) := decide_eq_decide.2 (by omega)
       rw [ec]
       refine FIN.aA h0 [7] (.bool (decide (c ≠ 0))) [(0, rd6 (a + 1 + c) (m - c)), (2, tg6 L E S R 3 v 5 (xs.length + 1) P), (5, .rows 1 ((xs ++ [w ++ t]).map Zb))] ?_
       exact ⟨c, xs ++ [w ++ t], hn.symm, by rw [hdup]; rfl, fun _ => ⟨_, rfl, by rw [List.take_append_of_le_length (by omega), List.take_of_length_le (by omega)], by omega⟩, by rw [e], rfl⟩
 · repeat' ((first | refine AU ?_ | (refine IW (fun h => ?_) (fun h => ?_) <;> try (exfalso; omega))) <;> conv => whnf)
   have hn : ZK (Yl 2) (ps.drop (a + 1)) = c := by
     rw [hx, List.drop_eq_nil_of_le (by omega)]; rfl
   refine LOOP.go Z3 [1, 5] (X := Nat) (fun i => i ≤ xs.length ∧ dupM xs w = dupM (xs.drop i) w) (fun i => [(7, .int .i64 (i : Int))]) (fun i => [(0, rd6 (a + 1 + c) (m - c)), (2, tg6 L E S R 3 v 4 xs.length P), (4, .rows 1 (xs.map Zb)), (5, .rows 1 (l.map Zb))]) 6 (fun i => xs.length - i) 0 ⟨by omega, rfl⟩ ?_
   conv => whnf
   refine ⟨by (refine GOES.keeping h0 [5] rfl rfl rfl (by first | rfl | (simp only [Z6, Z4, Z0 _ (Z1 _), Bool.and_self, Bool.and_true] <;> rfl)) ?_ ?_ <;> (repeat' (first | (with_reducible rfl) | (exact Z8 (Z1 _) (Z5 _ (Z1 _))) | (exact Z8 (Z1 _) (by simp [Zb, Zw, List.take_of_length_le])) | (exact Zp rfl (by first | (simp; done) | omega | (simp; omega))) | (exact congrArg (SV.int _) (by first | omega | (simp (disch := omega) only [lnB, Z2, Z7] <;> omega) | (simp; done) | (simp <;> omega))) | ((conv => whnf); refine ⟨?_, ?_⟩) | exact trivial | (simp only [ren, renB]; done) | rfl))), ?_⟩
   rintro i ⟨hi, hd⟩
   dsimp only at hi hd ⊢
   conv => whnf
   rcases Nat.lt_or_ge i xs.length with him | him
   · obtain ⟨hx1, hx2⟩ := hxs _ (List.getElem_mem him)
     have hsub : Sm (xs[i].take (1 : Int).toNat) := by simp; omega
     repeat' ((first | refine DRAWN.of (id := 8) Z3 mixed WR (by kernel_rfl) ?_ | refine DRAWN.of (id := 10) Z3 mixed WS (by kernel_rfl) ?_ | refine ADD.mk (fun _ _ => ?_) | refine AD ?_ | refine FORK.mk ?_ ?_ | (refine GET.at (row := Zb (xs[i]'(by omega))) (by rw [List.getElem?_map, show 0 + (i : Int).toNat = i by simp, List.getElem?_eq_getElem (by omega)]; rfl) ?_; conv => whnf) | (refine GET.at (row := Zb w) (by rw [List.getElem?_map, show 0 + (0 : Int).toNat = 0 by simp, hl0]; rfl) ?_; conv => whnf) | refine CALL.value (Yj _ hsub) rfl rfl ?_ | refine CALL.value (Yj _ hwl) rfl rfl ?_ | refine AU ?_ | (refine IW (fun h => ?_) (fun h => ?_) <;> try (exfalso; omega))) <;> conv => whnf)
     · have hdup : dupM xs w = true := by rw [hd, Z78 him, beq_iff_eq.2 h]; rfl
       refine FIN.aA h0 [4] (.bool false) [(0, rd6 (a + 1 + c) (m - c)), (2, tg6 L E S R 3 v 5 xs.length P), (5, .rows 1 (xs.map Zb))] ?_
       exact ⟨c, xs, hn.symm, by rw [hdup]; rfl, by simp [hdup], rfl, rfl⟩
     · refine ⟨i + 1, ⟨by omega, ?_⟩, by omega, ?_⟩
       · rw [hd, Z78 him]
         have : (Zd (xs[i].take 1) == Zd w) = false := by simpa using h
         rw [this, Bool.false_or]
       · conv => whnf
         (refine GOES.keeping h0 [5] rfl rfl rfl (by first | rfl | (simp only [Z6, Z4, Z0 _ (Z1 _), Bool.and_self, Bool.and_true] <;> rfl)) ?_ ?_ <;> (repeat' (first | (with_reducible rfl) | (exact Z8 (Z1 _) (Z5 _ (Z1 _))) | (exact Z8 (Z1 _) (by simp [Zb, Zw, List.take_of_length_le])) | (exact Zp rfl (by first | (simp; done) | omega | (simp; omega))) | (exact congrArg (SV.int _) (by first | omega | (simp (disch := omega) only [lnB, Z2, Z7] <;> omega) | (simp; done) | (simp <;> omega))) | ((conv => whnf); refine ⟨?_, ?_⟩) | exact trivial | (simp only [ren, renB]; done) | rfl)))
   · have hdup : dupM xs w = false := by rw [hd, List.drop_eq_nil_of_le (by omega)]; rfl
     repeat' ((first | refine DRAWN.of (id := 8) Z3 mixed WR (by kernel_rfl) ?_ | refine DRAWN.of (id := 10) Z3 mixed WS (by kernel_rfl) ?_ | refine ADD.mk (fun _ _ => ?_) | refine AD ?_ | refine FORK.mk ?_ ?_ | refine AU ?_ | (refine IW (fun h => ?_) (fun h => ?_) <;> try (exfalso; omega))) <;> conv => whnf)
     refine CALL.aA [5] (Xv l (by omega) 0 l.length (by omega)) ?_
     rintro r O' nx' ⟨z, hz, hzw, rfl, rfl, rfl⟩
     conv => whnf
     repeat' ((first | refine DRAWN.of (id := 8) Z3 mixed WR (by kernel_rfl) ?_ | refine DRAWN.of (id := 10) Z3 mixed WS (by kernel_rfl) ?_ | refine ADD.mk (fun _ _ => ?_) | refine AD ?_ | refine FORK.mk ?_ ?_ | refine AU ?_ | (refine IW (fun h => ?_) (fun h => ?_) <;> try (exfalso; omega))) <;> conv => whnf)
     obtain ⟨t, rfl⟩ := hzw w hl0
     have e : (xs ++ [w ++ t]).length = xs.length + 1 := by simp
     have ec : decide ((1 : Int) < (l.length : Int)) = decide (c ≠ 0) := decide_eq_decide.2 (by omega)
     rw [ec]
     refine FIN.aA h0 [7] (.bool (decide (c ≠ 0))) [(0, rd6 (a + 1 + c) (m - c)), (2, tg6 L E S R 3 v 5 (xs.length + 1) P), (5, .rows 1 ((xs ++ [w ++ t]).map Zb))] ?_
     exact ⟨c, xs ++ [w ++ t], hn.symm, by rw [hdup]; rfl, fun _ => ⟨_, rfl, by rw [List.take_append_of_le_length (by omega), List.take_of_length_le (by omega)], by omega⟩, by rw [e], rfl⟩
theorem Wq (ps : List (List UInt8)) (hb : XY ps + ps.length ≤ 34359738368) (a m : Nat) (ham : a + m = ps.length) (ha : a < ps.length)
   (L E S R : List UInt8) (v x : Nat) (P : List UInt8) :
   Does Tryz.prog tab 229 5 [.ptr (.loc 0) 0 0 0, .ptr (.loc 2) 0 0 0] [(2, tg6 L E S R 3 v 4 x P)] [(0, rd6 a m), (1, .rows 1 (ps.map Zb))]
     (fun r O nx => ∃ P', r = .bool (decide (ZK (Yl 1) (ps.drop (a + 1)) ≠ 0 ∧ ZK (Yl 1) (ps.drop (a + 1)) = (ps.drop (a + 1)).length)) ∧ O = [(2, tg6 L E S R 3 v 4 x P')] ∧ nx = 5) := by
 have hsm := UV (ps := ps) (by omega)
 have hspan := JZ (Yl 1) (ps.drop (a + 1))
 rw [List.length_drop] at hspan ⊢
 refine Does.enter Z3 (g := 229) (fn := Tryz.f229) Tryz.call229 Tryz.func229 rfl 40 rfl rfl [.tmp 4] rfl ?_
 intro w0 F η0 h0
 conv => whnf
 refine CALL.aA [1] (Xv ps (by omega) a m ham) ?_
 rintro r O' nx' ⟨z, hz, _, rfl, rfl, rfl⟩
 conv => whnf
 refine IF.mk (fun h => ?_) (fun h => ?_)
 · have h : m < 2 := by simp at h; omega
   conv => whnf
   exact FIN.here h0 (rc := .bool _) (Oc := [(2, tg6 L E S R 3 v 4 x z)]) rfl rfl rfl ⟨rfl, trivial⟩ ⟨z, congrArg SV.bool (decide_eq_false (by omega)).symm, rfl, rfl⟩
 have h : 2 ≤ m := by simp at h; omega
 conv => whnf
 refine LOOP.go Z3 [0] (X := Nat) (fun i => 1 ≤ i ∧ i ≤ m ∧ ZK (Yl 1) (ps.drop (a + 1)) = (i - 1) + ZK (Yl 1) (ps.drop (a + i))) (fun i => [(5, .int .i64 (i : Int))]) (fun i => [(2, tg6 L E S R 3 v 4 x z)]) 5 (fun i => m - i) 1 ⟨by omega, by omega, by simp⟩ ?_
 conv => whnf
 refine ⟨by exact GOES.cA h0, ?_⟩
 rintro i ⟨hi1, hi, hx⟩
 dsimp only at hi1 hi hx ⊢
 conv => whnf
 rcases Nat.lt_or_ge i m with him | him
 · have hlt : a + i < ps.length := by omega
   have hs := hsm _ (List.getElem_mem hlt)
   rw [List.drop_eq_getElem_cons hlt] at hx
   simp only [ZK] at hx
   repeat' ((first | (refine GET.at (row := Zb (ps[a + i]'(by omega))) (by rw [List.getElem?_map, show a + (i : Int).toNat = a + i by simp, List.getElem?_eq_getElem (by omega)]; rfl) ?_; conv => whnf) | refine CALL.value (JB _ _ _ hs) rfl rfl ?_ | refine AU ?_ | (refine IW (fun h => ?_) (fun h => ?_) <;> try (exfalso; omega))) <;> conv => whnf)
   · rw [if_neg (by simp [Yl, h])] at hx
     exact FIN.here h0 (rc := .bool _) (Oc := [(2, tg6 L E S R 3 v 4 x z)]) rfl rfl rfl ⟨rfl, trivial⟩ ⟨z, congrArg SV.bool (decide_eq_false (by omega)).symm, rfl, rfl⟩
   · rw [if_pos (by simp [Yl, h])] at hx
     refine ⟨i + 1, ⟨by omega, by omega, by rw [hx, show a + (i + 1) = a + i + 1 by omega]; omega⟩, by omega, ?_⟩
     conv => whnf
     exact GOES.cA h0
 · rw [show ps.drop (a + i) = [] from List.drop_eq_nil_of_le (by omega)] at hx
   simp only [ZK] at hx
   repeat' ((first | refine AU ?_ | (refine IW (fun h => ?_) (fun h => ?_) <;> try (exfalso; omega))) <;> conv => whnf)
   exact FIN.here h0 (rc := .bool _) (Oc := [(2, tg6 L E S R 3 v 4 x z)]) rfl rfl rfl ⟨rfl, trivial⟩ ⟨z, congrArg SV.bool (decide_eq_true (by omega)).symm, rfl, rfl⟩
end Go.Proofs.YtbfbokdccdagkaaGreatDoor
