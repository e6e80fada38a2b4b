/- Part 12: Tag7, Tag8. Conditions: as each part says. -/
import Derived.Test.YtjbbkimodgffiaaGreatDoorInW9
set_option linter.unusedVariables false
set_option linter.unusedSimpArgs false
set_option maxRecDepth 20000
set_option maxHeartbeats 8000000
namespace Go.Proofs.YtjbbkimodgffiaaGreatDoor
open Go.Sx Go.Our
def Z0B : Plan := (Zj [(0, 1), (1, 1), (2, 1), (4, 1), (9, 1), (10, 1), (3, 2), (5, 1), (6, 2), (7, 1), (11, 2), (8, 3), (12, 3), (13, 1)])
def Z0C : Plan := (Zj [(0, 1), (1, 1), (2, 1), (3, 1), (5, 1), (4, 2), (6, 3), (7, 3), (8, 0), (9, 1), (10, 1), (11, 0)])
def dupM (xs : List (List UInt8)) (w : List UInt8) : Bool := xs.any fun x => Zd (x.take 1) == Zd w
theorem Z8D {xs : List (List UInt8)} {w : List UInt8} {i : Nat} (h : i < xs.length) : dupM (xs.drop i) w = (Zd (xs[i].take 1) == Zd w || dupM (xs.drop (i + 1)) w) := by
 unfold dupM; rw [List.drop_eq_getElem_cons h]; rfl
theorem Uz (ps : List (List UInt8)) (hb : J8 ps + ps.length ≤ 34359738368) (a m : Nat) (ham : a + (m + 1) = ps.length) (w : List UInt8) (hw : ps[a]? = some w) (hw1 : w.length = 1)
   (L E S R : List UInt8) (v : Nat) (P : List UInt8) (xs : List (List UInt8)) (hxs : ∀ x ∈ xs, 1 ≤ x.length ∧ Sm x) (hxl : xs.length ≤ 34359738368) :
   Does Tryz.prog tab 166 5 [.ptr (.loc 0) 0 0 0, .ptr (.loc 2) 0 0 0] [(0, rd6 a (m + 1)), (2, tg6 L E S R 3 v 4 xs.length P), (4, .rows 1 (xs.map Zb))] [(1, .rows 1 (ps.map Zb))]
     (fun r O nx => ∃ (n : Nat) (xs' : List (List UInt8)), n = ZO (Yk 2) (ps.drop (a + 1)) ∧ r = .bool (!dupM xs w && decide (n ≠ 0)) ∧ (dupM xs w = false → ∃ z, xs' = xs ++ [z] ∧ z.take 1 = w ∧ Sm z) ∧
       O = [(0, rd6 (a + 1 + n) (m - n)), (2, tg6 L E S R 3 v 5 xs'.length P), (5, .rows 1 (xs'.map Zb))] ∧ nx = 6) := by
 have hsm := Wz (ps := ps) (by omega)
 have hwl : Sm w := hsm w (List.mem_of_getElem? hw)
 refine Does.enter Z2 (g := 166) (fn := Tryz.f166) Tryz.call166 Tryz.func166 rfl 69 rfl rfl [.tmp 4] rfl ?_
 intro w0 F η0 h0
 conv => whnf
 refine CALL.aA [0, 1] (Yq ps a m ham w hw) ?_
 rintro r O' nx' ⟨rfl, rfl, rfl⟩
 conv => whnf
 refine LOOP.go Z2 [0, 1] (X := Nat × List (List UInt8)) (fun y => y.1 ≤ m ∧ y.2.length = y.1 + 1 ∧ y.2[0]? = some w ∧ J8 y.2 ≤ ((ps.take (a + 1 + y.1)).map List.length).sum ∧ ZO (Yk 2) (ps.drop (a + 1)) = y.1 + ZO (Yk 2) (ps.drop (a + 1 + y.1))) (fun y => [(5, .sl (.loc 5) 0 1 y.2.length none)]) (fun y => [(0, rd6 (a + 1 + y.1) (m - y.1)), (2, tg6 L E S R 3 v 4 xs.length P), (4, .rows 1 (xs.map Zb)), (5, .rows 1 (y.2.map Zb))]) 6 (fun y => m - y.1) (0, [w]) ⟨by simp, by simp, by simp, ?_, by simp⟩ ?_
 · simp only [Nat.add_zero]
   rw [Wh hw]; simp [J8]
 conv => whnf
 refine ⟨by (refine GOES.keeping h0 [5] rfl rfl rfl (by first | rfl | (simp only [Z7, Z3, Z0 _ (Z1 _), Bool.and_self, Bool.and_true] <;> rfl)) ?_ ?_ <;> (repeat' (first | (with_reducible rfl) | (exact Za (Z1 _) (Z6 _ (Z1 _))) | (exact Za (Z1 _) (by simp [Zb, ZK, List.take_of_length_le])) | (exact Zu rfl (by first | (simp; done) | omega | (simp; omega))) | (exact congrArg (SV.int _) (by first | omega | (simp (disch := omega) only [lnB, Z5, Z9] <;> omega) | (simp; done) | (simp <;> omega))) | ((conv => whnf); refine ⟨?_, ?_⟩) | exact trivial | (simp only [ren, renB]; done) | rfl))), ?_⟩
 rintro ⟨c, l⟩ ⟨hc, hl, hl0, hlb, hx⟩
 dsimp only at hc hl hl0 hlb hx ⊢
 have hlt0 := Yp ps (a + 1 + c)
 have out : ∀ (n : Nat), ZO (Yk 2) (ps.drop (a + 1 + c)) = 0 → ZO (Yk 2) (ps.drop (a + 1)) = c := by intro n h; omega
 conv => whnf
 rcases Nat.lt_or_ge c m with hcm | hcm
 · have hlt : a + 1 + c < ps.length := by omega
   have hs := hsm _ (List.getElem_mem hlt)
   have hs1 := Wh (List.getElem?_eq_getElem hlt)
   repeat' ((first | (refine GET.at (row := Zb (ps[a + 1 + c]'(by omega))) (by rw [List.getElem?_map, show a + 1 + c + (0 : Int).toNat = a + 1 + c by simp, List.getElem?_eq_getElem (by omega)]; rfl) ?_; conv => whnf) | refine CALL.value (JR _ _ _ hs) rfl rfl ?_ | refine AU ?_ | (refine IW (fun h => ?_) (fun h => ?_) <;> try (exfalso; omega))) <;> conv => whnf)
   · obtain ⟨k', hk'⟩ : ∃ k', m - c = k' + 1 := ⟨m - c - 1, by omega⟩
     rw [hk']
     refine CALL.aA [0, 1] (Yq ps (a + 1 + c) k' (by omega) _ (List.getElem?_eq_getElem hlt)) ?_
     rintro r O' nx' ⟨rfl, rfl, rfl⟩
     conv => whnf
     repeat' ((first | refine AU ?_ | (refine IW (fun h => ?_) (fun h => ?_) <;> try (exfalso; omega))) <;> conv => whnf)
     have e : (l ++ [ps[a + 1 + c]]).length = l.length + 1 := by simp
     refine ⟨(c + 1, l ++ [ps[a + 1 + c]]), ⟨by simp only; omega, by simp; omega, by simp only; rw [List.getElem?_append_left (by omega), hl0], ?_, ?_⟩, by simp only; omega, ?_⟩
     · simp only
       rw [show a + 1 + (c + 1) = a + 1 + c + 1 by omega, hs1]
       simp [J8] at hlb ⊢; omega
     · simp only
       rw [hx, List.drop_eq_getElem_cons hlt]
       simp only [ZO]
       rw [if_pos h]
       show c + (ZO _ _ + 1) = _
       rw [show a + 1 + (c + 1) = a + 1 + c + 1 by omega]; omega
     · dsimp only
       rw [e, show a + 1 + (c + 1) = a + 1 + c + 1 by omega, show m - (c + 1) = k' by omega]
       conv => whnf
       (refine GOES.keeping h0 [7] rfl rfl rfl (by first | rfl | (simp only [Z7, Z3, Z0 _ (Z1 _), Bool.and_self, Bool.and_true] <;> rfl)) ?_ ?_ <;> (repeat' (first | (with_reducible rfl) | (exact Za (Z1 _) (Z6 _ (Z1 _))) | (exact Za (Z1 _) (by simp [Zb, ZK, List.take_of_length_le])) | (exact Zu rfl (by first | (simp; done) | omega | (simp; omega))) | (exact congrArg (SV.int _) (by first | omega | (simp (disch := omega) only [lnB, Z5, Z9] <;> omega) | (simp; done) | (simp <;> omega))) | ((conv => whnf); refine ⟨?_, ?_⟩) | exact trivial | (simp only [ren, renB]; done) | rfl)))
   · have hn : ZO (Yk 2) (ps.drop (a + 1)) = c := by
       rw [hx, List.drop_eq_getElem_cons hlt]; simp only [ZO]; rw [if_neg (by simp [h])]; rfl
     refine LOOP.go Z2 [1, 5] (X := Nat) (fun i => i ≤ xs.length ∧ dupM xs w = dupM (xs.drop i) w) (fun i => [(7, .int .i64 (i : Int))]) (fun i => [(0, rd6 (a + 1 + c) (m - c)), (2, tg6 L E S R 3 v 4 xs.length P), (4, .rows 1 (xs.map Zb)), (5, .rows 1 (l.map Zb))]) 6 (fun i => xs.length - i) 0 ⟨by omega, rfl⟩ ?_
     conv => whnf
     refine ⟨by (refine GOES.keeping h0 [5] rfl rfl rfl (by first | rfl | (simp only [Z7, Z3, Z0 _ (Z1 _), Bool.and_self, Bool.and_true] <;> rfl)) ?_ ?_ <;> (repeat' (first | (with_reducible rfl) | (exact Za (Z1 _) (Z6 _ (Z1 _))) | (exact Za (Z1 _) (by simp [Zb, ZK, List.take_of_length_le])) | (exact Zu rfl (by first | (simp; done) | omega | (simp; omega))) | (exact congrArg (SV.int _) (by first | omega | (simp (disch := omega) only [lnB, Z5, Z9] <;> omega) | (simp; done) | (simp <;> omega))) | ((conv => whnf); refine ⟨?_, ?_⟩) | exact trivial | (simp only [ren, renB]; done) | rfl))), ?_⟩
     rintro i ⟨hi, hd⟩
     dsimp only at hi hd ⊢
     conv => whnf
     rcases Nat.lt_or_ge i xs.length with him | him
     · obtain ⟨hx1, hx2⟩ := hxs _ (List.getElem_mem him)
       have hsub : Sm (xs[i].take (1 : Int).toNat) := by simp; omega
       repeat' ((first | refine DRAWN.of (id := 8) Z2 Z8 Z0B (by kernel_rfl) ?_ | refine DRAWN.of (id := 10) Z2 Z8 Z0C (by kernel_rfl) ?_ | refine ADD.mk (fun _ _ => ?_) | refine AD ?_ | refine FORK.mk ?_ ?_ | (refine GET.at (row := Zb (xs[i]'(by omega))) (by rw [List.getElem?_map, show 0 + (i : Int).toNat = i by simp, List.getElem?_eq_getElem (by omega)]; rfl) ?_; conv => whnf) | (refine GET.at (row := Zb w) (by rw [List.getElem?_map, show 0 + (0 : Int).toNat = 0 by simp, hl0]; rfl) ?_; conv => whnf) | refine CALL.value (Yg _ hsub) rfl rfl ?_ | refine CALL.value (Yg _ hwl) rfl rfl ?_ | refine AU ?_ | (refine IW (fun h => ?_) (fun h => ?_) <;> try (exfalso; omega))) <;> conv => whnf)
       · have hdup : dupM xs w = true := by rw [hd, Z8D him, beq_iff_eq.2 h]; rfl
         refine FIN.aA h0 [4] (.bool false) [(0, rd6 (a + 1 + c) (m - c)), (2, tg6 L E S R 3 v 5 xs.length P), (5, .rows 1 (xs.map Zb))] ?_
         exact ⟨c, xs, hn.symm, by rw [hdup]; rfl, by simp [hdup], rfl, rfl⟩
       · refine ⟨i + 1, ⟨by omega, ?_⟩, by omega, ?_⟩
         · rw [hd, Z8D him]
           have : (Zd (xs[i].take 1) == Zd w) = false := by simpa using h
           rw [this, Bool.false_or]
         · conv => whnf
           (refine GOES.keeping h0 [5] rfl rfl rfl (by first | rfl | (simp only [Z7, Z3, Z0 _ (Z1 _), Bool.and_self, Bool.and_true] <;> rfl)) ?_ ?_ <;> (repeat' (first | (with_reducible rfl) | (exact Za (Z1 _) (Z6 _ (Z1 _))) | (exact Za (Z1 _) (by simp [Zb, ZK, List.take_of_length_le])) | (exact Zu rfl (by first | (simp; done) | omega | (simp; omega))) | (exact congrArg (SV.int _) (by first | omega | (simp (disch := omega) only [lnB, Z5, Z9] <;> omega) | (simp; done) | (simp <;> omega))) | ((conv => whnf); refine ⟨?_, ?_⟩) | exact trivial | (simp only [ren, renB]; done) | rfl)))
     · have hdup : dupM xs w = false := by rw [hd, List.drop_eq_nil_of_le (by omega)]; rfl
       repeat' ((first | refine DRAWN.of (id := 8) Z2 Z8 Z0B (by kernel_rfl) ?_ | refine DRAWN.of (id := 10) Z2 Z8 Z0C (by kernel_rfl) ?_ | refine ADD.mk (fun _ _ => ?_) | refine AD ?_ | refine FORK.mk ?_ ?_ | refine AU ?_ | (refine IW (fun h => ?_) (fun h => ?_) <;> try (exfalso; omega))) <;> conv => whnf)
       refine CALL.aA [5] (XC l (by omega) 0 l.length (by omega)) ?_
       rintro r O' nx' ⟨z, hz, hzw, rfl, rfl, rfl⟩
       conv => whnf
       repeat' ((first | refine DRAWN.of (id := 8) Z2 Z8 Z0B (by kernel_rfl) ?_ | refine DRAWN.of (id := 10) Z2 Z8 Z0C (by kernel_rfl) ?_ | refine ADD.mk (fun _ _ => ?_) | refine AD ?_ | refine FORK.mk ?_ ?_ | refine AU ?_ | (refine IW (fun h => ?_) (fun h => ?_) <;> try (exfalso; omega))) <;> conv => whnf)
       obtain ⟨t, rfl⟩ := hzw w hl0
       have e : (xs ++ [w ++ t]).length = xs.length + 1 := by simp
       have ec : decide ((1 : Int) < (l.length : Int)) = decide (c ≠ 0) := decide_eq_decide.2 (by omega)
       rw [ec]
       refine FIN.aA h0 [7] (.bool (decide (c ≠ 0))) [(0, rd6 (a + 1 + c) (m - c)), (2, tg6 L E S R 3 v 5 (xs.length + 1) P), (5, .rows 1 ((xs ++ [w ++ t]).map Zb))] ?_
       exact ⟨c, xs ++ [w ++ t], hn.symm, by rw [hdup]; rfl, fun _ => ⟨_, rfl, by rw [List.take_append_of_le_length (by omega), List.take_of_length_le (by omega)], by omega⟩, by rw [e], rfl⟩
 · repeat' ((first | refine AU ?_ | (refine IW (fun h => ?_) (fun h => ?_) <;> try (exfalso; omega))) <;> conv => whnf)
   have hn : ZO (Yk 2) (ps.drop (a + 1)) = c := by
     rw [hx, List.drop_eq_nil_of_le (by omega)]; rfl
   refine LOOP.go Z2 [1, 5] (X := Nat) (fun i => i ≤ xs.length ∧ dupM xs w = dupM (xs.drop i) w) (fun i => [(7, .int .i64 (i : Int))]) (fun i => [(0, rd6 (a + 1 + c) (m - c)), (2, tg6 L E S R 3 v 4 xs.length P), (4, .rows 1 (xs.map Zb)), (5, .rows 1 (l.map Zb))]) 6 (fun i => xs.length - i) 0 ⟨by omega, rfl⟩ ?_
   conv => whnf
   refine ⟨by (refine GOES.keeping h0 [5] rfl rfl rfl (by first | rfl | (simp only [Z7, Z3, Z0 _ (Z1 _), Bool.and_self, Bool.and_true] <;> rfl)) ?_ ?_ <;> (repeat' (first | (with_reducible rfl) | (exact Za (Z1 _) (Z6 _ (Z1 _))) | (exact Za (Z1 _) (by simp [Zb, ZK, List.take_of_length_le])) | (exact Zu rfl (by first | (simp; done) | omega | (simp; omega))) | (exact congrArg (SV.int _) (by first | omega | (simp (disch := omega) only [lnB, Z5, Z9] <;> omega) | (simp; done) | (simp <;> omega))) | ((conv => whnf); refine ⟨?_, ?_⟩) | exact trivial | (simp only [ren, renB]; done) | rfl))), ?_⟩
   rintro i ⟨hi, hd⟩
   dsimp only at hi hd ⊢
   conv => whnf
   rcases Nat.lt_or_ge i xs.length with him | him
   · obtain ⟨hx1, hx2⟩ := hxs _ (List.getElem_mem him)
     have hsub : Sm (xs[i].take (1 : Int).toNat) := by simp; omega
     repeat' ((first | refine DRAWN.of (id := 8) Z2 Z8 Z0B (by kernel_rfl) ?_ | refine DRAWN.of (id := 10) Z2 Z8 Z0C (by kernel_rfl) ?_ | refine ADD.mk (fun _ _ => ?_) | refine AD ?_ | refine FORK.mk ?_ ?_ | (refine GET.at (row := Zb (xs[i]'(by omega))) (by rw [List.getElem?_map, show 0 + (i : Int).toNat = i by simp, List.getElem?_eq_getElem (by omega)]; rfl) ?_; conv => whnf) | (refine GET.at (row := Zb w) (by rw [List.getElem?_map, show 0 + (0 : Int).toNat = 0 by simp, hl0]; rfl) ?_; conv => whnf) | refine CALL.value (Yg _ hsub) rfl rfl ?_ | refine CALL.value (Yg _ hwl) rfl rfl ?_ | refine AU ?_ | (refine IW (fun h => ?_) (fun h => ?_) <;> try (exfalso; omega))) <;> conv => whnf)
     · have hdup : dupM xs w = true := by rw [hd, Z8D him, beq_iff_eq.2 h]; rfl
       refine FIN.aA h0 [4] (.bool false) [(0, rd6 (a + 1 + c) (m - c)), (2, tg6 L E S R 3 v 5 xs.length P), (5, .rows 1 (xs.map Zb))] ?_
       exact ⟨c, xs, hn.symm, by rw [hdup]; rfl, by simp [hdup], rfl, rfl⟩
     · refine ⟨i + 1, ⟨by omega, ?_⟩, by omega, ?_⟩
       · rw [hd, Z8D him]
         have : (Zd (xs[i].take 1) == Zd w) = false := by simpa using h
         rw [this, Bool.false_or]
       · conv => whnf
         (refine GOES.keeping h0 [5] rfl rfl rfl (by first | rfl | (simp only [Z7, Z3, Z0 _ (Z1 _), Bool.and_self, Bool.and_true] <;> rfl)) ?_ ?_ <;> (repeat' (first | (with_reducible rfl) | (exact Za (Z1 _) (Z6 _ (Z1 _))) | (exact Za (Z1 _) (by simp [Zb, ZK, List.take_of_length_le])) | (exact Zu rfl (by first | (simp; done) | omega | (simp; omega))) | (exact congrArg (SV.int _) (by first | omega | (simp (disch := omega) only [lnB, Z5, Z9] <;> omega) | (simp; done) | (simp <;> omega))) | ((conv => whnf); refine ⟨?_, ?_⟩) | exact trivial | (simp only [ren, renB]; done) | rfl)))
   · have hdup : dupM xs w = false := by rw [hd, List.drop_eq_nil_of_le (by omega)]; rfl
     repeat' ((first | refine DRAWN.of (id := 8) Z2 Z8 Z0B (by kernel_rfl) ?_ | refine DRAWN.of (id := 10) Z2 Z8 Z0C (by kernel_rfl) ?_ | refine ADD.mk (fun _ _ => ?_) | refine AD ?_ | refine FORK.mk ?_ ?_ | refine AU ?_ | (refine IW (fun h => ?_) (fun h => ?_) <;> try (exfalso; omega))) <;> conv => whnf)
     refine CALL.aA [5] (XC l (by omega) 0 l.length (by omega)) ?_
     rintro r O' nx' ⟨z, hz, hzw, rfl, rfl, rfl⟩
     conv => whnf
     repeat' ((first | refine DRAWN.of (id := 8) Z2 Z8 Z0B (by kernel_rfl) ?_ | refine DRAWN.of (id := 10) Z2 Z8 Z0C (by kernel_rfl) ?_ | refine ADD.mk (fun _ _ => ?_) | refine AD ?_ | refine FORK.mk ?_ ?_ | refine AU ?_ | (refine IW (fun h => ?_) (fun h => ?_) <;> try (exfalso; omega))) <;> conv => whnf)
     obtain ⟨t, rfl⟩ := hzw w hl0
     have e : (xs ++ [w ++ t]).length = xs.length + 1 := by simp
     have ec : decide ((1 : Int) < (l.length : Int)) = decide (c ≠ 0) := decide_eq_decide.2 (by omega)
     rw [ec]
     refine FIN.aA h0 [7] (.bool (decide (c ≠ 0))) [(0, rd6 (a + 1 + c) (m - c)), (2, tg6 L E S R 3 v 5 (xs.length + 1) P), (5, .rows 1 ((xs ++ [w ++ t]).map Zb))] ?_
     exact ⟨c, xs ++ [w ++ t], hn.symm, by rw [hdup]; rfl, fun _ => ⟨_, rfl, by rw [List.take_append_of_le_length (by omega), List.take_of_length_le (by omega)], by omega⟩, by rw [e], rfl⟩
theorem Z00 (ps : List (List UInt8)) (hb : J8 ps + ps.length ≤ 34359738368) (a m : Nat) (ham : a + m = ps.length) (ha : a < ps.length)
   (L E S R : List UInt8) (v x : Nat) (P : List UInt8) :
   Does Tryz.prog tab 167 5 [.ptr (.loc 0) 0 0 0, .ptr (.loc 2) 0 0 0] [(2, tg6 L E S R 3 v 4 x P)] [(0, rd6 a m), (1, .rows 1 (ps.map Zb))]
     (fun r O nx => ∃ P', r = .bool (decide (ZO (Yk 1) (ps.drop (a + 1)) ≠ 0 ∧ ZO (Yk 1) (ps.drop (a + 1)) = (ps.drop (a + 1)).length)) ∧ O = [(2, tg6 L E S R 3 v 4 x P')] ∧ nx = 5) := by
 have hsm := Wz (ps := ps) (by omega)
 have hspan := Vh (Yk 1) (ps.drop (a + 1))
 rw [List.length_drop] at hspan ⊢
 refine Does.enter Z2 (g := 167) (fn := Tryz.f167) Tryz.call167 Tryz.func167 rfl 40 rfl rfl [.tmp 4] rfl ?_
 intro w0 F η0 h0
 conv => whnf
 refine CALL.aA [1] (XC ps (by omega) a m ham) ?_
 rintro r O' nx' ⟨z, hz, _, rfl, rfl, rfl⟩
 conv => whnf
 refine IF.mk (fun h => ?_) (fun h => ?_)
 · have h : m < 2 := by simp at h; omega
   conv => whnf
   exact FIN.here h0 (rc := .bool _) (Oc := [(2, tg6 L E S R 3 v 4 x z)]) rfl rfl rfl ⟨rfl, trivial⟩ ⟨z, congrArg SV.bool (decide_eq_false (by omega)).symm, rfl, rfl⟩
 have h : 2 ≤ m := by simp at h; omega
 conv => whnf
 refine LOOP.go Z2 [0] (X := Nat) (fun i => 1 ≤ i ∧ i ≤ m ∧ ZO (Yk 1) (ps.drop (a + 1)) = (i - 1) + ZO (Yk 1) (ps.drop (a + i))) (fun i => [(5, .int .i64 (i : Int))]) (fun i => [(2, tg6 L E S R 3 v 4 x z)]) 5 (fun i => m - i) 1 ⟨by omega, by omega, by simp⟩ ?_
 conv => whnf
 refine ⟨by exact GOES.cA h0, ?_⟩
 rintro i ⟨hi1, hi, hx⟩
 dsimp only at hi1 hi hx ⊢
 conv => whnf
 rcases Nat.lt_or_ge i m with him | him
 · have hlt : a + i < ps.length := by omega
   have hs := hsm _ (List.getElem_mem hlt)
   rw [List.drop_eq_getElem_cons hlt] at hx
   simp only [ZO] at hx
   repeat' ((first | (refine GET.at (row := Zb (ps[a + i]'(by omega))) (by rw [List.getElem?_map, show a + (i : Int).toNat = a + i by simp, List.getElem?_eq_getElem (by omega)]; rfl) ?_; conv => whnf) | refine CALL.value (JR _ _ _ hs) rfl rfl ?_ | refine AU ?_ | (refine IW (fun h => ?_) (fun h => ?_) <;> try (exfalso; omega))) <;> conv => whnf)
   · rw [if_neg (by simp [Yk, h])] at hx
     exact FIN.here h0 (rc := .bool _) (Oc := [(2, tg6 L E S R 3 v 4 x z)]) rfl rfl rfl ⟨rfl, trivial⟩ ⟨z, congrArg SV.bool (decide_eq_false (by omega)).symm, rfl, rfl⟩
   · rw [if_pos (by simp [Yk, h])] at hx
     refine ⟨i + 1, ⟨by omega, by omega, by rw [hx, show a + (i + 1) = a + i + 1 by omega]; omega⟩, by omega, ?_⟩
     conv => whnf
     exact GOES.cA h0
 · rw [show ps.drop (a + i) = [] from List.drop_eq_nil_of_le (by omega)] at hx
   simp only [ZO] at hx
   repeat' ((first | refine AU ?_ | (refine IW (fun h => ?_) (fun h => ?_) <;> try (exfalso; omega))) <;> conv => whnf)
   exact FIN.here h0 (rc := .bool _) (Oc := [(2, tg6 L E S R 3 v 4 x z)]) rfl rfl rfl ⟨rfl, trivial⟩ ⟨z, congrArg SV.bool (decide_eq_true (by omega)).symm, rfl, rfl⟩
end Go.Proofs.YtjbbkimodgffiaaGreatDoor
namespace Go.Proofs.YtjbbkimodgffiaaGreatDoor
open Go.Sx Go.Our
theorem Zfa (s : List UInt8) : (Zd s != [120]) = !ZV s := by rw [Yx]; rfl
def rd6' (i m : Nat) : Hp := .box [.sl (.loc 2) i 1 m none]
def tz6 : Hp := .box [.str [], .str [], .str [], .str [], .val (.slice none 0 0), .val (.slice none 0 0), .str []]
def frT : Fr := [(2, .ptr (.loc 0) 0 0 0), (4, .ptr (.loc 1) 0 0 0), (5, .ptr (.loc 3) 0 0 0)]
def OT (ps : List (List UInt8)) (a : Nat) (L E S R : List UInt8) : Hps := [(0, tz6), (1, tg6 L E S R 4 0 5 0 []), (2, .rows 1 (ps.map Zb)), (3, rd6' a (ps.length - a)), (4, .rows 1 []), (5, .rows 1 [])]
def Z01 (l : List (List UInt8)) : Bool := match Yo [] l with
 | none => false
 | some (l, seen) => match ZW seen l with
   | none => false
   | some l => Vi l
theorem Zfb : Z0v 4 4 false = fun s => ZH s 4 4 true := funext (Xz 4 4)
theorem Z30 {s : List UInt8} (h : XW s = true) : 4 ≤ s.length := by
 unfold XW at h
 simp only [Bool.or_eq_true, Bool.and_eq_true] at h
 rcases h with h | h
 · have := XY h; omega
 · have := XY h.1; omega
set_option maxHeartbeats 8000000 in
theorem ZbB (s : List UInt8) (hs : s.length ≤ 8589934592) : Does Tryz.prog tab 127 0 [.str s] [] [] (Val (.tup [.agg (anyN 7), .int .i64 (if tagP (Zr s) = true then 0 else 61)])) := by
 have hbulk := Z0u s
 have hlen := WX s
 have hne := Z1v s
 generalize hps : Zr s = ps at *
 have hb : J8 ps + ps.length ≤ 34359738368 := by unfold J8; omega
 have hsm := Wz (ps := ps) (by omega)
 obtain ⟨p0, hp0⟩ : ∃ p0, ps[0]? = some p0 := by
   cases ps with
   | nil => exact (hne rfl).elim
   | cons a t => exact ⟨a, rfl⟩
 have hp0l := hsm p0 (List.mem_of_getElem? hp0)
 have hhead : Z3V ZV ps = ZV p0 := by
   cases ps with
   | nil => cases hp0
   | cons a t => have : a = p0 := by simpa using hp0
                 subst this; rfl
 refine Does.enter Z2 (g := 127) (fn := Tryz.f127) Tryz.call127 Tryz.func127 rfl 152 rfl rfl [.cell 2 147, .tmp 3] rfl ?_
 intro w0 F η0 h0
 conv => whnf
 apply Z8j (X := Nat × List UInt8 × List UInt8 × List UInt8 × List UInt8) (n := 6) (fun x => tagP ps = Z01 (ps.drop x.1) ∧ x.1 ≤ ps.length) (fun _ => frT) (fun x => OT ps x.1 x.2.1 x.2.2.1 x.2.2.2.1 x.2.2.2.2)
 intro K
 refine CALL.newS (Z6q s (by omega)) rfl (Z1 _) ?_
 rw [hps, List.length_map]
 have hpos : 0 < ps.length := (List.getElem?_eq_some_iff.1 hp0).1
 conv => whnf
 repeat' ((first | (refine GET.at (row := Zb p0) (by rw [List.getElem?_map, show 0 + (0 : Int).toNat = 0 by simp, hp0]; rfl) ?_; conv => whnf) | refine AU ?_ | (refine IW (fun h => ?_) (fun h => ?_) <;> try (exfalso; omega))) <;> conv => whnf)
 refine CALL.nilCell 1 4 1 rfl rfl ?_
 refine CALL.nilCell 1 5 1 rfl rfl ?_
 refine CALL.value (Yg _ hp0l) rfl rfl ?_
 conv => whnf
 refine IF.mk (fun h => ?_) (fun h => ?_)
 · rw [Zfa] at h
   have hpr : Z3V ZV ps = false := by rw [hhead]; simpa using h
   have hcont : ∀ l, Jh (ps.drop 0) = some l → tagP ps = Z01 (XJ YP (XJ (fun s => ZH s 4 4 true) l)) := by
     intro l hl
     have hl : Jh ps = some l := hl
     unfold tagP Z01
     rw [if_neg (by simp [hpr]), hl]
     simp only [X3]
     cases Yo [] (XJ YP (XJ (fun s => ZH s 4 4 true) l)) with
     | none => rfl
     | some x => obtain ⟨l', seen⟩ := x; rfl
   conv => whnf
   refine CALL.aA [3, 2, 1, 4, 5] (Z3u ps (by omega) 0 ps.length (by omega)) ?_
   rintro r O' nx' ⟨i1, m1, L, E, him1, rfl, hL, rfl, rfl⟩
   cases h2 : Jh (ps.drop 0) with
   | none =>
     have htag : tagP ps = false := by
       have h2 : Jh ps = none := h2
       unfold tagP; rw [if_neg (by simp [hpr]), h2]
     rw [Option.isSome_none]
     conv => whnf
     repeat' ((first | refine AU ?_ | (refine IW (fun h => ?_) (fun h => ?_) <;> try (exfalso; omega))) <;> conv => whnf)
     refine FIN.anyA 7 h0 rfl rfl rfl ⟨?_, rfl, rfl⟩
     rw [htag]; rfl
   | some l1 =>
     obtain ⟨hl1, hLne⟩ := hL l1 h2
     subst hl1
     have hc1 := hcont _ h2
     rw [Option.isSome_some]
     conv => whnf
     repeat' ((first | (refine IF.yes (b := L != []) (by simpa using hLne) ?_; conv => whnf) | refine AU ?_ | (refine IW (fun h => ?_) (fun h => ?_) <;> try (exfalso; omega))) <;> conv => whnf)
     refine CALL.aA [3, 2] (J9 4 4 false ps hsm i1 m1 him1) ?_
     rintro r O' nx' ⟨rfl, rfl, rfl⟩
     rw [Zfb]
     conv => whnf
     (repeat (first | ((with_reducible refine IF.tt ?_); conv => whnf) | ((with_reducible refine IF.ff ?_); conv => whnf)))
     refine IF.mk (fun h4 => ?_) (fun h4 => ?_)
     · obtain ⟨w1, hw1, hwm1⟩ := ZM h4
       have hlt1 := (List.getElem?_eq_some_iff.1 hw1).1
       obtain ⟨k1, rfl⟩ : ∃ k1, m1 = k1 + 1 := ⟨m1 - 1, by omega⟩
       rw [V8 hw1 hwm1] at hc1
       conv => whnf
       refine CALL.aA [3, 2] (Yq ps i1 k1 him1 w1 hw1) ?_
       rintro r O' nx' ⟨rfl, rfl, rfl⟩
       conv => whnf
       repeat' ((first | (refine IF.yes (b := L != []) (by simpa using hLne) ?_; conv => whnf) | refine AU ?_ | (refine IW (fun h => ?_) (fun h => ?_) <;> try (exfalso; omega))) <;> conv => whnf)
       refine CALL.aA [3, 2] (J9 2 2 false ps hsm (i1 + 1) (k1) (by omega)) ?_
       rintro r O' nx' ⟨rfl, rfl, rfl⟩
       conv => whnf
       (repeat (first | ((with_reducible refine IF.tt ?_); conv => whnf) | ((with_reducible refine IF.ff ?_); conv => whnf)))
       refine IF.mk (fun h5 => ?_) (fun h5 => ?_)
       · have hsee : ∃ q, ps[i1 + 1]? = some q ∧ YP q = true := by
           obtain ⟨q, hq, hqm⟩ := ZM h5
           exact ⟨q, hq, by rw [XU, hqm]; rfl⟩
         conv => whnf
         repeat' ((first | refine AU ?_ | (refine IW (fun h => ?_) (fun h => ?_) <;> try (exfalso; omega))) <;> conv => whnf)
         obtain ⟨q, hq, hqm⟩ := hsee
         have hlt2 := (List.getElem?_eq_some_iff.1 hq).1
         obtain ⟨k2, hk2⟩ : ∃ k2, k1 = k2 + 1 := ⟨k1 - 1, by omega⟩
         have htag : tagP ps = Z01 (ps.drop (i1 + 1 + 1)) := by rw [hc1, V8 hq hqm]
         rw [hk2]
         conv => whnf
         refine CALL.aA [3, 2] (Yq ps (i1 + 1) k2 (by omega) q hq) ?_
         rintro r O' nx' ⟨rfl, rfl, rfl⟩
         conv => whnf
         refine LOOP.goes (fr' := frT) (O' := OT ps (i1 + 1 + 1) L E w1 q) (n1 := 6) ?_ (K (i1 + 1 + 1, L, E, w1, q) ⟨htag, by simp only; omega⟩)
         unfold frT OT
         rw [show ps.length - (i1 + 1 + 1) = k2 by omega]
         (refine GOES.keeping h0 [0, 1, 2, 3, 4, 5] rfl rfl rfl (by first | rfl | (simp only [Z7, Z3, Z0 _ (Z1 _), Bool.and_self, Bool.and_true] <;> rfl)) ?_ ?_ <;> (repeat' (first | (with_reducible rfl) | (exact Za (Z1 _) (Z6 _ (Z1 _))) | (exact Za (Z1 _) (by simp [Zb, ZK, List.take_of_length_le])) | (exact Zu rfl (by first | (simp; done) | omega | (simp; omega))) | (exact congrArg (SV.int _) (by first | omega | (simp (disch := omega) only [lnB, Z5, Z9] <;> omega) | (simp; done) | (simp <;> omega))) | ((conv => whnf); refine ⟨?_, ?_⟩) | exact trivial | (simp only [ren, renB]; done) | rfl)))
       · conv => whnf
         repeat' ((first | refine AU ?_ | (refine IW (fun h => ?_) (fun h => ?_) <;> try (exfalso; omega))) <;> conv => whnf)
         refine CALL.aA [3, 2] (J9 3 3 true ps hsm (i1 + 1) (k1) (by omega)) ?_
         rintro r O' nx' ⟨rfl, rfl, rfl⟩
         conv => whnf
         (repeat (first | ((with_reducible refine IF.tt ?_); conv => whnf) | ((with_reducible refine IF.ff ?_); conv => whnf)))
         refine IF.mk (fun h6 => ?_) (fun h6 => ?_)
         · have hsee : ∃ q, ps[i1 + 1]? = some q ∧ YP q = true := by
             obtain ⟨q, hq, hqm⟩ := ZM h6
             exact ⟨q, hq, by rw [XU, hqm, Bool.or_true]⟩
           conv => whnf
           repeat' ((first | refine AU ?_ | (refine IW (fun h => ?_) (fun h => ?_) <;> try (exfalso; omega))) <;> conv => whnf)
           obtain ⟨q, hq, hqm⟩ := hsee
           have hlt2 := (List.getElem?_eq_some_iff.1 hq).1
           obtain ⟨k2, hk2⟩ : ∃ k2, k1 = k2 + 1 := ⟨k1 - 1, by omega⟩
           have htag : tagP ps = Z01 (ps.drop (i1 + 1 + 1)) := by rw [hc1, V8 hq hqm]
           rw [hk2]
           conv => whnf
           refine CALL.aA [3, 2] (Yq ps (i1 + 1) k2 (by omega) q hq) ?_
           rintro r O' nx' ⟨rfl, rfl, rfl⟩
           conv => whnf
           refine LOOP.goes (fr' := frT) (O' := OT ps (i1 + 1 + 1) L E w1 q) (n1 := 6) ?_ (K (i1 + 1 + 1, L, E, w1, q) ⟨htag, by simp only; omega⟩)
           unfold frT OT
           rw [show ps.length - (i1 + 1 + 1) = k2 by omega]
           (refine GOES.keeping h0 [0, 1, 2, 3, 4, 5] rfl rfl rfl (by first | rfl | (simp only [Z7, Z3, Z0 _ (Z1 _), Bool.and_self, Bool.and_true] <;> rfl)) ?_ ?_ <;> (repeat' (first | (with_reducible rfl) | (exact Za (Z1 _) (Z6 _ (Z1 _))) | (exact Za (Z1 _) (by simp [Zb, ZK, List.take_of_length_le])) | (exact Zu rfl (by first | (simp; done) | omega | (simp; omega))) | (exact congrArg (SV.int _) (by first | omega | (simp (disch := omega) only [lnB, Z5, Z9] <;> omega) | (simp; done) | (simp <;> omega))) | ((conv => whnf); refine ⟨?_, ?_⟩) | exact trivial | (simp only [ren, renB]; done) | rfl)))
         · have hsee : Yd YP ps (i1 + 1) = false := by
             unfold Yd at *
             cases hq : ps[i1 + 1]? with
             | none => rfl
             | some q => rw [hq] at h5 h6; simp only at h5 h6 ⊢; rw [XU, h5]; exact h6
           have htag : tagP ps = Z01 (ps.drop (i1 + 1)) := by rw [hc1, Z0A hsee]
           conv => whnf
           repeat' ((first | refine AU ?_ | (refine IW (fun h => ?_) (fun h => ?_) <;> try (exfalso; omega))) <;> conv => whnf)
           refine LOOP.goes (fr' := frT) (O' := OT ps (i1 + 1) L E w1 []) (n1 := 6) ?_ (K (i1 + 1, L, E, w1, []) ⟨htag, by simp only; omega⟩)
           unfold frT OT
           rw [show ps.length - (i1 + 1) = k1 by omega]
           (refine GOES.keeping h0 [0, 1, 2, 3, 4, 5] rfl rfl rfl (by first | rfl | (simp only [Z7, Z3, Z0 _ (Z1 _), Bool.and_self, Bool.and_true] <;> rfl)) ?_ ?_ <;> (repeat' (first | (with_reducible rfl) | (exact Za (Z1 _) (Z6 _ (Z1 _))) | (exact Za (Z1 _) (by simp [Zb, ZK, List.take_of_length_le])) | (exact Zu rfl (by first | (simp; done) | omega | (simp; omega))) | (exact congrArg (SV.int _) (by first | omega | (simp (disch := omega) only [lnB, Z5, Z9] <;> omega) | (simp; done) | (simp <;> omega))) | ((conv => whnf); refine ⟨?_, ?_⟩) | exact trivial | (simp only [ren, renB]; done) | rfl)))
     · rw [Z0A h4] at hc1
       conv => whnf
       repeat' ((first | (refine IF.yes (b := L != []) (by simpa using hLne) ?_; conv => whnf) | refine AU ?_ | (refine IW (fun h => ?_) (fun h => ?_) <;> try (exfalso; omega))) <;> conv => whnf)
       refine CALL.aA [3, 2] (J9 2 2 false ps hsm (i1) (m1) (by omega)) ?_
       rintro r O' nx' ⟨rfl, rfl, rfl⟩
       conv => whnf
       (repeat (first | ((with_reducible refine IF.tt ?_); conv => whnf) | ((with_reducible refine IF.ff ?_); conv => whnf)))
       refine IF.mk (fun h5 => ?_) (fun h5 => ?_)
       · have hsee : ∃ q, ps[i1]? = some q ∧ YP q = true := by
           obtain ⟨q, hq, hqm⟩ := ZM h5
           exact ⟨q, hq, by rw [XU, hqm]; rfl⟩
         conv => whnf
         repeat' ((first | refine AU ?_ | (refine IW (fun h => ?_) (fun h => ?_) <;> try (exfalso; omega))) <;> conv => whnf)
         obtain ⟨q, hq, hqm⟩ := hsee
         have hlt2 := (List.getElem?_eq_some_iff.1 hq).1
         obtain ⟨k2, hk2⟩ : ∃ k2, m1 = k2 + 1 := ⟨m1 - 1, by omega⟩
         have htag : tagP ps = Z01 (ps.drop (i1 + 1)) := by rw [hc1, V8 hq hqm]
         rw [hk2]
         conv => whnf
         refine CALL.aA [3, 2] (Yq ps (i1) k2 (by omega) q hq) ?_
         rintro r O' nx' ⟨rfl, rfl, rfl⟩
         conv => whnf
         refine LOOP.goes (fr' := frT) (O' := OT ps (i1 + 1) L E [] q) (n1 := 6) ?_ (K (i1 + 1, L, E, [], q) ⟨htag, by simp only; omega⟩)
         unfold frT OT
         rw [show ps.length - (i1 + 1) = k2 by omega]
         (refine GOES.keeping h0 [0, 1, 2, 3, 4, 5] rfl rfl rfl (by first | rfl | (simp only [Z7, Z3, Z0 _ (Z1 _), Bool.and_self, Bool.and_true] <;> rfl)) ?_ ?_ <;> (repeat' (first | (with_reducible rfl) | (exact Za (Z1 _) (Z6 _ (Z1 _))) | (exact Za (Z1 _) (by simp [Zb, ZK, List.take_of_length_le])) | (exact Zu rfl (by first | (simp; done) | omega | (simp; omega))) | (exact congrArg (SV.int _) (by first | omega | (simp (disch := omega) only [lnB, Z5, Z9] <;> omega) | (simp; done) | (simp <;> omega))) | ((conv => whnf); refine ⟨?_, ?_⟩) | exact trivial | (simp only [ren, renB]; done) | rfl)))
       · conv => whnf
         repeat' ((first | refine AU ?_ | (refine IW (fun h => ?_) (fun h => ?_) <;> try (exfalso; omega))) <;> conv => whnf)
         refine CALL.aA [3, 2] (J9 3 3 true ps hsm (i1) (m1) (by omega)) ?_
         rintro r O' nx' ⟨rfl, rfl, rfl⟩
         conv => whnf
         (repeat (first | ((with_reducible refine IF.tt ?_); conv => whnf) | ((with_reducible refine IF.ff ?_); conv => whnf)))
         refine IF.mk (fun h6 => ?_) (fun h6 => ?_)
         · have hsee : ∃ q, ps[i1]? = some q ∧ YP q = true := by
             obtain ⟨q, hq, hqm⟩ := ZM h6
             exact ⟨q, hq, by rw [XU, hqm, Bool.or_true]⟩
           conv => whnf
           repeat' ((first | refine AU ?_ | (refine IW (fun h => ?_) (fun h => ?_) <;> try (exfalso; omega))) <;> conv => whnf)
           obtain ⟨q, hq, hqm⟩ := hsee
           have hlt2 := (List.getElem?_eq_some_iff.1 hq).1
           obtain ⟨k2, hk2⟩ : ∃ k2, m1 = k2 + 1 := ⟨m1 - 1, by omega⟩
           have htag : tagP ps = Z01 (ps.drop (i1 + 1)) := by rw [hc1, V8 hq hqm]
           rw [hk2]
           conv => whnf
           refine CALL.aA [3, 2] (Yq ps (i1) k2 (by omega) q hq) ?_
           rintro r O' nx' ⟨rfl, rfl, rfl⟩
           conv => whnf
           refine LOOP.goes (fr' := frT) (O' := OT ps (i1 + 1) L E [] q) (n1 := 6) ?_ (K (i1 + 1, L, E, [], q) ⟨htag, by simp only; omega⟩)
           unfold frT OT
           rw [show ps.length - (i1 + 1) = k2 by omega]
           (refine GOES.keeping h0 [0, 1, 2, 3, 4, 5] rfl rfl rfl (by first | rfl | (simp only [Z7, Z3, Z0 _ (Z1 _), Bool.and_self, Bool.and_true] <;> rfl)) ?_ ?_ <;> (repeat' (first | (with_reducible rfl) | (exact Za (Z1 _) (Z6 _ (Z1 _))) | (exact Za (Z1 _) (by simp [Zb, ZK, List.take_of_length_le])) | (exact Zu rfl (by first | (simp; done) | omega | (simp; omega))) | (exact congrArg (SV.int _) (by first | omega | (simp (disch := omega) only [lnB, Z5, Z9] <;> omega) | (simp; done) | (simp <;> omega))) | ((conv => whnf); refine ⟨?_, ?_⟩) | exact trivial | (simp only [ren, renB]; done) | rfl)))
         · have hsee : Yd YP ps (i1) = false := by
             unfold Yd at *
             cases hq : ps[i1]? with
             | none => rfl
             | some q => rw [hq] at h5 h6; simp only at h5 h6 ⊢; rw [XU, h5]; exact h6
           have htag : tagP ps = Z01 (ps.drop (i1)) := by rw [hc1, Z0A hsee]
           conv => whnf
           repeat' ((first | refine AU ?_ | (refine IW (fun h => ?_) (fun h => ?_) <;> try (exfalso; omega))) <;> conv => whnf)
           refine LOOP.goes (fr' := frT) (O' := OT ps (i1) L E [] []) (n1 := 6) ?_ (K (i1, L, E, [], []) ⟨htag, by simp only; omega⟩)
           unfold frT OT
           rw [show ps.length - (i1) = m1 by omega]
           (refine GOES.keeping h0 [0, 1, 2, 3, 4, 5] rfl rfl rfl (by first | rfl | (simp only [Z7, Z3, Z0 _ (Z1 _), Bool.and_self, Bool.and_true] <;> rfl)) ?_ ?_ <;> (repeat' (first | (with_reducible rfl) | (exact Za (Z1 _) (Z6 _ (Z1 _))) | (exact Za (Z1 _) (by simp [Zb, ZK, List.take_of_length_le])) | (exact Zu rfl (by first | (simp; done) | omega | (simp; omega))) | (exact congrArg (SV.int _) (by first | omega | (simp (disch := omega) only [lnB, Z5, Z9] <;> omega) | (simp; done) | (simp <;> omega))) | ((conv => whnf); refine ⟨?_, ?_⟩) | exact trivial | (simp only [ren, renB]; done) | rfl)))
 · rw [Zfa] at h
   have hpr : ZV p0 = true := by simpa using h
   have htag : tagP ps = Z01 (ps.drop 0) := by
     unfold tagP Z01
     rw [if_pos (by rw [hhead, hpr]), ZP hp0]
     have h4 : ¬ 4 ≤ p0.length := by
       have := hpr; unfold ZV at this; simp at this
       rcases this with rfl | rfl <;> simp
     have hv : XW p0 ≠ true := fun h => h4 (Z30 h)
     simp only [Yo]
     rw [if_neg hv]
     simp only
     rw [ZW, if_neg (by unfold X2; simp [hpr])]
     simp only
     rw [← ZP hp0]; rfl
   conv => whnf
   repeat' ((first | refine AU ?_ | (refine IW (fun h => ?_) (fun h => ?_) <;> try (exfalso; omega))) <;> conv => whnf)
   refine LOOP.goes (fr' := frT) (O' := OT ps (0) [] [] [] []) (n1 := 6) ?_ (K (0, [], [], [], []) ⟨htag, by simp only; omega⟩)
   unfold frT OT
   rw [show ps.length - (0) = ps.length by omega]
   (refine GOES.keeping h0 [0, 1, 2, 3, 4, 5] rfl rfl rfl (by first | rfl | (simp only [Z7, Z3, Z0 _ (Z1 _), Bool.and_self, Bool.and_true] <;> rfl)) ?_ ?_ <;> (repeat' (first | (with_reducible rfl) | (exact Za (Z1 _) (Z6 _ (Z1 _))) | (exact Za (Z1 _) (by simp [Zb, ZK, List.take_of_length_le])) | (exact Zu rfl (by first | (simp; done) | omega | (simp; omega))) | (exact congrArg (SV.int _) (by first | omega | (simp (disch := omega) only [lnB, Z5, Z9] <;> omega) | (simp; done) | (simp <;> omega))) | ((conv => whnf); refine ⟨?_, ?_⟩) | exact trivial | (simp only [ren, renB]; done) | rfl)))
 rintro ⟨a0, L, E, S, R⟩ ⟨htag, ha0⟩
 dsimp only at htag ha0 ⊢
 unfold frT OT
 refine LOOP.go Z2 [2, 4, 5] (X := Nat × List (List UInt8)) (fun y => y.1 ≤ ps.length ∧ y.2.length ≤ y.1 ∧ (∀ s ∈ y.2, 4 ≤ s.length ∧ Sm s) ∧ Yo [] (ps.drop a0) = Yo (y.2.map Zd) (ps.drop y.1)) (fun y => []) (fun y => [(0, tz6), (1, tg6 L E S R 4 y.2.length 5 0 []), (2, .rows 1 (ps.map Zb)), (3, rd6' y.1 (ps.length - y.1)), (4, .rows 1 (y.2.map Zb)), (5, .rows 1 [])]) 6 (fun y => ps.length - y.1) (a0, []) ⟨by simp only; omega, by simp, by simp, rfl⟩ ?_
 conv => whnf
 refine ⟨by (refine GOES.keeping h0 [0, 1, 2, 3, 4, 5] rfl rfl rfl (by first | rfl | (simp only [Z7, Z3, Z0 _ (Z1 _), Bool.and_self, Bool.and_true] <;> rfl)) ?_ ?_ <;> (repeat' (first | (with_reducible rfl) | (exact Za (Z1 _) (Z6 _ (Z1 _))) | (exact Za (Z1 _) (by simp [Zb, ZK, List.take_of_length_le])) | (exact Zu rfl (by first | (simp; done) | omega | (simp; omega))) | (exact congrArg (SV.int _) (by first | omega | (simp (disch := omega) only [lnB, Z5, Z9] <;> omega) | (simp; done) | (simp <;> omega))) | ((conv => whnf); refine ⟨?_, ?_⟩) | exact trivial | (simp only [ren, renB]; done) | rfl))), ?_⟩
 rintro ⟨a, vs⟩ ⟨ha, hvl, hvs, hx⟩
 dsimp only at ha hvl hvs hx ⊢
 conv => whnf
 rcases Nat.lt_or_ge a ps.length with hap | hap
 · obtain ⟨w, hw⟩ : ∃ w, ps[a]? = some w := ⟨_, List.getElem?_eq_getElem hap⟩
   have hwl := hsm w (List.mem_of_getElem? hw)
   obtain ⟨k', hk'⟩ : ∃ k', ps.length - a = k' + 1 := ⟨ps.length - a - 1, by omega⟩
   repeat' ((first | (refine GET.at (row := Zb w) (by rw [List.getElem?_map, show a + (0 : Int).toNat = a by simp, hw]; rfl) ?_; conv => whnf) | refine CALL.value (Z3t _ hwl) rfl rfl ?_ | refine AU ?_ | (refine IW (fun h => ?_) (fun h => ?_) <;> try (exfalso; omega))) <;> conv => whnf)
   · have hvm : XW w = true := by assumption
     have hv4 := Z30 hvm
     rw [hk']
     refine CALL.aA [3, 2] (Yq ps a k' (by omega) w hw) ?_
     rintro r O' nx' ⟨rfl, rfl, rfl⟩
     have hxa : Yo (vs.map Zd) (ps.drop a) = if Zd w ∈ vs.map Zd then none else Yo (vs.map Zd ++ [Zd w]) (ps.drop (a + 1)) := by
       rw [ZP hw]; simp only [Yo]; rw [if_pos hvm]
     conv => whnf
     refine LOOP.go Z2 [2, 4, 5, 7] (X := Nat) (fun i => i ≤ vs.length ∧ Zd w ∉ (vs.take i).map Zd) (fun i => [(8, .int .i64 (i : Int))]) (fun i => [(0, tz6), (1, tg6 L E S R 4 vs.length 5 0 []), (2, .rows 1 (ps.map Zb)), (3, rd6' (a + 1) k'), (4, .rows 1 (vs.map Zb)), (5, .rows 1 [])]) 6 (fun i => vs.length - i) 0 ⟨by omega, by simp⟩ ?_
     conv => whnf
     refine ⟨by (refine GOES.keeping h0 [0, 1, 2, 3, 4, 5] rfl rfl rfl (by first | rfl | (simp only [Z7, Z3, Z0 _ (Z1 _), Bool.and_self, Bool.and_true] <;> rfl)) ?_ ?_ <;> (repeat' (first | (with_reducible rfl) | (exact Za (Z1 _) (Z6 _ (Z1 _))) | (exact Za (Z1 _) (by simp [Zb, ZK, List.take_of_length_le])) | (exact Zu rfl (by first | (simp; done) | omega | (simp; omega))) | (exact congrArg (SV.int _) (by first | omega | (simp (disch := omega) only [lnB, Z5, Z9] <;> omega) | (simp; done) | (simp <;> omega))) | ((conv => whnf); refine ⟨?_, ?_⟩) | exact trivial | (simp only [ren, renB]; done) | rfl))), ?_⟩
     rintro i ⟨hi, hn⟩
     dsimp only at hi hn ⊢
     conv => whnf
     rcases Nat.lt_or_ge i vs.length with hiv | hiv
     · have hvi := (hvs _ (List.getElem_mem hiv)).2
       repeat' ((first | (refine GET.at (row := Zb (vs[i]'(by omega))) (by rw [List.getElem?_map, show 0 + (i : Int).toNat = i by simp, List.getElem?_eq_getElem (by omega)]; rfl) ?_; conv => whnf) | refine CALL.value (Yg _ hvi) rfl rfl ?_ | refine CALL.value (Yg _ hwl) rfl rfl ?_ | refine AU ?_ | (refine IW (fun h => ?_) (fun h => ?_) <;> try (exfalso; omega))) <;> conv => whnf)
       · have hin : Zd w ∈ vs.map Zd := by rw [← (by assumption : Zd vs[i] = Zd w)]; exact List.mem_map_of_mem (List.getElem_mem hiv)
         refine FIN.anyA 7 h0 rfl rfl rfl ⟨?_, rfl, rfl⟩
         rw [htag]; unfold Z01; rw [hx, hxa, if_pos hin]; rfl
       · refine ⟨i + 1, ⟨by omega, ?_⟩, by omega, ?_⟩
         · rw [List.take_succ_eq_append_getElem hiv, List.map_append, List.mem_append]
           rintro (h1 | h1)
           · exact hn h1
           · have : Zd w = Zd vs[i] := by simpa using h1
             exact (by assumption : ¬ Zd vs[i] = Zd w) this.symm
         · conv => whnf
           (refine GOES.keeping h0 [0, 1, 2, 3, 4, 5] rfl rfl rfl (by first | rfl | (simp only [Z7, Z3, Z0 _ (Z1 _), Bool.and_self, Bool.and_true] <;> rfl)) ?_ ?_ <;> (repeat' (first | (with_reducible rfl) | (exact Za (Z1 _) (Z6 _ (Z1 _))) | (exact Za (Z1 _) (by simp [Zb, ZK, List.take_of_length_le])) | (exact Zu rfl (by first | (simp; done) | omega | (simp; omega))) | (exact congrArg (SV.int _) (by first | omega | (simp (disch := omega) only [lnB, Z5, Z9] <;> omega) | (simp; done) | (simp <;> omega))) | ((conv => whnf); refine ⟨?_, ?_⟩) | exact trivial | (simp only [ren, renB]; done) | rfl)))
     · rw [List.take_of_length_le (by omega)] at hn
       repeat' ((first | refine AU ?_ | (refine IW (fun h => ?_) (fun h => ?_) <;> try (exfalso; omega))) <;> conv => whnf)
       have e : (vs ++ [w]).length = vs.length + 1 := by simp
       refine ⟨(a + 1, vs ++ [w]), ⟨by simp only; omega, by simp; omega, ?_, by simp only; rw [hx, hxa, if_neg hn]; simp⟩, by simp only; omega, ?_⟩
       · intro x hx'
         rcases List.mem_append.1 hx' with h1 | h1
         · exact hvs x h1
         · rw [List.mem_singleton.1 h1]; exact ⟨hv4, hwl⟩
       · dsimp only
         rw [e, show ps.length - (a + 1) = k' by omega]
         conv => whnf
         (refine GOES.keeping h0 [0, 1, 2, 3, 7, 5] rfl rfl rfl (by first | rfl | (simp only [Z7, Z3, Z0 _ (Z1 _), Bool.and_self, Bool.and_true] <;> rfl)) ?_ ?_ <;> (repeat' (first | (with_reducible rfl) | (exact Za (Z1 _) (Z6 _ (Z1 _))) | (exact Za (Z1 _) (by simp [Zb, ZK, List.take_of_length_le])) | (exact Zu rfl (by first | (simp; done) | omega | (simp; omega))) | (exact congrArg (SV.int _) (by first | omega | (simp (disch := omega) only [lnB, Z5, Z9] <;> omega) | (simp; done) | (simp <;> omega))) | ((conv => whnf); refine ⟨?_, ?_⟩) | exact trivial | (simp only [ren, renB]; done) | rfl)))
   · have hvm : XW w = false := by assumption
     have hv0 : Yo (vs.map Zd) (ps.drop a) = some (ps.drop a, vs.map Zd) := by
       rw [ZP hw]; simp only [Yo]; rw [if_neg (by simp [hvm])]
     have hc0 : tagP ps = match ZW (vs.map Zd) (ps.drop a) with | none => false | some l => Vi l := by rw [htag]; unfold Z01; rw [hx, hv0]
     refine LOOP.go Z2 [2, 4, 5] (X := Nat × List (List UInt8)) (fun y => y.1 ≤ ps.length ∧ y.2.length ≤ y.1 ∧ (∀ x ∈ y.2, 1 ≤ x.length ∧ Sm x) ∧ ZW (vs.map Zd) (ps.drop a) = ZW (vs.map Zd ++ y.2.map fun x => Zd (x.take 1)) (ps.drop y.1)) (fun y => []) (fun y => [(0, tz6), (1, tg6 L E S R 4 vs.length 5 y.2.length []), (2, .rows 1 (ps.map Zb)), (3, rd6' y.1 (ps.length - y.1)), (4, .rows 1 (vs.map Zb)), (5, .rows 1 (y.2.map Zb))]) 6 (fun y => ps.length - y.1) (a, []) ⟨by simp only; omega, by simp, by simp, by simp⟩ ?_
     conv => whnf
     refine ⟨by (refine GOES.keeping h0 [0, 1, 2, 3, 4, 5] rfl rfl rfl (by first | rfl | (simp only [Z7, Z3, Z0 _ (Z1 _), Bool.and_self, Bool.and_true] <;> rfl)) ?_ ?_ <;> (repeat' (first | (with_reducible rfl) | (exact Za (Z1 _) (Z6 _ (Z1 _))) | (exact Za (Z1 _) (by simp [Zb, ZK, List.take_of_length_le])) | (exact Zu rfl (by first | (simp; done) | omega | (simp; omega))) | (exact congrArg (SV.int _) (by first | omega | (simp (disch := omega) only [lnB, Z5, Z9] <;> omega) | (simp; done) | (simp <;> omega))) | ((conv => whnf); refine ⟨?_, ?_⟩) | exact trivial | (simp only [ren, renB]; done) | rfl))), ?_⟩
     rintro ⟨b, xs⟩ ⟨hb1, hxl, hxs, hy⟩
     dsimp only at hb1 hxl hxs hy ⊢
     conv => whnf
     rcases Nat.lt_or_ge b ps.length with hbp | hbp
     · obtain ⟨u, hu⟩ : ∃ u, ps[b]? = some u := ⟨_, List.getElem?_eq_getElem hbp⟩
       have hul := hsm u (List.mem_of_getElem? hu)
       obtain ⟨k', hk'⟩ : ∃ k', ps.length - b = k' + 1 := ⟨ps.length - b - 1, by omega⟩
       clear hx hv0 hvl
       repeat' ((first | (refine GET.at (row := Zb u) (by rw [List.getElem?_map, show b + (0 : Int).toNat = b by simp, hu]; rfl) ?_; conv => whnf) | refine CALL.value (Yg _ hul) rfl rfl ?_ | refine CALL.value (JR _ _ _ hul) rfl rfl ?_ | refine AU ?_ | (refine IW (fun h => ?_) (fun h => ?_) <;> try (exfalso; omega))) <;> conv => whnf)
       all_goals try (exact absurd (by assumption : Zd u = [120]) (by assumption))
       · have hnp : ZV u = false := by rw [Yx]; simpa using (by assumption : ¬ Zd u = [120])
         have hmm : ZH u 1 1 false = true := by assumption
         have hsg : X2 u = true := by unfold X2; rw [hmm, hnp]; rfl
         have hu1 : u.length = 1 := by have := XY hmm; omega
         rw [hk']
         refine CALL.aA [3, 2, 1, 4, 5] (Uz ps hb b k' (by omega) u hu hu1 L E S R vs.length [] xs hxs (by omega)) ?_
         rintro r O' nx' ⟨n, xs', hn, rfl, hz, rfl, rfl⟩
         have hnle : n ≤ (ps.drop (b + 1)).length := by rw [hn]; exact Vh _ _
         rw [List.length_drop] at hnle
         have hmem : Zd u ∈ vs.map Zd ++ (xs.map fun x => Zd (x.take 1)) ↔ dupM xs u = true := by
           unfold dupM
           rw [List.mem_append, List.any_eq_true]
           constructor
           · rintro (h | h)
             · obtain ⟨v, hv, he⟩ := List.mem_map.1 h
               have h1 := (hvs v hv).1
               have h2 := congrArg List.length he
               unfold Zd at h2; simp only [List.length_map] at h2; omega
             · obtain ⟨x, hx, he⟩ := List.mem_map.1 h
               exact ⟨x, hx, by simp [he]⟩
           · rintro ⟨x, hx, he⟩
             exact .inr (List.mem_map.2 ⟨x, hx, by simpa using he⟩)
         have hya : ZW (vs.map Zd ++ xs.map fun x => Zd (x.take 1)) (ps.drop b) = if n = 0 ∨ dupM xs u = true then none else ZW ((vs.map Zd ++ xs.map fun x => Zd (x.take 1)) ++ [Zd u]) (ps.drop (b + 1 + n)) := by
           rw [ZP hu, ZW, if_pos hsg, ← hn, List.drop_drop]
           simp only [hmem]
         by_cases hgood : dupM xs u = false ∧ n ≠ 0
         · obtain ⟨z, rfl, hz1, hz2⟩ := hz hgood.1
           rw [show (!dupM xs u && decide (n ≠ 0)) = true by simp [hgood]]
           conv => whnf
           repeat' ((first | refine AU ?_ | (refine IW (fun h => ?_) (fun h => ?_) <;> try (exfalso; omega))) <;> conv => whnf)
           have e : (xs ++ [z]).length = xs.length + 1 := by simp
           refine ⟨(b + 1 + n, xs ++ [z]), ⟨by simp only; omega, by simp; omega, ?_, ?_⟩, by simp only; omega, ?_⟩
           · intro x hx'
             rcases List.mem_append.1 hx' with h1 | h1
             · exact hxs x h1
             · rw [List.mem_singleton.1 h1]
               refine ⟨?_, hz2⟩
               rcases z with _ | ⟨c, t⟩
               · simp at hz1; subst hz1; simp at hu1
               · simp
           · simp only
             rw [hy, hya, if_neg (by simp [hgood])]
             simp [hz1]
           · dsimp only
             rw [show ps.length - (b + 1 + n) = k' - n by omega]
             conv => whnf
             (refine GOES.keeping h0 [0, 1, 2, 3, 4, 6] rfl rfl rfl (by first | rfl | (simp only [Z7, Z3, Z0 _ (Z1 _), Bool.and_self, Bool.and_true] <;> rfl)) ?_ ?_ <;> (repeat' (first | (with_reducible rfl) | (exact Za (Z1 _) (Z6 _ (Z1 _))) | (exact Za (Z1 _) (by simp [Zb, ZK, List.take_of_length_le])) | (exact Zu rfl (by first | (simp; done) | omega | (simp; omega))) | (exact congrArg (SV.int _) (by first | omega | (simp (disch := omega) only [lnB, Z5, Z9] <;> omega) | (simp; done) | (simp <;> omega))) | ((conv => whnf); refine ⟨?_, ?_⟩) | exact trivial | (simp only [ren, renB]; done) | rfl)))
         · have hbad : n = 0 ∨ dupM xs u = true := by
             rcases Nat.eq_zero_or_pos n with h | h
             · exact .inl h
             · right
               cases hd : dupM xs u with
               | true => rfl
               | false => exact absurd ⟨hd, by omega⟩ hgood
           have htf : tagP ps = false := by rw [hc0, hy, hya, if_pos hbad]
           rw [show (!dupM xs u && decide (n ≠ 0)) = false by rcases hbad with h | h <;> simp [h]]
           conv => whnf
           repeat' ((first | refine AU ?_ | (refine IW (fun h => ?_) (fun h => ?_) <;> try (exfalso; omega))) <;> conv => whnf)
           refine FIN.anyA 7 h0 rfl rfl rfl ⟨?_, rfl, rfl⟩
           rw [htf]; rfl
       · have hnp : ZV u = false := by rw [Yx]; simpa using (by assumption : ¬ Zd u = [120])
         have hmm : ZH u 1 1 false = false := by assumption
         have hsg : ¬ X2 u = true := by unfold X2; simp [hmm]
         have hlast : tagP ps = false := by
           rw [hc0, hy, ZP hu, ZW, if_neg hsg]; simp only [Vi]; rw [if_neg (by simp [hnp])]
         refine FIN.anyA 7 h0 rfl rfl rfl ⟨?_, rfl, rfl⟩
         rw [hlast]; rfl
       · have hpv : ZV u = true := by rw [Yx]; simpa using (by assumption : Zd u = [120])
         have hsg : ¬ X2 u = true := by unfold X2; simp [hpv]
         have hlast : tagP ps = decide (ZO (Yk 1) (ps.drop (b + 1)) ≠ 0 ∧ ZO (Yk 1) (ps.drop (b + 1)) = (ps.drop (b + 1)).length) := by
           rw [hc0, hy, ZP hu, ZW, if_neg hsg]; simp only [Vi]; rw [if_pos hpv]
         refine CALL.aA [3, 2, 1, 4, 5] (Z00 ps hb b (ps.length - b) (by omega) hbp L E S R vs.length xs.length []) ?_
         rintro r O' nx' ⟨P', rfl, rfl, rfl⟩
         rw [← hlast]
         cases htf : tagP ps with
         | true =>
           conv => whnf
           repeat' ((first | refine AU ?_ | (refine IW (fun h => ?_) (fun h => ?_) <;> try (exfalso; omega))) <;> conv => whnf)
           exact FIN.anyA 7 h0 rfl rfl rfl ⟨rfl, rfl, rfl⟩
         | false =>
           conv => whnf
           repeat' ((first | refine AU ?_ | (refine IW (fun h => ?_) (fun h => ?_) <;> try (exfalso; omega))) <;> conv => whnf)
           exact FIN.anyA 7 h0 rfl rfl rfl ⟨rfl, rfl, rfl⟩
     · repeat' ((first | refine AU ?_ | (refine IW (fun h => ?_) (fun h => ?_) <;> try (exfalso; omega))) <;> conv => whnf)
       have hlast : tagP ps = true := by rw [hc0, hy, List.drop_eq_nil_of_le (by omega), ZW]; rfl
       refine FIN.anyA 7 h0 rfl rfl rfl ⟨?_, rfl, rfl⟩
       rw [hlast]; rfl
 · repeat' ((first | refine AU ?_ | (refine IW (fun h => ?_) (fun h => ?_) <;> try (exfalso; omega))) <;> conv => whnf)
   have hv0 : Yo (vs.map Zd) (ps.drop a) = some (ps.drop a, vs.map Zd) := by
     rw [List.drop_eq_nil_of_le (by omega)]; rfl
   have hc0 : tagP ps = match ZW (vs.map Zd) (ps.drop a) with | none => false | some l => Vi l := by rw [htag]; unfold Z01; rw [hx, hv0]
   refine LOOP.go Z2 [2, 4, 5] (X := Nat × List (List UInt8)) (fun y => y.1 ≤ ps.length ∧ y.2.length ≤ y.1 ∧ (∀ x ∈ y.2, 1 ≤ x.length ∧ Sm x) ∧ ZW (vs.map Zd) (ps.drop a) = ZW (vs.map Zd ++ y.2.map fun x => Zd (x.take 1)) (ps.drop y.1)) (fun y => []) (fun y => [(0, tz6), (1, tg6 L E S R 4 vs.length 5 y.2.length []), (2, .rows 1 (ps.map Zb)), (3, rd6' y.1 (ps.length - y.1)), (4, .rows 1 (vs.map Zb)), (5, .rows 1 (y.2.map Zb))]) 6 (fun y => ps.length - y.1) (a, []) ⟨by simp only; omega, by simp, by simp, by simp⟩ ?_
   conv => whnf
   refine ⟨by (refine GOES.keeping h0 [0, 1, 2, 3, 4, 5] rfl rfl rfl (by first | rfl | (simp only [Z7, Z3, Z0 _ (Z1 _), Bool.and_self, Bool.and_true] <;> rfl)) ?_ ?_ <;> (repeat' (first | (with_reducible rfl) | (exact Za (Z1 _) (Z6 _ (Z1 _))) | (exact Za (Z1 _) (by simp [Zb, ZK, List.take_of_length_le])) | (exact Zu rfl (by first | (simp; done) | omega | (simp; omega))) | (exact congrArg (SV.int _) (by first | omega | (simp (disch := omega) only [lnB, Z5, Z9] <;> omega) | (simp; done) | (simp <;> omega))) | ((conv => whnf); refine ⟨?_, ?_⟩) | exact trivial | (simp only [ren, renB]; done) | rfl))), ?_⟩
   rintro ⟨b, xs⟩ ⟨hb1, hxl, hxs, hy⟩
   dsimp only at hb1 hxl hxs hy ⊢
   conv => whnf
   rcases Nat.lt_or_ge b ps.length with hbp | hbp
   · obtain ⟨u, hu⟩ : ∃ u, ps[b]? = some u := ⟨_, List.getElem?_eq_getElem hbp⟩
     have hul := hsm u (List.mem_of_getElem? hu)
     obtain ⟨k', hk'⟩ : ∃ k', ps.length - b = k' + 1 := ⟨ps.length - b - 1, by omega⟩
     clear hx hv0 hvl
     repeat' ((first | (refine GET.at (row := Zb u) (by rw [List.getElem?_map, show b + (0 : Int).toNat = b by simp, hu]; rfl) ?_; conv => whnf) | refine CALL.value (Yg _ hul) rfl rfl ?_ | refine CALL.value (JR _ _ _ hul) rfl rfl ?_ | refine AU ?_ | (refine IW (fun h => ?_) (fun h => ?_) <;> try (exfalso; omega))) <;> conv => whnf)
     all_goals try (exact absurd (by assumption : Zd u = [120]) (by assumption))
     · have hnp : ZV u = false := by rw [Yx]; simpa using (by assumption : ¬ Zd u = [120])
       have hmm : ZH u 1 1 false = true := by assumption
       have hsg : X2 u = true := by unfold X2; rw [hmm, hnp]; rfl
       have hu1 : u.length = 1 := by have := XY hmm; omega
       rw [hk']
       refine CALL.aA [3, 2, 1, 4, 5] (Uz ps hb b k' (by omega) u hu hu1 L E S R vs.length [] xs hxs (by omega)) ?_
       rintro r O' nx' ⟨n, xs', hn, rfl, hz, rfl, rfl⟩
       have hnle : n ≤ (ps.drop (b + 1)).length := by rw [hn]; exact Vh _ _
       rw [List.length_drop] at hnle
       have hmem : Zd u ∈ vs.map Zd ++ (xs.map fun x => Zd (x.take 1)) ↔ dupM xs u = true := by
         unfold dupM
         rw [List.mem_append, List.any_eq_true]
         constructor
         · rintro (h | h)
           · obtain ⟨v, hv, he⟩ := List.mem_map.1 h
             have h1 := (hvs v hv).1
             have h2 := congrArg List.length he
             unfold Zd at h2; simp only [List.length_map] at h2; omega
           · obtain ⟨x, hx, he⟩ := List.mem_map.1 h
             exact ⟨x, hx, by simp [he]⟩
         · rintro ⟨x, hx, he⟩
           exact .inr (List.mem_map.2 ⟨x, hx, by simpa using he⟩)
       have hya : ZW (vs.map Zd ++ xs.map fun x => Zd (x.take 1)) (ps.drop b) = if n = 0 ∨ dupM xs u = true then none else ZW ((vs.map Zd ++ xs.map fun x => Zd (x.take 1)) ++ [Zd u]) (ps.drop (b + 1 + n)) := by
         rw [ZP hu, ZW, if_pos hsg, ← hn, List.drop_drop]
         simp only [hmem]
       by_cases hgood : dupM xs u = false ∧ n ≠ 0
       · obtain ⟨z, rfl, hz1, hz2⟩ := hz hgood.1
         rw [show (!dupM xs u && decide (n ≠ 0)) = true by simp [hgood]]
         conv => whnf
         repeat' ((first | refine AU ?_ | (refine IW (fun h => ?_) (fun h => ?_) <;> try (exfalso; omega))) <;> conv => whnf)
         have e : (xs ++ [z]).length = xs.length + 1 := by simp
         refine ⟨(b + 1 + n, xs ++ [z]), ⟨by simp only; omega, by simp; omega, ?_, ?_⟩, by simp only; omega, ?_⟩
         · intro x hx'
           rcases List.mem_append.1 hx' with h1 | h1
           · exact hxs x h1
           · rw [List.mem_singleton.1 h1]
             refine ⟨?_, hz2⟩
             rcases z with _ | ⟨c, t⟩
             · simp at hz1; subst hz1; simp at hu1
             · simp
         · simp only
           rw [hy, hya, if_neg (by simp [hgood])]
           simp [hz1]
         · dsimp only
           rw [show ps.length - (b + 1 + n) = k' - n by omega]
           conv => whnf
           (refine GOES.keeping h0 [0, 1, 2, 3, 4, 6] rfl rfl rfl (by first | rfl | (simp only [Z7, Z3, Z0 _ (Z1 _), Bool.and_self, Bool.and_true] <;> rfl)) ?_ ?_ <;> (repeat' (first | (with_reducible rfl) | (exact Za (Z1 _) (Z6 _ (Z1 _))) | (exact Za (Z1 _) (by simp [Zb, ZK, List.take_of_length_le])) | (exact Zu rfl (by first | (simp; done) | omega | (simp; omega))) | (exact congrArg (SV.int _) (by first | omega | (simp (disch := omega) only [lnB, Z5, Z9] <;> omega) | (simp; done) | (simp <;> omega))) | ((conv => whnf); refine ⟨?_, ?_⟩) | exact trivial | (simp only [ren, renB]; done) | rfl)))
       · have hbad : n = 0 ∨ dupM xs u = true := by
           rcases Nat.eq_zero_or_pos n with h | h
           · exact .inl h
           · right
             cases hd : dupM xs u with
             | true => rfl
             | false => exact absurd ⟨hd, by omega⟩ hgood
         have htf : tagP ps = false := by rw [hc0, hy, hya, if_pos hbad]
         rw [show (!dupM xs u && decide (n ≠ 0)) = false by rcases hbad with h | h <;> simp [h]]
         conv => whnf
         repeat' ((first | refine AU ?_ | (refine IW (fun h => ?_) (fun h => ?_) <;> try (exfalso; omega))) <;> conv => whnf)
         refine FIN.anyA 7 h0 rfl rfl rfl ⟨?_, rfl, rfl⟩
         rw [htf]; rfl
     · have hnp : ZV u = false := by rw [Yx]; simpa using (by assumption : ¬ Zd u = [120])
       have hmm : ZH u 1 1 false = false := by assumption
       have hsg : ¬ X2 u = true := by unfold X2; simp [hmm]
       have hlast : tagP ps = false := by
         rw [hc0, hy, ZP hu, ZW, if_neg hsg]; simp only [Vi]; rw [if_neg (by simp [hnp])]
       refine FIN.anyA 7 h0 rfl rfl rfl ⟨?_, rfl, rfl⟩
       rw [hlast]; rfl
     · have hpv : ZV u = true := by rw [Yx]; simpa using (by assumption : Zd u = [120])
       have hsg : ¬ X2 u = true := by unfold X2; simp [hpv]
       have hlast : tagP ps = decide (ZO (Yk 1) (ps.drop (b + 1)) ≠ 0 ∧ ZO (Yk 1) (ps.drop (b + 1)) = (ps.drop (b + 1)).length) := by
         rw [hc0, hy, ZP hu, ZW, if_neg hsg]; simp only [Vi]; rw [if_pos hpv]
       refine CALL.aA [3, 2, 1, 4, 5] (Z00 ps hb b (ps.length - b) (by omega) hbp L E S R vs.length xs.length []) ?_
       rintro r O' nx' ⟨P', rfl, rfl, rfl⟩
       rw [← hlast]
       cases htf : tagP ps with
       | true =>
         conv => whnf
         repeat' ((first | refine AU ?_ | (refine IW (fun h => ?_) (fun h => ?_) <;> try (exfalso; omega))) <;> conv => whnf)
         exact FIN.anyA 7 h0 rfl rfl rfl ⟨rfl, rfl, rfl⟩
       | false =>
         conv => whnf
         repeat' ((first | refine AU ?_ | (refine IW (fun h => ?_) (fun h => ?_) <;> try (exfalso; omega))) <;> conv => whnf)
         exact FIN.anyA 7 h0 rfl rfl rfl ⟨rfl, rfl, rfl⟩
   · repeat' ((first | refine AU ?_ | (refine IW (fun h => ?_) (fun h => ?_) <;> try (exfalso; omega))) <;> conv => whnf)
     have hlast : tagP ps = true := by rw [hc0, hy, List.drop_eq_nil_of_le (by omega), ZW]; rfl
     refine FIN.anyA 7 h0 rfl rfl rfl ⟨?_, rfl, rfl⟩
     rw [hlast]; rfl
end Go.Proofs.YtjbbkimodgffiaaGreatDoor
