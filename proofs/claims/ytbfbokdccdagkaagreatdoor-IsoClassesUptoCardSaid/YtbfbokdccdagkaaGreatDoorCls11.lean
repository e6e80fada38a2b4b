/- Part 11: Sets6, TermsG, Terms7, RTerms7. Conditions: as each part says. -/
import Derived.Test.YtbfbokdccdagkaaGreatDoorCls10
set_option linter.unusedVariables false
set_option linter.unusedSimpArgs false
set_option maxRecDepth 20000
set_option maxHeartbeats 8000000
namespace Go.Proofs.YtbfbokdccdagkaaGreatDoor
open Go.Sx Go.Our
end Go.Proofs.YtbfbokdccdagkaaGreatDoor
namespace Go.Proofs.YtbfbokdccdagkaaGreatDoor
open Go.Sx Go.Our
theorem Z3C {α : Type} (f : Qd → List α) {l : List Qd} {i : Nat} (h : i < l.length) : (l.take (i + 1)).flatMap f = (l.take i).flatMap f ++ f l[i] := by
 rw [List.take_succ_eq_append_getElem h, List.flatMap_append]; simp
theorem Xz {α : Type} (f : Qd → List α) {k : Nat} (hk : ∀ q, (f q).length ≤ k) : ∀ (l : List Qd), (l.flatMap f).length ≤ l.length * k
 | [] => by simp
 | q :: l => by
   have := Xz f hk l
   have := hk q
   simp only [List.flatMap_cons, List.length_append, List.length_cons, Nat.succ_mul]; omega
theorem Yx (q : Qd) : (ZV q).length ≤ 4 := by
 have h : ∀ t, (Ym t).length ≤ 1 := fun t => by unfold Ym; split <;> simp
 have := h q.s; have := h q.p; have := h q.o; have := h q.g
 unfold ZV; simp only [List.length_append]; omega
def Z6f (q : Qd) : List Tm := [q.s, q.p, q.o, q.g]
theorem ZaZ (q : Qd) : ZV q = (Z6f q).flatMap Ym := by simp [ZV, Z6f]
def VA (q : Qd) (j : Nat) : List (List UInt8) := ((Z6f q).take j).flatMap Ym
theorem Z7M (q : Qd) : VA q 4 = ZV q := by rw [ZaZ]; rfl
theorem Ve (q : Qd) : VA q 1 = VA q 0 ++ Ym q.s ∧ VA q 2 = VA q 1 ++ Ym q.p ∧ VA q 3 = VA q 2 ++ Ym q.o ∧ VA q 4 = VA q 3 ++ Ym q.g := by simp [VA, Z6f]
theorem J2 {t : Tm} (h : t.k = 2) : Ym t = [t.t] := by unfold Ym; rw [if_pos h]
theorem J3 {t : Tm} (h : ¬ t.k = 2) : Ym t = [] := by unfold Ym; rw [if_neg h]
theorem Z3D (q : Qd) (j : Nat) : (VA q j).length ≤ j := by
 have h : ∀ t, (Ym t).length ≤ 1 := fun t => by unfold Ym; split <;> simp
 unfold VA
 have h2 : ∀ (l : List Tm), (l.flatMap Ym).length ≤ l.length := fun l => by
   induction l with
   | nil => simp
   | cons t l ih => have := h t; simp only [List.flatMap_cons, List.length_append, List.length_cons]; omega
 have := h2 ((Z6f q).take j)
 rw [List.length_take] at this
 omega
set_option maxHeartbeats 4000000 in
theorem Z4q (l z : List Qd) (lim : Option Nat) (hl : JI l) (hz : (l ++ z).length ≤ 1152921504606846976) : Does Tryz.prog tab 30 1 [.sl (.loc 0) 0 16 l.length lim] [] [(0, .rows 16 ((l ++ z).map Zc))]
   (Z5k Z6 1 1 ([] : List UInt8) (X3 l).length (setL cmpL (X3 l))) := by
 unfold JI at hl
 have hlen : ∀ i, ((l.take i).flatMap ZV).length ≤ (l.take i).length * 4 := fun i => Xz _ Yx _
 unfold X3
 refine Does.enter Z2 (g := 30) (fn := Tryz.f30) Tryz.call30 Tryz.func30 rfl 37 rfl rfl [.tmp 2] rfl ?_
 intro w0 F η0 h0
 conv => whnf
 refine LOOP.nil 3 1 rfl ?_
 refine LOOP.go Z2 [8, 9] (X := Nat) (fun i => i ≤ l.length) (fun i => [(10, .int .i64 (i : Int)), (3, .sl (.loc 1) 0 1 ((l.take i).flatMap ZV).length none)]) (fun i => [(1, .rows 1 (((l.take i).flatMap ZV).map Z6))]) 2 (fun i => l.length - i) 0 (by omega) ?_
 conv => whnf
 refine ⟨by (refine GOES.cutting h0 rfl rfl rfl (by first | rfl | (simp only [Zd, Za, Z0 _ (Ze _), Bool.and_self, Bool.and_true] <;> rfl)) ?_ ?_ <;> (repeat' (first | (with_reducible rfl) | (exact ZP rfl (by first | (simp; done) | omega | (simp; omega))) | (exact congrArg (SV.int _) (by first | omega | (simp (disch := omega) only [lnB, Z8, Zg] <;> omega) | (simp; done) | (simp <;> omega))) | (exact congrArg (Hp.rows _) (by rfl)) | ((conv => whnf); refine ⟨?_, ?_⟩) | exact trivial | rfl))), ?_⟩
 intro i hi
 have hli := hlen i
 rw [List.length_take, Nat.min_eq_left hi] at hli
 conv => whnf
 by_cases hil : i < l.length
 · have hs := Z3C ZV hil
   generalize (l.take i).flatMap ZV = out at *
   repeat' ((first | (refine GET.at (row := Zc (l[i]'(by omega))) (Zai (by omega) (by omega)) ?_; conv => whnf) | refine AU ?_ | (refine IW (fun h => ?_) (fun h => ?_) <;> try (exfalso; omega))) <;> conv => whnf)
   refine CALL.aA [2] (Z7L (l[i]'(by omega))) ?_
   rintro r O nx ⟨rfl, rfl, rfl⟩
   conv => whnf
   refine LOOP.go Z2 [8, 9, 10, 14] (X := Nat × List (List UInt8)) (fun x => x.1 ≤ 4 ∧ x.2 = out ++ VA l[i] x.1) (fun x => [(15, .int .i64 (x.1 : Int)), (3, .sl (.loc 1) 0 1 x.2.length none)]) (fun x => [(1, .rows 1 (x.2.map Z6)), (2, .box (Zc l[i]))]) 3 (fun x => 4 - x.1) (0, out) ⟨by simp, by simp [VA]⟩ ?_
   conv => whnf
   refine ⟨by exact GOES.cA h0, ?_⟩
   rintro ⟨j, o2⟩ ⟨hj, ho2⟩
   dsimp only at hj ho2 ⊢
   have hfl := Z3D l[i] j
   have ho2l : o2.length ≤ i * 4 + j := by rw [ho2, List.length_append]; omega
   by_cases hj4 : j < 4
   · obtain rfl | rfl | rfl | rfl : j = 0 ∨ j = 1 ∨ j = 2 ∨ j = 3 := by omega
     · have hst := (Ve l[i]).1
       conv => whnf
       repeat' ((first | (refine NEED.mk ⟨by decide, by decide, rfl⟩ ?_; conv => whnf) | (refine NEED.mk (Zu 16 rfl rfl rfl (by simp) (by omega)) ?_; conv => whnf) | refine AU ?_ | (refine IW (fun h => ?_) (fun h => ?_) <;> try (exfalso; omega))) <;> conv => whnf)
       · refine ⟨(1, o2 ++ [l[i].s.t]), ⟨by simp, by dsimp only; rw [hst, J2 h, ho2, List.append_assoc]⟩, by simp, ?_⟩
         dsimp only
         conv => whnf
         (refine GOES.keeping h0 [4, 2] rfl rfl rfl (by first | rfl | (simp only [Zd, Za, Z0 _ (Ze _), Bool.and_self, Bool.and_true] <;> rfl)) ?_ ?_ <;> (repeat' (first | (with_reducible rfl) | (exact Zf (Ze _) (Z9 _ (Ze _))) | (exact Zf (Ze _) (by (simp [List.take_of_length_le, ZX, Z6]))) | (exact ZP rfl (by first | (simp; done) | omega | (simp; omega))) | (exact congrArg (SV.int _) (by first | omega | (simp (disch := omega) only [lnB, Z8, Zg] <;> omega) | (simp; done) | (simp <;> omega))) | ((conv => whnf); refine ⟨?_, ?_⟩) | exact trivial | (simp only [ren, renB]; done) | rfl)))
       · refine ⟨(1, o2), ⟨by simp, by dsimp only; rw [hst, J3 h, ho2, List.append_nil]⟩, by simp, ?_⟩
         dsimp only
         conv => whnf
         exact GOES.cA h0
     · have hst := (Ve l[i]).2.1
       conv => whnf
       repeat' ((first | (refine NEED.mk ⟨by decide, by decide, rfl⟩ ?_; conv => whnf) | (refine NEED.mk (Zu 16 rfl rfl rfl (by simp) (by omega)) ?_; conv => whnf) | refine AU ?_ | (refine IW (fun h => ?_) (fun h => ?_) <;> try (exfalso; omega))) <;> conv => whnf)
       · refine ⟨(2, o2 ++ [l[i].p.t]), ⟨by simp, by dsimp only; rw [hst, J2 h, ho2, List.append_assoc]⟩, by simp, ?_⟩
         dsimp only
         conv => whnf
         (refine GOES.keeping h0 [4, 2] rfl rfl rfl (by first | rfl | (simp only [Zd, Za, Z0 _ (Ze _), Bool.and_self, Bool.and_true] <;> rfl)) ?_ ?_ <;> (repeat' (first | (with_reducible rfl) | (exact Zf (Ze _) (Z9 _ (Ze _))) | (exact Zf (Ze _) (by (simp [List.take_of_length_le, ZX, Z6]))) | (exact ZP rfl (by first | (simp; done) | omega | (simp; omega))) | (exact congrArg (SV.int _) (by first | omega | (simp (disch := omega) only [lnB, Z8, Zg] <;> omega) | (simp; done) | (simp <;> omega))) | ((conv => whnf); refine ⟨?_, ?_⟩) | exact trivial | (simp only [ren, renB]; done) | rfl)))
       · refine ⟨(2, o2), ⟨by simp, by dsimp only; rw [hst, J3 h, ho2, List.append_nil]⟩, by simp, ?_⟩
         dsimp only
         conv => whnf
         exact GOES.cA h0
     · have hst := (Ve l[i]).2.2.1
       conv => whnf
       repeat' ((first | (refine NEED.mk ⟨by decide, by decide, rfl⟩ ?_; conv => whnf) | (refine NEED.mk (Zu 16 rfl rfl rfl (by simp) (by omega)) ?_; conv => whnf) | refine AU ?_ | (refine IW (fun h => ?_) (fun h => ?_) <;> try (exfalso; omega))) <;> conv => whnf)
       · refine ⟨(3, o2 ++ [l[i].o.t]), ⟨by simp, by dsimp only; rw [hst, J2 h, ho2, List.append_assoc]⟩, by simp, ?_⟩
         dsimp only
         conv => whnf
         (refine GOES.keeping h0 [4, 2] rfl rfl rfl (by first | rfl | (simp only [Zd, Za, Z0 _ (Ze _), Bool.and_self, Bool.and_true] <;> rfl)) ?_ ?_ <;> (repeat' (first | (with_reducible rfl) | (exact Zf (Ze _) (Z9 _ (Ze _))) | (exact Zf (Ze _) (by (simp [List.take_of_length_le, ZX, Z6]))) | (exact ZP rfl (by first | (simp; done) | omega | (simp; omega))) | (exact congrArg (SV.int _) (by first | omega | (simp (disch := omega) only [lnB, Z8, Zg] <;> omega) | (simp; done) | (simp <;> omega))) | ((conv => whnf); refine ⟨?_, ?_⟩) | exact trivial | (simp only [ren, renB]; done) | rfl)))
       · refine ⟨(3, o2), ⟨by simp, by dsimp only; rw [hst, J3 h, ho2, List.append_nil]⟩, by simp, ?_⟩
         dsimp only
         conv => whnf
         exact GOES.cA h0
     · have hst := (Ve l[i]).2.2.2
       conv => whnf
       repeat' ((first | (refine NEED.mk ⟨by decide, by decide, rfl⟩ ?_; conv => whnf) | (refine NEED.mk (Zu 16 rfl rfl rfl (by simp) (by omega)) ?_; conv => whnf) | refine AU ?_ | (refine IW (fun h => ?_) (fun h => ?_) <;> try (exfalso; omega))) <;> conv => whnf)
       · refine ⟨(4, o2 ++ [l[i].g.t]), ⟨by simp, by dsimp only; rw [hst, J2 h, ho2, List.append_assoc]⟩, by simp, ?_⟩
         dsimp only
         conv => whnf
         (refine GOES.keeping h0 [4, 2] rfl rfl rfl (by first | rfl | (simp only [Zd, Za, Z0 _ (Ze _), Bool.and_self, Bool.and_true] <;> rfl)) ?_ ?_ <;> (repeat' (first | (with_reducible rfl) | (exact Zf (Ze _) (Z9 _ (Ze _))) | (exact Zf (Ze _) (by (simp [List.take_of_length_le, ZX, Z6]))) | (exact ZP rfl (by first | (simp; done) | omega | (simp; omega))) | (exact congrArg (SV.int _) (by first | omega | (simp (disch := omega) only [lnB, Z8, Zg] <;> omega) | (simp; done) | (simp <;> omega))) | ((conv => whnf); refine ⟨?_, ?_⟩) | exact trivial | (simp only [ren, renB]; done) | rfl)))
       · refine ⟨(4, o2), ⟨by simp, by dsimp only; rw [hst, J3 h, ho2, List.append_nil]⟩, by simp, ?_⟩
         dsimp only
         conv => whnf
         exact GOES.cA h0
   · obtain rfl : j = 4 := by omega
     rw [Z7M] at ho2
     conv => whnf
     repeat' ((first | refine AU ?_ | (refine IW (fun h => ?_) (fun h => ?_) <;> try (exfalso; omega))) <;> conv => whnf)
     refine ⟨i + 1, by omega, by omega, ?_⟩
     rw [hs, ← ho2]
     conv => whnf
     (refine GOES.cutting h0 rfl rfl rfl (by first | rfl | (simp only [Zd, Za, Z0 _ (Ze _), Bool.and_self, Bool.and_true] <;> rfl)) ?_ ?_ <;> (repeat' (first | (with_reducible rfl) | (exact ZP rfl (by first | (simp; done) | omega | (simp; omega))) | (exact congrArg (SV.int _) (by first | omega | (simp (disch := omega) only [lnB, Z8, Zg] <;> omega) | (simp; done) | (simp <;> omega))) | (exact congrArg (Hp.rows _) (by rfl)) | ((conv => whnf); refine ⟨?_, ?_⟩) | exact trivial | rfl)))
 · have hie : i = l.length := by omega
   subst hie
   rw [List.take_length] at hli ⊢
   generalize l.flatMap ZV = out at *
   have hm : (out.mergeSort (leC cmpL)).length = out.length := List.length_mergeSort out
   have hcl := JJ (out.mergeSort (leC cmpL))
   have hcc : (Z3 (out.mergeSort (leC cmpL)) ++ List.replicate ((out.mergeSort (leC cmpL)).length - (Z3 (out.mergeSort (leC cmpL))).length) ([] : List UInt8)).length * 16 ≤ 140741783322624 := by rw [List.length_append, List.length_replicate]; omega
   repeat' ((first | refine AU ?_ | (refine IW (fun h => ?_) (fun h => ?_) <;> try (exfalso; omega))) <;> conv => whnf)
   refine CALL.aA [1] (Z1M out (by omega)) ?_
   rintro r O nx ⟨rfl, rfl, rfl⟩
   conv => whnf
   rw [← hm]
   refine CALL.aA [1] (Z2r (out.mergeSort (leC cmpL)) (by omega)) ?_
   rintro r O nx ⟨rfl, rfl, rfl⟩
   conv => whnf
   refine CALL.aA [1] (Z6c (Z3 (out.mergeSort (leC cmpL)) ++ List.replicate ((out.mergeSort (leC cmpL)).length - (Z3 (out.mergeSort (leC cmpL))).length) ([] : List UInt8)) (Z3 (out.mergeSort (leC cmpL))).length (by simp) hcc) ?_
   rintro r O nx ⟨rfl, rfl, rfl⟩
   conv => whnf
   refine FIN.aA h0 [1] (.sl (.loc 1) 0 1 (setL cmpL out).length (some (setL cmpL out).length)) [(1, .rows 1 ((setL cmpL out ++ List.replicate ((out.mergeSort (leC cmpL)).length - (Z3 (out.mergeSort (leC cmpL))).length) ([] : List UInt8)).map Z6))] ?_
   exact ⟨_, by unfold setL; omega, rfl, rfl, rfl⟩
def Ye : Plan := (ZB [(0, 1), (1, 1), (2, 1), (3, 1), (4, 1), (6, 1), (7, 1), (8, 1), (9, 1), (10, 1), (5, 3), (11, 3), (12, 1), (13, 1)])
def Yf : Plan := (ZB [(0, 1), (1, 1), (2, 1), (3, 1), (4, 1), (5, 1), (6, 1), (7, 1), (8, 1), (9, 1), (11, 1), (12, 1), (10, 2), (13, 2), (14, 3), (15, 1), (16, 1), (17, 1)])
def Yg : Plan := (ZB [(0, 1), (1, 1), (2, 1), (3, 1), (4, 1), (5, 1), (6, 1), (7, 1), (8, 1), (9, 2), (10, 2), (11, 1), (12, 1)])
theorem Uv {α : Type} [DecidableEq α] {out : List α} {q : α} (h : out.length = 0 ∨ ∃ h0 : 0 < out.length, out[out.length - 1]'(by omega) ≠ q) : Wl out q = out ++ [q] := by
 unfold Wl
 rcases h with h | ⟨h0, h⟩
 · have := List.length_eq_zero_iff.1 h
   subst this; rfl
 · have hne : out ≠ [] := fun e => by subst e; simp at h0
   rw [List.getLast?_eq_some_getLast hne, List.getLast_eq_getElem]
   simp only
   rw [if_pos h]
theorem WT {α : Type} [DecidableEq α] {out : List α} {q : α} (h : ∃ h0 : 0 < out.length, out[out.length - 1]'(by omega) = q) : Wl out q = out := by
 obtain ⟨h0, h⟩ := h
 unfold Wl
 have hne : out ≠ [] := fun e => by subst e; simp at h0
 rw [List.getLast?_eq_some_getLast hne, List.getLast_eq_getElem]
 simp only
 rw [if_neg (by simpa using h)]
theorem Z6s {α : Type} [DecidableEq α] {c : α → α → Int} (out : List α) : Y2 c out [] [] = out := by unfold Y2; rfl
theorem Z15 {α : Type} [DecidableEq α] {c : α → α → Int} {out a b : List α} (x : α) (h : b = [] ∨ ∃ y t, b = y :: t ∧ c x y ≤ 0) : Y2 c out (x :: a) b = Y2 c (Wl out x) a b := by
 rcases h with rfl | ⟨y, t, rfl, h⟩
 · conv => lhs; unfold Y2
 · conv => lhs; unfold Y2
   rw [if_pos h]
theorem Wc {α : Type} [DecidableEq α] {c : α → α → Int} {out a b : List α} (y : α) (h : a = [] ∨ ∃ x t, a = x :: t ∧ ¬ c x y ≤ 0) : Y2 c out a (y :: b) = Y2 c (Wl out y) a b := by
 rcases h with rfl | ⟨x, t, rfl, h⟩
 · conv => lhs; unfold Y2
 · conv => lhs; unfold Y2
   rw [if_neg h]
theorem Z3U {l : List Tm} : (Vy Y9 l).length ≤ l.length := by
 rw [Ul triT _ l (Nat.le_refl _)]; exact Xe l
theorem ZR {l : List Tm} {i k : Nat} (h : i < l.length) (e : k = i) : (l.map Zv)[k]? = some (Zv l[i]) := by subst e; rw [List.getElem?_map, List.getElem?_eq_getElem h]; rfl
abbrev Z9F (out : List Tm) (q : Tm) : Prop := out.length = 0 ∨ ∃ h0 : 0 < out.length, out[out.length - 1]'(by omega) ≠ q
set_option maxHeartbeats 8000000 in
theorem VZ (A : List Tm) (hA : A.length * 56 ≤ 140737488351232) : ∀ (k n i : Nat) (hk : n ≤ k) (hi : i + n ≤ A.length), Does Tryz.prog tab 74 1 [.sl (.loc 0) i 4 n none] [] [(0, .rows 4 (A.map Zv))] (Z0U Zv 4 1 (Vy Y9 ((A.drop i).take n)))
 | k, n, i, hk, hi => by
   obtain ⟨l, hl⟩ : ∃ l, l = (A.drop i).take n := ⟨_, rfl⟩
   have hln : l.length = n := by rw [hl]; simp; omega
   have hrows : ((A.map Zv).drop i).take n = l.map Zv := by rw [hl, List.map_take, List.map_drop]
   rw [← hl]
   refine Does.enter Z2 (g := 74) (fn := Tryz.f74) Tryz.call74 Tryz.func74 rfl 79 rfl rfl [.tmp 2] rfl ?_
   intro w0 F η0 h0
   conv => whnf
   repeat' ((first | (rw [hrows]; conv => whnf) | (refine NEED.mk (Zu 56 rfl rfl (by rw [List.length_map]; exact hln) (by simp) (by omega)) ?_; conv => whnf) | refine AU ?_ | (refine IW (fun h => ?_) (fun h => ?_) <;> try (exfalso; omega))) <;> conv => whnf)
   · have hs : Vy Y9 l = l := by unfold Vy; rw [if_pos (by omega)]
     rw [hs]
     rw [Nat.zero_add]
     exact FIN.rows h0 2 4 n rfl rfl rfl (Z5 _) ⟨by rw [hln], rfl, rfl⟩
   · have hs : Vy Y9 l = Y2 Y9 [] (Vy Y9 (l.take (n / 2))) (Vy Y9 (l.drop (n / 2))) := by
       conv => lhs; unfold Vy
       rw [if_neg (by omega), hln]
     have e1 : l.take (n / 2) = (A.drop i).take (n / 2) := by rw [hl, List.take_take, Nat.min_eq_left (by omega)]
     have e2 : l.drop (n / 2) = (A.drop (i + n / 2)).take (n - n / 2) := by rw [hl, List.drop_take, List.drop_drop]
     have hn2 : 2 ≤ n := by omega
     obtain ⟨k', rfl⟩ : ∃ k', k = k' + 1 := ⟨k - 1, by omega⟩
     have r1 := VZ A hA k' (n / 2) i (by omega) (by omega)
     have r2 := VZ A hA k' (n - n / 2) (i + n / 2) (by omega) (by omega)
     rw [← e1] at r1
     rw [← e2] at r2
     have l1 := Z3U (l := l.take (n / 2))
     have l2 := Z3U (l := l.drop (n / 2))
     generalize Vy Y9 (l.take (n / 2)) = X at r1 hs l1
     generalize Vy Y9 (l.drop (n / 2)) = Y at r2 hs l2
     have hw : IntKind.i64.wrap (Int.tdiv (n : Int) 2) = ((n / 2 : Nat) : Int) := by rw [Int.tdiv_eq_ediv_of_nonneg (by omega), Z8 (by omega) (by omega)]; omega
     repeat' ((first | refine DRAWN.of (id := 3) Z2 mixed Ye (by kernel_rfl) ?_ | refine DRAWN.of (id := 7) Z2 mixed Yf (by kernel_rfl) ?_ | refine DRAWN.of (id := 12) Z2 mixed Yg (by kernel_rfl) ?_ | refine ADD.mk (fun _ _ => ?_) | refine AD ?_ | refine FORK.mk ?_ ?_ | (rw [hw]; conv => whnf) | (rw [Int.toNat_natCast]; conv => whnf) | refine AU ?_ | (refine IW (fun h => ?_) (fun h => ?_) <;> try (exfalso; omega))) <;> conv => whnf)
     refine CALL.aA [0] (r1) ?_
     rintro r O nx ⟨rfl, rfl, rfl⟩
     conv => whnf
     repeat' ((first | refine DRAWN.of (id := 3) Z2 mixed Ye (by kernel_rfl) ?_ | refine DRAWN.of (id := 7) Z2 mixed Yf (by kernel_rfl) ?_ | refine DRAWN.of (id := 12) Z2 mixed Yg (by kernel_rfl) ?_ | refine ADD.mk (fun _ _ => ?_) | refine AD ?_ | refine FORK.mk ?_ ?_ | (rw [hw]; conv => whnf) | (rw [Int.toNat_natCast]; conv => whnf) | refine AU ?_ | (refine IW (fun h => ?_) (fun h => ?_) <;> try (exfalso; omega))) <;> conv => whnf)
     refine CALL.aA [0] (r2) ?_
     rintro r O nx ⟨rfl, rfl, rfl⟩
     conv => whnf
     repeat' ((first | refine DRAWN.of (id := 3) Z2 mixed Ye (by kernel_rfl) ?_ | refine DRAWN.of (id := 7) Z2 mixed Yf (by kernel_rfl) ?_ | refine DRAWN.of (id := 12) Z2 mixed Yg (by kernel_rfl) ?_ | refine ADD.mk (fun _ _ => ?_) | refine AD ?_ | refine FORK.mk ?_ ?_ | refine AU ?_ | (refine IW (fun h => ?_) (fun h => ?_) <;> try (exfalso; omega))) <;> conv => whnf)
     refine LOOP.nil 5 4 rfl ?_
     refine LOOP.go Z2 [] (X := List Tm × Nat × Nat) (fun x => x.2.1 ≤ X.length ∧ x.2.2 ≤ Y.length ∧ x.1.length ≤ x.2.1 + x.2.2 ∧ Vy Y9 l = Y2 Y9 x.1 (X.drop x.2.1) (Y.drop x.2.2))
       (fun x => [(3, .sl (.loc 1) x.2.1 4 (X.length - x.2.1) none), (4, .sl (.loc 2) x.2.2 4 (Y.length - x.2.2) none), (5, .sl (.loc 3) 0 4 x.1.length none)]) (fun x => [(1, .rows 4 (X.map Zv)), (2, .rows 4 (Y.map Zv)), (3, .rows 4 (x.1.map Zv))]) 4 (fun x => (X.length - x.2.1) + (Y.length - x.2.2)) ([], 0, 0) ⟨by simp, by simp, by simp, hs⟩ ?_
     conv => whnf
     refine ⟨by exact GOES.cA h0, ?_⟩
     rintro ⟨out, p, q⟩ ⟨hp, hq, ho, hr⟩
     dsimp only at hp hq ho hr ⊢
     have hl1 : X.length + Y.length ≤ A.length := by simp at l1 l2; omega
     have hlast : ∀ (h : 0 < out.length), IntKind.i64.wrap ((out.length : Int) - 1) = ((out.length - 1 : Nat) : Int) := fun h => by rw [Z8 (by omega) (by omega)]; omega
     by_cases hpn : p < X.length <;> by_cases hqm : q < Y.length
     · have ha : X.drop p = X[p] :: X.drop (p + 1) := List.drop_eq_getElem_cons hpn
       have hb : Y.drop q = Y[q] :: Y.drop (q + 1) := List.drop_eq_getElem_cons hqm
       rw [ha, hb] at hr
       by_cases hc : Y9 X[p] Y[q] ≤ 0
       · rw [Z15 _ (.inr ⟨_, _, rfl, hc⟩), ← hb] at hr
         have hN2 : Z9F out X[p] ∨ ∃ h0 : 0 < out.length, out[out.length - 1]'(by omega) = X[p] := by
           by_cases h0 : out.length = 0
           · exact .inl (.inl h0)
           · by_cases he : out[out.length - 1]'(by omega) = X[p]
             · exact .inr ⟨by omega, he⟩
             · exact .inl (.inr ⟨by omega, he⟩)
         rcases hN2 with hN | hN
         · have hr := hr.trans (congrArg (fun z => Y2 Y9 z (X.drop (p + 1)) (Y.drop q)) (Uv hN))
           conv => whnf
           repeat' ((first | refine DRAWN.of (id := 3) Z2 mixed Ye (by kernel_rfl) ?_ | refine DRAWN.of (id := 7) Z2 mixed Yf (by kernel_rfl) ?_ | refine DRAWN.of (id := 12) Z2 mixed Yg (by kernel_rfl) ?_ | refine ADD.mk (fun _ _ => ?_) | refine AD ?_ | refine FORK.mk ?_ ?_ | refine CALL.value (ZQ _ _) rfl rfl ?_ | (refine NEED.mk (Zu 56 rfl rfl rfl (by simp) (by omega)) ?_; conv => whnf) | (refine GET.at (row := Zv (X[p]'(by omega))) (ZR (by omega) (by omega)) ?_; conv => whnf) | (refine GET.at (row := Zv (Y[q]'(by omega))) (ZR (by omega) (by omega)) ?_; conv => whnf) | (refine GET.at (row := Zv (out[out.length - 1]'(by omega))) (ZR (by omega) (by rw [hlast (by omega)]; omega)) ?_; conv => whnf) | refine AU ?_ | (refine IW (fun h => ?_) (fun h => ?_) <;> try (exfalso; omega))) <;> conv => whnf)
           all_goals first
             | (exfalso; omega)
             | (exfalso; rcases hN with h1 | ⟨h1, h2⟩; omega; exact h2 (Tm.ext' (by simp only [Zv, List.cons.injEq, SV.int.injEq, SV.str.injEq, true_and, and_true]; exact h)))
             | (refine ⟨(out ++ [X[p]], p + 1, q), ⟨by dsimp only; omega, by dsimp only; omega, by simp only [List.length_append, List.length_cons, List.length_nil]; omega, hr⟩, by dsimp only; omega, ?_⟩; dsimp only; (conv => whnf); (refine GOES.keeping h0 [1, 2, 6] rfl rfl rfl (by first | rfl | (simp only [Zd, Za, Z0 _ (Z5 _), Bool.and_self, Bool.and_true] <;> rfl)) ?_ ?_ <;> (repeat' (first | (with_reducible rfl) | (exact Zf (Z5 _) (Z9 _ (Z5 _))) | (exact Zf (Z5 _) (by (simp [List.take_of_length_le, ZX, Zv]))) | (exact ZP rfl (by first | (simp; done) | omega | (simp; omega))) | (exact congrArg (SV.int _) (by first | omega | (simp (disch := omega) only [lnB, Z8, Zg] <;> omega) | (simp; done) | (simp <;> omega))) | ((conv => whnf); refine ⟨?_, ?_⟩) | exact trivial | (simp only [ren, renB]; done) | rfl))); done)
             | (refine ⟨(out ++ [X[p]], p + 1, q), ⟨by dsimp only; omega, by dsimp only; omega, by simp only [List.length_append, List.length_cons, List.length_nil]; omega, hr⟩, by dsimp only; omega, ?_⟩; dsimp only; (conv => whnf); (refine GOES.keeping h0 [1, 2, 5] rfl rfl rfl (by first | rfl | (simp only [Zd, Za, Z0 _ (Z5 _), Bool.and_self, Bool.and_true] <;> rfl)) ?_ ?_ <;> (repeat' (first | (with_reducible rfl) | (exact Zf (Z5 _) (Z9 _ (Z5 _))) | (exact Zf (Z5 _) (by (simp [List.take_of_length_le, ZX, Zv]))) | (exact ZP rfl (by first | (simp; done) | omega | (simp; omega))) | (exact congrArg (SV.int _) (by first | omega | (simp (disch := omega) only [lnB, Z8, Zg] <;> omega) | (simp; done) | (simp <;> omega))) | ((conv => whnf); refine ⟨?_, ?_⟩) | exact trivial | (simp only [ren, renB]; done) | rfl))); done)
             | (refine ⟨(out ++ [X[p]], p + 1, q), ⟨by dsimp only; omega, by dsimp only; omega, by simp only [List.length_append, List.length_cons, List.length_nil]; omega, hr⟩, by dsimp only; omega, ?_⟩; dsimp only; (conv => whnf); (refine GOES.keeping h0 [1, 2, 7] rfl rfl rfl (by first | rfl | (simp only [Zd, Za, Z0 _ (Z5 _), Bool.and_self, Bool.and_true] <;> rfl)) ?_ ?_ <;> (repeat' (first | (with_reducible rfl) | (exact Zf (Z5 _) (Z9 _ (Z5 _))) | (exact Zf (Z5 _) (by (simp [List.take_of_length_le, ZX, Zv]))) | (exact ZP rfl (by first | (simp; done) | omega | (simp; omega))) | (exact congrArg (SV.int _) (by first | omega | (simp (disch := omega) only [lnB, Z8, Zg] <;> omega) | (simp; done) | (simp <;> omega))) | ((conv => whnf); refine ⟨?_, ?_⟩) | exact trivial | (simp only [ren, renB]; done) | rfl))); done)
             | trace_state
         · have hr := hr.trans (congrArg (fun z => Y2 Y9 z (X.drop (p + 1)) (Y.drop q)) (WT hN))
           conv => whnf
           repeat' ((first | refine DRAWN.of (id := 3) Z2 mixed Ye (by kernel_rfl) ?_ | refine DRAWN.of (id := 7) Z2 mixed Yf (by kernel_rfl) ?_ | refine DRAWN.of (id := 12) Z2 mixed Yg (by kernel_rfl) ?_ | refine ADD.mk (fun _ _ => ?_) | refine AD ?_ | refine FORK.mk ?_ ?_ | refine CALL.value (ZQ _ _) rfl rfl ?_ | (refine NEED.mk (Zu 56 rfl rfl rfl (by simp) (by omega)) ?_; conv => whnf) | (refine GET.at (row := Zv (X[p]'(by omega))) (ZR (by omega) (by omega)) ?_; conv => whnf) | (refine GET.at (row := Zv (Y[q]'(by omega))) (ZR (by omega) (by omega)) ?_; conv => whnf) | (refine GET.at (row := Zv (out[out.length - 1]'(by omega))) (ZR (by omega) (by rw [hlast (by omega)]; omega)) ?_; conv => whnf) | refine AU ?_ | (refine IW (fun h => ?_) (fun h => ?_) <;> try (exfalso; omega))) <;> conv => whnf)
           all_goals first
             | (exfalso; omega)
             | (exfalso; have h2 := hN.2; rw [h2] at h; simp at h; done)
             | (exfalso; have h2 := hN.1; omega)
             | (refine ⟨(out, p + 1, q), ⟨by dsimp only; omega, by dsimp only; omega, by dsimp only; omega, hr⟩, by dsimp only; omega, ?_⟩; dsimp only; (conv => whnf); (refine GOES.cutting h0 rfl rfl rfl (by first | rfl | (simp only [Zd, Za, Z0 _ (Z5 _), Bool.and_self, Bool.and_true] <;> rfl)) ?_ ?_ <;> (repeat' (first | (with_reducible rfl) | (exact ZP rfl (by first | (simp; done) | omega | (simp; omega))) | (exact congrArg (SV.int _) (by first | omega | (simp (disch := omega) only [lnB, Z8, Zg] <;> omega) | (simp; done) | (simp <;> omega))) | (exact congrArg (Hp.rows _) (by rfl)) | ((conv => whnf); refine ⟨?_, ?_⟩) | exact trivial | rfl))); done)
             | trace_state
       · rw [Wc _ (.inr ⟨_, _, rfl, hc⟩), ← ha] at hr
         have hN2 : Z9F out Y[q] ∨ ∃ h0 : 0 < out.length, out[out.length - 1]'(by omega) = Y[q] := by
           by_cases h0 : out.length = 0
           · exact .inl (.inl h0)
           · by_cases he : out[out.length - 1]'(by omega) = Y[q]
             · exact .inr ⟨by omega, he⟩
             · exact .inl (.inr ⟨by omega, he⟩)
         rcases hN2 with hN | hN
         · have hr := hr.trans (congrArg (fun z => Y2 Y9 z (X.drop p) (Y.drop (q + 1))) (Uv hN))
           conv => whnf
           repeat' ((first | refine DRAWN.of (id := 3) Z2 mixed Ye (by kernel_rfl) ?_ | refine DRAWN.of (id := 7) Z2 mixed Yf (by kernel_rfl) ?_ | refine DRAWN.of (id := 12) Z2 mixed Yg (by kernel_rfl) ?_ | refine ADD.mk (fun _ _ => ?_) | refine AD ?_ | refine FORK.mk ?_ ?_ | refine CALL.value (ZQ _ _) rfl rfl ?_ | (refine NEED.mk (Zu 56 rfl rfl rfl (by simp) (by omega)) ?_; conv => whnf) | (refine GET.at (row := Zv (X[p]'(by omega))) (ZR (by omega) (by omega)) ?_; conv => whnf) | (refine GET.at (row := Zv (Y[q]'(by omega))) (ZR (by omega) (by omega)) ?_; conv => whnf) | (refine GET.at (row := Zv (out[out.length - 1]'(by omega))) (ZR (by omega) (by rw [hlast (by omega)]; omega)) ?_; conv => whnf) | refine AU ?_ | (refine IW (fun h => ?_) (fun h => ?_) <;> try (exfalso; omega))) <;> conv => whnf)
           all_goals first
             | (exfalso; omega)
             | (exfalso; rcases hN with h1 | ⟨h1, h2⟩; omega; exact h2 (Tm.ext' (by simp only [Zv, List.cons.injEq, SV.int.injEq, SV.str.injEq, true_and, and_true]; exact h)))
             | (refine ⟨(out ++ [Y[q]], p, q + 1), ⟨by dsimp only; omega, by dsimp only; omega, by simp only [List.length_append, List.length_cons, List.length_nil]; omega, hr⟩, by dsimp only; omega, ?_⟩; dsimp only; (conv => whnf); (refine GOES.keeping h0 [1, 2, 6] rfl rfl rfl (by first | rfl | (simp only [Zd, Za, Z0 _ (Z5 _), Bool.and_self, Bool.and_true] <;> rfl)) ?_ ?_ <;> (repeat' (first | (with_reducible rfl) | (exact Zf (Z5 _) (Z9 _ (Z5 _))) | (exact Zf (Z5 _) (by (simp [List.take_of_length_le, ZX, Zv]))) | (exact ZP rfl (by first | (simp; done) | omega | (simp; omega))) | (exact congrArg (SV.int _) (by first | omega | (simp (disch := omega) only [lnB, Z8, Zg] <;> omega) | (simp; done) | (simp <;> omega))) | ((conv => whnf); refine ⟨?_, ?_⟩) | exact trivial | (simp only [ren, renB]; done) | rfl))); done)
             | (refine ⟨(out ++ [Y[q]], p, q + 1), ⟨by dsimp only; omega, by dsimp only; omega, by simp only [List.length_append, List.length_cons, List.length_nil]; omega, hr⟩, by dsimp only; omega, ?_⟩; dsimp only; (conv => whnf); (refine GOES.keeping h0 [1, 2, 5] rfl rfl rfl (by first | rfl | (simp only [Zd, Za, Z0 _ (Z5 _), Bool.and_self, Bool.and_true] <;> rfl)) ?_ ?_ <;> (repeat' (first | (with_reducible rfl) | (exact Zf (Z5 _) (Z9 _ (Z5 _))) | (exact Zf (Z5 _) (by (simp [List.take_of_length_le, ZX, Zv]))) | (exact ZP rfl (by first | (simp; done) | omega | (simp; omega))) | (exact congrArg (SV.int _) (by first | omega | (simp (disch := omega) only [lnB, Z8, Zg] <;> omega) | (simp; done) | (simp <;> omega))) | ((conv => whnf); refine ⟨?_, ?_⟩) | exact trivial | (simp only [ren, renB]; done) | rfl))); done)
             | (refine ⟨(out ++ [Y[q]], p, q + 1), ⟨by dsimp only; omega, by dsimp only; omega, by simp only [List.length_append, List.length_cons, List.length_nil]; omega, hr⟩, by dsimp only; omega, ?_⟩; dsimp only; (conv => whnf); (refine GOES.keeping h0 [1, 2, 7] rfl rfl rfl (by first | rfl | (simp only [Zd, Za, Z0 _ (Z5 _), Bool.and_self, Bool.and_true] <;> rfl)) ?_ ?_ <;> (repeat' (first | (with_reducible rfl) | (exact Zf (Z5 _) (Z9 _ (Z5 _))) | (exact Zf (Z5 _) (by (simp [List.take_of_length_le, ZX, Zv]))) | (exact ZP rfl (by first | (simp; done) | omega | (simp; omega))) | (exact congrArg (SV.int _) (by first | omega | (simp (disch := omega) only [lnB, Z8, Zg] <;> omega) | (simp; done) | (simp <;> omega))) | ((conv => whnf); refine ⟨?_, ?_⟩) | exact trivial | (simp only [ren, renB]; done) | rfl))); done)
             | trace_state
         · have hr := hr.trans (congrArg (fun z => Y2 Y9 z (X.drop p) (Y.drop (q + 1))) (WT hN))
           conv => whnf
           repeat' ((first | refine DRAWN.of (id := 3) Z2 mixed Ye (by kernel_rfl) ?_ | refine DRAWN.of (id := 7) Z2 mixed Yf (by kernel_rfl) ?_ | refine DRAWN.of (id := 12) Z2 mixed Yg (by kernel_rfl) ?_ | refine ADD.mk (fun _ _ => ?_) | refine AD ?_ | refine FORK.mk ?_ ?_ | refine CALL.value (ZQ _ _) rfl rfl ?_ | (refine NEED.mk (Zu 56 rfl rfl rfl (by simp) (by omega)) ?_; conv => whnf) | (refine GET.at (row := Zv (X[p]'(by omega))) (ZR (by omega) (by omega)) ?_; conv => whnf) | (refine GET.at (row := Zv (Y[q]'(by omega))) (ZR (by omega) (by omega)) ?_; conv => whnf) | (refine GET.at (row := Zv (out[out.length - 1]'(by omega))) (ZR (by omega) (by rw [hlast (by omega)]; omega)) ?_; conv => whnf) | refine AU ?_ | (refine IW (fun h => ?_) (fun h => ?_) <;> try (exfalso; omega))) <;> conv => whnf)
           all_goals first
             | (exfalso; omega)
             | (exfalso; have h2 := hN.2; rw [h2] at h; simp at h; done)
             | (exfalso; have h2 := hN.1; omega)
             | (refine ⟨(out, p, q + 1), ⟨by dsimp only; omega, by dsimp only; omega, by dsimp only; omega, hr⟩, by dsimp only; omega, ?_⟩; dsimp only; (conv => whnf); (refine GOES.cutting h0 rfl rfl rfl (by first | rfl | (simp only [Zd, Za, Z0 _ (Z5 _), Bool.and_self, Bool.and_true] <;> rfl)) ?_ ?_ <;> (repeat' (first | (with_reducible rfl) | (exact ZP rfl (by first | (simp; done) | omega | (simp; omega))) | (exact congrArg (SV.int _) (by first | omega | (simp (disch := omega) only [lnB, Z8, Zg] <;> omega) | (simp; done) | (simp <;> omega))) | (exact congrArg (Hp.rows _) (by rfl)) | ((conv => whnf); refine ⟨?_, ?_⟩) | exact trivial | rfl))); done)
             | trace_state
     · have ha : X.drop p = X[p] :: X.drop (p + 1) := List.drop_eq_getElem_cons hpn
       have hb : Y.drop q = [] := List.drop_eq_nil_of_le (by omega)
       rw [ha, hb, Z15 _ (.inl rfl), ← hb] at hr
       have hN2 : Z9F out X[p] ∨ ∃ h0 : 0 < out.length, out[out.length - 1]'(by omega) = X[p] := by
         by_cases h0 : out.length = 0
         · exact .inl (.inl h0)
         · by_cases he : out[out.length - 1]'(by omega) = X[p]
           · exact .inr ⟨by omega, he⟩
           · exact .inl (.inr ⟨by omega, he⟩)
       rcases hN2 with hN | hN
       · have hr := hr.trans (congrArg (fun z => Y2 Y9 z (X.drop (p + 1)) (Y.drop q)) (Uv hN))
         conv => whnf
         repeat' ((first | refine DRAWN.of (id := 3) Z2 mixed Ye (by kernel_rfl) ?_ | refine DRAWN.of (id := 7) Z2 mixed Yf (by kernel_rfl) ?_ | refine DRAWN.of (id := 12) Z2 mixed Yg (by kernel_rfl) ?_ | refine ADD.mk (fun _ _ => ?_) | refine AD ?_ | refine FORK.mk ?_ ?_ | refine CALL.value (ZQ _ _) rfl rfl ?_ | (refine NEED.mk (Zu 56 rfl rfl rfl (by simp) (by omega)) ?_; conv => whnf) | (refine GET.at (row := Zv (X[p]'(by omega))) (ZR (by omega) (by omega)) ?_; conv => whnf) | (refine GET.at (row := Zv (Y[q]'(by omega))) (ZR (by omega) (by omega)) ?_; conv => whnf) | (refine GET.at (row := Zv (out[out.length - 1]'(by omega))) (ZR (by omega) (by rw [hlast (by omega)]; omega)) ?_; conv => whnf) | refine AU ?_ | (refine IW (fun h => ?_) (fun h => ?_) <;> try (exfalso; omega))) <;> conv => whnf)
         all_goals first
           | (exfalso; omega)
           | (exfalso; rcases hN with h1 | ⟨h1, h2⟩; omega; exact h2 (Tm.ext' (by simp only [Zv, List.cons.injEq, SV.int.injEq, SV.str.injEq, true_and, and_true]; exact h)))
           | (refine ⟨(out ++ [X[p]], p + 1, q), ⟨by dsimp only; omega, by dsimp only; omega, by simp only [List.length_append, List.length_cons, List.length_nil]; omega, hr⟩, by dsimp only; omega, ?_⟩; dsimp only; (conv => whnf); (refine GOES.keeping h0 [1, 2, 6] rfl rfl rfl (by first | rfl | (simp only [Zd, Za, Z0 _ (Z5 _), Bool.and_self, Bool.and_true] <;> rfl)) ?_ ?_ <;> (repeat' (first | (with_reducible rfl) | (exact Zf (Z5 _) (Z9 _ (Z5 _))) | (exact Zf (Z5 _) (by (simp [List.take_of_length_le, ZX, Zv]))) | (exact ZP rfl (by first | (simp; done) | omega | (simp; omega))) | (exact congrArg (SV.int _) (by first | omega | (simp (disch := omega) only [lnB, Z8, Zg] <;> omega) | (simp; done) | (simp <;> omega))) | ((conv => whnf); refine ⟨?_, ?_⟩) | exact trivial | (simp only [ren, renB]; done) | rfl))); done)
           | (refine ⟨(out ++ [X[p]], p + 1, q), ⟨by dsimp only; omega, by dsimp only; omega, by simp only [List.length_append, List.length_cons, List.length_nil]; omega, hr⟩, by dsimp only; omega, ?_⟩; dsimp only; (conv => whnf); (refine GOES.keeping h0 [1, 2, 5] rfl rfl rfl (by first | rfl | (simp only [Zd, Za, Z0 _ (Z5 _), Bool.and_self, Bool.and_true] <;> rfl)) ?_ ?_ <;> (repeat' (first | (with_reducible rfl) | (exact Zf (Z5 _) (Z9 _ (Z5 _))) | (exact Zf (Z5 _) (by (simp [List.take_of_length_le, ZX, Zv]))) | (exact ZP rfl (by first | (simp; done) | omega | (simp; omega))) | (exact congrArg (SV.int _) (by first | omega | (simp (disch := omega) only [lnB, Z8, Zg] <;> omega) | (simp; done) | (simp <;> omega))) | ((conv => whnf); refine ⟨?_, ?_⟩) | exact trivial | (simp only [ren, renB]; done) | rfl))); done)
           | (refine ⟨(out ++ [X[p]], p + 1, q), ⟨by dsimp only; omega, by dsimp only; omega, by simp only [List.length_append, List.length_cons, List.length_nil]; omega, hr⟩, by dsimp only; omega, ?_⟩; dsimp only; (conv => whnf); (refine GOES.keeping h0 [1, 2, 7] rfl rfl rfl (by first | rfl | (simp only [Zd, Za, Z0 _ (Z5 _), Bool.and_self, Bool.and_true] <;> rfl)) ?_ ?_ <;> (repeat' (first | (with_reducible rfl) | (exact Zf (Z5 _) (Z9 _ (Z5 _))) | (exact Zf (Z5 _) (by (simp [List.take_of_length_le, ZX, Zv]))) | (exact ZP rfl (by first | (simp; done) | omega | (simp; omega))) | (exact congrArg (SV.int _) (by first | omega | (simp (disch := omega) only [lnB, Z8, Zg] <;> omega) | (simp; done) | (simp <;> omega))) | ((conv => whnf); refine ⟨?_, ?_⟩) | exact trivial | (simp only [ren, renB]; done) | rfl))); done)
           | trace_state
       · have hr := hr.trans (congrArg (fun z => Y2 Y9 z (X.drop (p + 1)) (Y.drop q)) (WT hN))
         conv => whnf
         repeat' ((first | refine DRAWN.of (id := 3) Z2 mixed Ye (by kernel_rfl) ?_ | refine DRAWN.of (id := 7) Z2 mixed Yf (by kernel_rfl) ?_ | refine DRAWN.of (id := 12) Z2 mixed Yg (by kernel_rfl) ?_ | refine ADD.mk (fun _ _ => ?_) | refine AD ?_ | refine FORK.mk ?_ ?_ | refine CALL.value (ZQ _ _) rfl rfl ?_ | (refine NEED.mk (Zu 56 rfl rfl rfl (by simp) (by omega)) ?_; conv => whnf) | (refine GET.at (row := Zv (X[p]'(by omega))) (ZR (by omega) (by omega)) ?_; conv => whnf) | (refine GET.at (row := Zv (Y[q]'(by omega))) (ZR (by omega) (by omega)) ?_; conv => whnf) | (refine GET.at (row := Zv (out[out.length - 1]'(by omega))) (ZR (by omega) (by rw [hlast (by omega)]; omega)) ?_; conv => whnf) | refine AU ?_ | (refine IW (fun h => ?_) (fun h => ?_) <;> try (exfalso; omega))) <;> conv => whnf)
         all_goals first
           | (exfalso; omega)
           | (exfalso; have h2 := hN.2; rw [h2] at h; simp at h; done)
           | (exfalso; have h2 := hN.1; omega)
           | (refine ⟨(out, p + 1, q), ⟨by dsimp only; omega, by dsimp only; omega, by dsimp only; omega, hr⟩, by dsimp only; omega, ?_⟩; dsimp only; (conv => whnf); (refine GOES.cutting h0 rfl rfl rfl (by first | rfl | (simp only [Zd, Za, Z0 _ (Z5 _), Bool.and_self, Bool.and_true] <;> rfl)) ?_ ?_ <;> (repeat' (first | (with_reducible rfl) | (exact ZP rfl (by first | (simp; done) | omega | (simp; omega))) | (exact congrArg (SV.int _) (by first | omega | (simp (disch := omega) only [lnB, Z8, Zg] <;> omega) | (simp; done) | (simp <;> omega))) | (exact congrArg (Hp.rows _) (by rfl)) | ((conv => whnf); refine ⟨?_, ?_⟩) | exact trivial | rfl))); done)
           | trace_state
     · have hb : Y.drop q = Y[q] :: Y.drop (q + 1) := List.drop_eq_getElem_cons hqm
       have ha : X.drop p = [] := List.drop_eq_nil_of_le (by omega)
       rw [ha, hb, Wc _ (.inl rfl), ← ha] at hr
       have hN2 : Z9F out Y[q] ∨ ∃ h0 : 0 < out.length, out[out.length - 1]'(by omega) = Y[q] := by
         by_cases h0 : out.length = 0
         · exact .inl (.inl h0)
         · by_cases he : out[out.length - 1]'(by omega) = Y[q]
           · exact .inr ⟨by omega, he⟩
           · exact .inl (.inr ⟨by omega, he⟩)
       rcases hN2 with hN | hN
       · have hr := hr.trans (congrArg (fun z => Y2 Y9 z (X.drop p) (Y.drop (q + 1))) (Uv hN))
         conv => whnf
         repeat' ((first | refine DRAWN.of (id := 3) Z2 mixed Ye (by kernel_rfl) ?_ | refine DRAWN.of (id := 7) Z2 mixed Yf (by kernel_rfl) ?_ | refine DRAWN.of (id := 12) Z2 mixed Yg (by kernel_rfl) ?_ | refine ADD.mk (fun _ _ => ?_) | refine AD ?_ | refine FORK.mk ?_ ?_ | refine CALL.value (ZQ _ _) rfl rfl ?_ | (refine NEED.mk (Zu 56 rfl rfl rfl (by simp) (by omega)) ?_; conv => whnf) | (refine GET.at (row := Zv (X[p]'(by omega))) (ZR (by omega) (by omega)) ?_; conv => whnf) | (refine GET.at (row := Zv (Y[q]'(by omega))) (ZR (by omega) (by omega)) ?_; conv => whnf) | (refine GET.at (row := Zv (out[out.length - 1]'(by omega))) (ZR (by omega) (by rw [hlast (by omega)]; omega)) ?_; conv => whnf) | refine AU ?_ | (refine IW (fun h => ?_) (fun h => ?_) <;> try (exfalso; omega))) <;> conv => whnf)
         all_goals first
           | (exfalso; omega)
           | (exfalso; rcases hN with h1 | ⟨h1, h2⟩; omega; exact h2 (Tm.ext' (by simp only [Zv, List.cons.injEq, SV.int.injEq, SV.str.injEq, true_and, and_true]; exact h)))
           | (refine ⟨(out ++ [Y[q]], p, q + 1), ⟨by dsimp only; omega, by dsimp only; omega, by simp only [List.length_append, List.length_cons, List.length_nil]; omega, hr⟩, by dsimp only; omega, ?_⟩; dsimp only; (conv => whnf); (refine GOES.keeping h0 [1, 2, 6] rfl rfl rfl (by first | rfl | (simp only [Zd, Za, Z0 _ (Z5 _), Bool.and_self, Bool.and_true] <;> rfl)) ?_ ?_ <;> (repeat' (first | (with_reducible rfl) | (exact Zf (Z5 _) (Z9 _ (Z5 _))) | (exact Zf (Z5 _) (by (simp [List.take_of_length_le, ZX, Zv]))) | (exact ZP rfl (by first | (simp; done) | omega | (simp; omega))) | (exact congrArg (SV.int _) (by first | omega | (simp (disch := omega) only [lnB, Z8, Zg] <;> omega) | (simp; done) | (simp <;> omega))) | ((conv => whnf); refine ⟨?_, ?_⟩) | exact trivial | (simp only [ren, renB]; done) | rfl))); done)
           | (refine ⟨(out ++ [Y[q]], p, q + 1), ⟨by dsimp only; omega, by dsimp only; omega, by simp only [List.length_append, List.length_cons, List.length_nil]; omega, hr⟩, by dsimp only; omega, ?_⟩; dsimp only; (conv => whnf); (refine GOES.keeping h0 [1, 2, 5] rfl rfl rfl (by first | rfl | (simp only [Zd, Za, Z0 _ (Z5 _), Bool.and_self, Bool.and_true] <;> rfl)) ?_ ?_ <;> (repeat' (first | (with_reducible rfl) | (exact Zf (Z5 _) (Z9 _ (Z5 _))) | (exact Zf (Z5 _) (by (simp [List.take_of_length_le, ZX, Zv]))) | (exact ZP rfl (by first | (simp; done) | omega | (simp; omega))) | (exact congrArg (SV.int _) (by first | omega | (simp (disch := omega) only [lnB, Z8, Zg] <;> omega) | (simp; done) | (simp <;> omega))) | ((conv => whnf); refine ⟨?_, ?_⟩) | exact trivial | (simp only [ren, renB]; done) | rfl))); done)
           | (refine ⟨(out ++ [Y[q]], p, q + 1), ⟨by dsimp only; omega, by dsimp only; omega, by simp only [List.length_append, List.length_cons, List.length_nil]; omega, hr⟩, by dsimp only; omega, ?_⟩; dsimp only; (conv => whnf); (refine GOES.keeping h0 [1, 2, 7] rfl rfl rfl (by first | rfl | (simp only [Zd, Za, Z0 _ (Z5 _), Bool.and_self, Bool.and_true] <;> rfl)) ?_ ?_ <;> (repeat' (first | (with_reducible rfl) | (exact Zf (Z5 _) (Z9 _ (Z5 _))) | (exact Zf (Z5 _) (by (simp [List.take_of_length_le, ZX, Zv]))) | (exact ZP rfl (by first | (simp; done) | omega | (simp; omega))) | (exact congrArg (SV.int _) (by first | omega | (simp (disch := omega) only [lnB, Z8, Zg] <;> omega) | (simp; done) | (simp <;> omega))) | ((conv => whnf); refine ⟨?_, ?_⟩) | exact trivial | (simp only [ren, renB]; done) | rfl))); done)
           | trace_state
       · have hr := hr.trans (congrArg (fun z => Y2 Y9 z (X.drop p) (Y.drop (q + 1))) (WT hN))
         conv => whnf
         repeat' ((first | refine DRAWN.of (id := 3) Z2 mixed Ye (by kernel_rfl) ?_ | refine DRAWN.of (id := 7) Z2 mixed Yf (by kernel_rfl) ?_ | refine DRAWN.of (id := 12) Z2 mixed Yg (by kernel_rfl) ?_ | refine ADD.mk (fun _ _ => ?_) | refine AD ?_ | refine FORK.mk ?_ ?_ | refine CALL.value (ZQ _ _) rfl rfl ?_ | (refine NEED.mk (Zu 56 rfl rfl rfl (by simp) (by omega)) ?_; conv => whnf) | (refine GET.at (row := Zv (X[p]'(by omega))) (ZR (by omega) (by omega)) ?_; conv => whnf) | (refine GET.at (row := Zv (Y[q]'(by omega))) (ZR (by omega) (by omega)) ?_; conv => whnf) | (refine GET.at (row := Zv (out[out.length - 1]'(by omega))) (ZR (by omega) (by rw [hlast (by omega)]; omega)) ?_; conv => whnf) | refine AU ?_ | (refine IW (fun h => ?_) (fun h => ?_) <;> try (exfalso; omega))) <;> conv => whnf)
         all_goals first
           | (exfalso; omega)
           | (exfalso; have h2 := hN.2; rw [h2] at h; simp at h; done)
           | (exfalso; have h2 := hN.1; omega)
           | (refine ⟨(out, p, q + 1), ⟨by dsimp only; omega, by dsimp only; omega, by dsimp only; omega, hr⟩, by dsimp only; omega, ?_⟩; dsimp only; (conv => whnf); (refine GOES.cutting h0 rfl rfl rfl (by first | rfl | (simp only [Zd, Za, Z0 _ (Z5 _), Bool.and_self, Bool.and_true] <;> rfl)) ?_ ?_ <;> (repeat' (first | (with_reducible rfl) | (exact ZP rfl (by first | (simp; done) | omega | (simp; omega))) | (exact congrArg (SV.int _) (by first | omega | (simp (disch := omega) only [lnB, Z8, Zg] <;> omega) | (simp; done) | (simp <;> omega))) | (exact congrArg (Hp.rows _) (by rfl)) | ((conv => whnf); refine ⟨?_, ?_⟩) | exact trivial | rfl))); done)
           | trace_state
     · have ha : X.drop p = [] := List.drop_eq_nil_of_le (by omega)
       have hb : Y.drop q = [] := List.drop_eq_nil_of_le (by omega)
       rw [ha, hb, Z6s] at hr
       conv => whnf
       repeat' ((first | refine AU ?_ | (refine IW (fun h => ?_) (fun h => ?_) <;> try (exfalso; omega))) <;> conv => whnf)
       rw [hr]
       exact FIN.rows h0 3 4 out.length rfl rfl rfl (Z5 _) ⟨rfl, rfl, rfl⟩
end Go.Proofs.YtbfbokdccdagkaaGreatDoor
