/- Part 12: Sets6, TermsG, Terms7, RTerms7, RList7, RBlanks7. Conditions: as each part says. -/
import Derived.Test.YtbfbokdccdagkaaGreatDoorIAp11
set_option linter.unusedVariables false
set_option linter.unusedSimpArgs false
set_option maxRecDepth 20000
set_option maxHeartbeats 8000000
namespace Go.Proofs.YtbfbokdccdagkaaGreatDoor
open Go.Sx Go.Our
end Go.Proofs.YtbfbokdccdagkaaGreatDoor
namespace Go.Proofs.YtbfbokdccdagkaaGreatDoor
open Go.Sx Go.Our
theorem Z4b {α : Type} (f : Qd → List α) {l : List Qd} {i : Nat} (h : i < l.length) : (l.take (i + 1)).flatMap f = (l.take i).flatMap f ++ f l[i] := by
 rw [List.take_succ_eq_append_getElem h, List.flatMap_append]; simp
theorem Jp {α : Type} (f : Qd → List α) {k : Nat} (hk : ∀ q, (f q).length ≤ k) : ∀ (l : List Qd), (l.flatMap f).length ≤ l.length * k
 | [] => by simp
 | q :: l => by
   have := Jp f hk l
   have := hk q
   simp only [List.flatMap_cons, List.length_append, List.length_cons, Nat.succ_mul]; omega
theorem YT (q : Qd) : (Yp q).length ≤ 4 := by
 have h : ∀ t, (YN t).length ≤ 1 := fun t => by unfold YN; split <;> simp
 have := h q.s; have := h q.p; have := h q.o; have := h q.g
 unfold Yp; simp only [List.length_append]; omega
def Z6H (q : Qd) : List Tm := [q.s, q.p, q.o, q.g]
theorem ZaB (q : Qd) : Yp q = (Z6H q).flatMap YN := by simp [Yp, Z6H]
def U1 (q : Qd) (j : Nat) : List (List UInt8) := ((Z6H q).take j).flatMap YN
theorem Z8e (q : Qd) : U1 q 4 = Yp q := by rw [ZaB]; rfl
theorem Vy (q : Qd) : U1 q 1 = U1 q 0 ++ YN q.s ∧ U1 q 2 = U1 q 1 ++ YN q.p ∧ U1 q 3 = U1 q 2 ++ YN q.o ∧ U1 q 4 = U1 q 3 ++ YN q.g := by simp [U1, Z6H]
theorem Jq {t : Tm} (h : t.k = 2) : YN t = [t.t] := by unfold YN; rw [if_pos h]
theorem Jr {t : Tm} (h : ¬ t.k = 2) : YN t = [] := by unfold YN; rw [if_neg h]
theorem Z4c (q : Qd) (j : Nat) : (U1 q j).length ≤ j := by
 have h : ∀ t, (YN t).length ≤ 1 := fun t => by unfold YN; split <;> simp
 unfold U1
 have h2 : ∀ (l : List Tm), (l.flatMap YN).length ≤ l.length := fun l => by
   induction l with
   | nil => simp
   | cons t l ih => have := h t; simp only [List.flatMap_cons, List.length_append, List.length_cons]; omega
 have := h2 ((Z6H q).take j)
 rw [List.length_take] at this
 omega
set_option maxHeartbeats 4000000 in
theorem Z1n (l z : List Qd) (lim : Option Nat) (hl : Xg l) (hz : (l ++ z).length ≤ 1152921504606846976) : Does Tryz.prog tab 30 1 [.sl (.loc 0) 0 16 l.length lim] [] [(0, .rows 16 ((l ++ z).map ZA))]
   (Zbg Zh 1 1 ([] : List UInt8) (ZF l).length (setL cmpL (ZF l))) := by
 unfold Xg at hl
 have hlen : ∀ i, ((l.take i).flatMap Yp).length ≤ (l.take i).length * 4 := fun i => Jp _ YT _
 unfold ZF
 refine Does.enter Z5 (g := 30) (fn := Tryz.f30) Tryz.call30 Tryz.func30 rfl 37 rfl rfl [.tmp 2] rfl ?_
 intro w0 F η0 h0
 conv => whnf
 refine LOOP.nil 3 1 rfl ?_
 refine LOOP.go Z5 [8, 9] (X := Nat) (fun i => i ≤ l.length) (fun i => [(10, .int .i64 (i : Int)), (3, .sl (.loc 1) 0 1 ((l.take i).flatMap Yp).length none)]) (fun i => [(1, .rows 1 (((l.take i).flatMap Yp).map Zh))]) 2 (fun i => l.length - i) 0 (by omega) ?_
 conv => whnf
 refine ⟨by (refine GOES.cutting h0 rfl rfl rfl (by first | rfl | (simp only [Z4, Z3, Z0 _ (Zj _), Bool.and_self, Bool.and_true] <;> rfl)) ?_ ?_ <;> (repeat' (first | (with_reducible rfl) | (exact Zm rfl (by first | (simp; done) | omega | (simp; omega))) | (exact congrArg (SV.int _) (by first | omega | (simp (disch := omega) only [lnB, Z9, Zd] <;> omega) | (simp; done) | (simp <;> omega))) | (exact congrArg (Hp.rows _) (by rfl)) | ((conv => whnf); refine ⟨?_, ?_⟩) | exact trivial | rfl))), ?_⟩
 intro i hi
 have hli := hlen i
 rw [List.length_take, Nat.min_eq_left hi] at hli
 conv => whnf
 by_cases hil : i < l.length
 · have hs := Z4b Yp hil
   generalize (l.take i).flatMap Yp = out at *
   repeat' ((first | (refine GET.at (row := ZA (l[i]'(by omega))) (Z9Y (by omega) (by omega)) ?_; conv => whnf) | refine AU ?_ | (refine IW (fun h => ?_) (fun h => ?_) <;> try (exfalso; omega))) <;> conv => whnf)
   refine CALL.aA [2] (Z8d (l[i]'(by omega))) ?_
   rintro r O nx ⟨rfl, rfl, rfl⟩
   conv => whnf
   refine LOOP.go Z5 [8, 9, 10, 14] (X := Nat × List (List UInt8)) (fun x => x.1 ≤ 4 ∧ x.2 = out ++ U1 l[i] x.1) (fun x => [(15, .int .i64 (x.1 : Int)), (3, .sl (.loc 1) 0 1 x.2.length none)]) (fun x => [(1, .rows 1 (x.2.map Zh)), (2, .box (ZA l[i]))]) 3 (fun x => 4 - x.1) (0, out) ⟨by simp, by simp [U1]⟩ ?_
   conv => whnf
   refine ⟨by exact GOES.cA h0, ?_⟩
   rintro ⟨j, o2⟩ ⟨hj, ho2⟩
   dsimp only at hj ho2 ⊢
   have hfl := Z4c l[i] j
   have ho2l : o2.length ≤ i * 4 + j := by rw [ho2, List.length_append]; omega
   by_cases hj4 : j < 4
   · obtain rfl | rfl | rfl | rfl : j = 0 ∨ j = 1 ∨ j = 2 ∨ j = 3 := by omega
     · have hst := (Vy l[i]).1
       conv => whnf
       repeat' ((first | (refine NEED.mk ⟨by decide, by decide, rfl⟩ ?_; conv => whnf) | (refine NEED.mk (ZM 16 rfl rfl rfl (by simp) (by omega)) ?_; conv => whnf) | refine AU ?_ | (refine IW (fun h => ?_) (fun h => ?_) <;> try (exfalso; omega))) <;> conv => whnf)
       · refine ⟨(1, o2 ++ [l[i].s.t]), ⟨by simp, by dsimp only; rw [hst, Jq h, ho2, List.append_assoc]⟩, by simp, ?_⟩
         dsimp only
         conv => whnf
         (refine GOES.keeping h0 [4, 2] rfl rfl rfl (by first | rfl | (simp only [Z4, Z3, Z0 _ (Zj _), Bool.and_self, Bool.and_true] <;> rfl)) ?_ ?_ <;> (repeat' (first | (with_reducible rfl) | (exact Z6 (Zj _) (Z2 _ (Zj _))) | (exact Z6 (Zj _) (by (simp [List.take_of_length_le, Zp, Zh]))) | (exact Zm rfl (by first | (simp; done) | omega | (simp; omega))) | (exact congrArg (SV.int _) (by first | omega | (simp (disch := omega) only [lnB, Z9, Zd] <;> omega) | (simp; done) | (simp <;> omega))) | ((conv => whnf); refine ⟨?_, ?_⟩) | exact trivial | (simp only [ren, renB]; done) | rfl)))
       · refine ⟨(1, o2), ⟨by simp, by dsimp only; rw [hst, Jr h, ho2, List.append_nil]⟩, by simp, ?_⟩
         dsimp only
         conv => whnf
         exact GOES.cA h0
     · have hst := (Vy l[i]).2.1
       conv => whnf
       repeat' ((first | (refine NEED.mk ⟨by decide, by decide, rfl⟩ ?_; conv => whnf) | (refine NEED.mk (ZM 16 rfl rfl rfl (by simp) (by omega)) ?_; conv => whnf) | refine AU ?_ | (refine IW (fun h => ?_) (fun h => ?_) <;> try (exfalso; omega))) <;> conv => whnf)
       · refine ⟨(2, o2 ++ [l[i].p.t]), ⟨by simp, by dsimp only; rw [hst, Jq h, ho2, List.append_assoc]⟩, by simp, ?_⟩
         dsimp only
         conv => whnf
         (refine GOES.keeping h0 [4, 2] rfl rfl rfl (by first | rfl | (simp only [Z4, Z3, Z0 _ (Zj _), Bool.and_self, Bool.and_true] <;> rfl)) ?_ ?_ <;> (repeat' (first | (with_reducible rfl) | (exact Z6 (Zj _) (Z2 _ (Zj _))) | (exact Z6 (Zj _) (by (simp [List.take_of_length_le, Zp, Zh]))) | (exact Zm rfl (by first | (simp; done) | omega | (simp; omega))) | (exact congrArg (SV.int _) (by first | omega | (simp (disch := omega) only [lnB, Z9, Zd] <;> omega) | (simp; done) | (simp <;> omega))) | ((conv => whnf); refine ⟨?_, ?_⟩) | exact trivial | (simp only [ren, renB]; done) | rfl)))
       · refine ⟨(2, o2), ⟨by simp, by dsimp only; rw [hst, Jr h, ho2, List.append_nil]⟩, by simp, ?_⟩
         dsimp only
         conv => whnf
         exact GOES.cA h0
     · have hst := (Vy l[i]).2.2.1
       conv => whnf
       repeat' ((first | (refine NEED.mk ⟨by decide, by decide, rfl⟩ ?_; conv => whnf) | (refine NEED.mk (ZM 16 rfl rfl rfl (by simp) (by omega)) ?_; conv => whnf) | refine AU ?_ | (refine IW (fun h => ?_) (fun h => ?_) <;> try (exfalso; omega))) <;> conv => whnf)
       · refine ⟨(3, o2 ++ [l[i].o.t]), ⟨by simp, by dsimp only; rw [hst, Jq h, ho2, List.append_assoc]⟩, by simp, ?_⟩
         dsimp only
         conv => whnf
         (refine GOES.keeping h0 [4, 2] rfl rfl rfl (by first | rfl | (simp only [Z4, Z3, Z0 _ (Zj _), Bool.and_self, Bool.and_true] <;> rfl)) ?_ ?_ <;> (repeat' (first | (with_reducible rfl) | (exact Z6 (Zj _) (Z2 _ (Zj _))) | (exact Z6 (Zj _) (by (simp [List.take_of_length_le, Zp, Zh]))) | (exact Zm rfl (by first | (simp; done) | omega | (simp; omega))) | (exact congrArg (SV.int _) (by first | omega | (simp (disch := omega) only [lnB, Z9, Zd] <;> omega) | (simp; done) | (simp <;> omega))) | ((conv => whnf); refine ⟨?_, ?_⟩) | exact trivial | (simp only [ren, renB]; done) | rfl)))
       · refine ⟨(3, o2), ⟨by simp, by dsimp only; rw [hst, Jr h, ho2, List.append_nil]⟩, by simp, ?_⟩
         dsimp only
         conv => whnf
         exact GOES.cA h0
     · have hst := (Vy l[i]).2.2.2
       conv => whnf
       repeat' ((first | (refine NEED.mk ⟨by decide, by decide, rfl⟩ ?_; conv => whnf) | (refine NEED.mk (ZM 16 rfl rfl rfl (by simp) (by omega)) ?_; conv => whnf) | refine AU ?_ | (refine IW (fun h => ?_) (fun h => ?_) <;> try (exfalso; omega))) <;> conv => whnf)
       · refine ⟨(4, o2 ++ [l[i].g.t]), ⟨by simp, by dsimp only; rw [hst, Jq h, ho2, List.append_assoc]⟩, by simp, ?_⟩
         dsimp only
         conv => whnf
         (refine GOES.keeping h0 [4, 2] rfl rfl rfl (by first | rfl | (simp only [Z4, Z3, Z0 _ (Zj _), Bool.and_self, Bool.and_true] <;> rfl)) ?_ ?_ <;> (repeat' (first | (with_reducible rfl) | (exact Z6 (Zj _) (Z2 _ (Zj _))) | (exact Z6 (Zj _) (by (simp [List.take_of_length_le, Zp, Zh]))) | (exact Zm rfl (by first | (simp; done) | omega | (simp; omega))) | (exact congrArg (SV.int _) (by first | omega | (simp (disch := omega) only [lnB, Z9, Zd] <;> omega) | (simp; done) | (simp <;> omega))) | ((conv => whnf); refine ⟨?_, ?_⟩) | exact trivial | (simp only [ren, renB]; done) | rfl)))
       · refine ⟨(4, o2), ⟨by simp, by dsimp only; rw [hst, Jr h, ho2, List.append_nil]⟩, by simp, ?_⟩
         dsimp only
         conv => whnf
         exact GOES.cA h0
   · obtain rfl : j = 4 := by omega
     rw [Z8e] at ho2
     conv => whnf
     repeat' ((first | refine AU ?_ | (refine IW (fun h => ?_) (fun h => ?_) <;> try (exfalso; omega))) <;> conv => whnf)
     refine ⟨i + 1, by omega, by omega, ?_⟩
     rw [hs, ← ho2]
     conv => whnf
     (refine GOES.cutting h0 rfl rfl rfl (by first | rfl | (simp only [Z4, Z3, Z0 _ (Zj _), Bool.and_self, Bool.and_true] <;> rfl)) ?_ ?_ <;> (repeat' (first | (with_reducible rfl) | (exact Zm rfl (by first | (simp; done) | omega | (simp; omega))) | (exact congrArg (SV.int _) (by first | omega | (simp (disch := omega) only [lnB, Z9, Zd] <;> omega) | (simp; done) | (simp <;> omega))) | (exact congrArg (Hp.rows _) (by rfl)) | ((conv => whnf); refine ⟨?_, ?_⟩) | exact trivial | rfl)))
 · have hie : i = l.length := by omega
   subst hie
   rw [List.take_length] at hli ⊢
   generalize l.flatMap Yp = out at *
   have hm : (out.mergeSort (leC cmpL)).length = out.length := List.length_mergeSort out
   have hcl := Ur (out.mergeSort (leC cmpL))
   have hcc : (Zg (out.mergeSort (leC cmpL)) ++ List.replicate ((out.mergeSort (leC cmpL)).length - (Zg (out.mergeSort (leC cmpL))).length) ([] : List UInt8)).length * 16 ≤ 140741783322624 := by rw [List.length_append, List.length_replicate]; omega
   repeat' ((first | refine AU ?_ | (refine IW (fun h => ?_) (fun h => ?_) <;> try (exfalso; omega))) <;> conv => whnf)
   refine CALL.aA [1] (Z6F out (by omega)) ?_
   rintro r O nx ⟨rfl, rfl, rfl⟩
   conv => whnf
   rw [← hm]
   refine CALL.aA [1] (Z35 (out.mergeSort (leC cmpL)) (by omega)) ?_
   rintro r O nx ⟨rfl, rfl, rfl⟩
   conv => whnf
   refine CALL.aA [1] (Z6D (Zg (out.mergeSort (leC cmpL)) ++ List.replicate ((out.mergeSort (leC cmpL)).length - (Zg (out.mergeSort (leC cmpL))).length) ([] : List UInt8)) (Zg (out.mergeSort (leC cmpL))).length (by simp) hcc) ?_
   rintro r O nx ⟨rfl, rfl, rfl⟩
   conv => whnf
   refine FIN.aA h0 [1] (.sl (.loc 1) 0 1 (setL cmpL out).length (some (setL cmpL out).length)) [(1, .rows 1 ((setL cmpL out ++ List.replicate ((out.mergeSort (leC cmpL)).length - (Zg (out.mergeSort (leC cmpL))).length) ([] : List UInt8)).map Zh))] ?_
   exact ⟨_, by unfold setL; omega, rfl, rfl, rfl⟩
def Yi : Plan := (YM [(0, 1), (1, 1), (2, 1), (3, 1), (4, 1), (6, 1), (7, 1), (8, 1), (9, 1), (10, 1), (5, 3), (11, 3), (12, 1), (13, 1)])
def Yj : Plan := (YM [(0, 1), (1, 1), (2, 1), (3, 1), (4, 1), (5, 1), (6, 1), (7, 1), (8, 1), (9, 1), (11, 1), (12, 1), (10, 2), (13, 2), (14, 3), (15, 1), (16, 1), (17, 1)])
def Yk : Plan := (YM [(0, 1), (1, 1), (2, 1), (3, 1), (4, 1), (5, 1), (6, 1), (7, 1), (8, 1), (9, 2), (10, 2), (11, 1), (12, 1)])
theorem W0 {α : Type} [DecidableEq α] {out : List α} {q : α} (h : out.length = 0 ∨ ∃ h0 : 0 < out.length, out[out.length - 1]'(by omega) ≠ q) : Z00 out q = out ++ [q] := by
 unfold Z00
 rcases h with h | ⟨h0, h⟩
 · have := List.length_eq_zero_iff.1 h
   subst this; rfl
 · have hne : out ≠ [] := fun e => by subst e; simp at h0
   rw [List.getLast?_eq_some_getLast hne, List.getLast_eq_getElem]
   simp only
   rw [if_pos h]
theorem Z0l {α : Type} [DecidableEq α] {out : List α} {q : α} (h : ∃ h0 : 0 < out.length, out[out.length - 1]'(by omega) = q) : Z00 out q = out := by
 obtain ⟨h0, h⟩ := h
 unfold Z00
 have hne : out ≠ [] := fun e => by subst e; simp at h0
 rw [List.getLast?_eq_some_getLast hne, List.getLast_eq_getElem]
 simp only
 rw [if_neg (by simpa using h)]
theorem Z72 {α : Type} [DecidableEq α] {c : α → α → Int} (out : List α) : Y2 c out [] [] = out := by unfold Y2; rfl
theorem Z1J {α : Type} [DecidableEq α] {c : α → α → Int} {out a b : List α} (x : α) (h : b = [] ∨ ∃ y t, b = y :: t ∧ c x y ≤ 0) : Y2 c out (x :: a) b = Y2 c (Z00 out x) a b := by
 rcases h with rfl | ⟨y, t, rfl, h⟩
 · conv => lhs; unfold Y2
 · conv => lhs; unfold Y2
   rw [if_pos h]
theorem WP {α : Type} [DecidableEq α] {c : α → α → Int} {out a b : List α} (y : α) (h : a = [] ∨ ∃ x t, a = x :: t ∧ ¬ c x y ≤ 0) : Y2 c out a (y :: b) = Y2 c (Z00 out y) a b := by
 rcases h with rfl | ⟨x, t, rfl, h⟩
 · conv => lhs; unfold Y2
 · conv => lhs; unfold Y2
   rw [if_neg h]
theorem Z4y {l : List Tm} : (U0 Yb l).length ≤ l.length := by
 rw [UQ triT _ l (Nat.le_refl _)]; exact Us l
theorem ZP {l : List Tm} {i k : Nat} (h : i < l.length) (e : k = i) : (l.map Zw)[k]? = some (Zw l[i]) := by subst e; rw [List.getElem?_map, List.getElem?_eq_getElem h]; rfl
abbrev Z9y (out : List Tm) (q : Tm) : Prop := out.length = 0 ∨ ∃ h0 : 0 < out.length, out[out.length - 1]'(by omega) ≠ q
set_option maxHeartbeats 8000000 in
theorem Ux (A : List Tm) (hA : A.length * 56 ≤ 140737488351232) : ∀ (k n i : Nat) (hk : n ≤ k) (hi : i + n ≤ A.length), Does Tryz.prog tab 74 1 [.sl (.loc 0) i 4 n none] [] [(0, .rows 4 (A.map Zw))] (Z57 Zw 4 1 (U0 Yb ((A.drop i).take n)))
 | k, n, i, hk, hi => by
   obtain ⟨l, hl⟩ : ∃ l, l = (A.drop i).take n := ⟨_, rfl⟩
   have hln : l.length = n := by rw [hl]; simp; omega
   have hrows : ((A.map Zw).drop i).take n = l.map Zw := by rw [hl, List.map_take, List.map_drop]
   rw [← hl]
   refine Does.enter Z5 (g := 74) (fn := Tryz.f74) Tryz.call74 Tryz.func74 rfl 79 rfl rfl [.tmp 2] rfl ?_
   intro w0 F η0 h0
   conv => whnf
   repeat' ((first | (rw [hrows]; conv => whnf) | (refine NEED.mk (ZM 56 rfl rfl (by rw [List.length_map]; exact hln) (by simp) (by omega)) ?_; conv => whnf) | refine AU ?_ | (refine IW (fun h => ?_) (fun h => ?_) <;> try (exfalso; omega))) <;> conv => whnf)
   · have hs : U0 Yb l = l := by unfold U0; rw [if_pos (by omega)]
     rw [hs]
     rw [Nat.zero_add]
     exact FIN.rows h0 2 4 n rfl rfl rfl (Zc _) ⟨by rw [hln], rfl, rfl⟩
   · have hs : U0 Yb l = Y2 Yb [] (U0 Yb (l.take (n / 2))) (U0 Yb (l.drop (n / 2))) := by
       conv => lhs; unfold U0
       rw [if_neg (by omega), hln]
     have e1 : l.take (n / 2) = (A.drop i).take (n / 2) := by rw [hl, List.take_take, Nat.min_eq_left (by omega)]
     have e2 : l.drop (n / 2) = (A.drop (i + n / 2)).take (n - n / 2) := by rw [hl, List.drop_take, List.drop_drop]
     have hn2 : 2 ≤ n := by omega
     obtain ⟨k', rfl⟩ : ∃ k', k = k' + 1 := ⟨k - 1, by omega⟩
     have r1 := Ux A hA k' (n / 2) i (by omega) (by omega)
     have r2 := Ux A hA k' (n - n / 2) (i + n / 2) (by omega) (by omega)
     rw [← e1] at r1
     rw [← e2] at r2
     have l1 := Z4y (l := l.take (n / 2))
     have l2 := Z4y (l := l.drop (n / 2))
     generalize U0 Yb (l.take (n / 2)) = X at r1 hs l1
     generalize U0 Yb (l.drop (n / 2)) = Y at r2 hs l2
     have hw : IntKind.i64.wrap (Int.tdiv (n : Int) 2) = ((n / 2 : Nat) : Int) := by rw [Int.tdiv_eq_ediv_of_nonneg (by omega), Z9 (by omega) (by omega)]; omega
     repeat' ((first | refine DRAWN.of (id := 3) Z5 mixed Yi (by kernel_rfl) ?_ | refine DRAWN.of (id := 7) Z5 mixed Yj (by kernel_rfl) ?_ | refine DRAWN.of (id := 12) Z5 mixed Yk (by kernel_rfl) ?_ | refine ADD.mk (fun _ _ => ?_) | refine AD ?_ | refine FORK.mk ?_ ?_ | (rw [hw]; conv => whnf) | (rw [Int.toNat_natCast]; conv => whnf) | refine AU ?_ | (refine IW (fun h => ?_) (fun h => ?_) <;> try (exfalso; omega))) <;> conv => whnf)
     refine CALL.aA [0] (r1) ?_
     rintro r O nx ⟨rfl, rfl, rfl⟩
     conv => whnf
     repeat' ((first | refine DRAWN.of (id := 3) Z5 mixed Yi (by kernel_rfl) ?_ | refine DRAWN.of (id := 7) Z5 mixed Yj (by kernel_rfl) ?_ | refine DRAWN.of (id := 12) Z5 mixed Yk (by kernel_rfl) ?_ | refine ADD.mk (fun _ _ => ?_) | refine AD ?_ | refine FORK.mk ?_ ?_ | (rw [hw]; conv => whnf) | (rw [Int.toNat_natCast]; conv => whnf) | refine AU ?_ | (refine IW (fun h => ?_) (fun h => ?_) <;> try (exfalso; omega))) <;> conv => whnf)
     refine CALL.aA [0] (r2) ?_
     rintro r O nx ⟨rfl, rfl, rfl⟩
     conv => whnf
     repeat' ((first | refine DRAWN.of (id := 3) Z5 mixed Yi (by kernel_rfl) ?_ | refine DRAWN.of (id := 7) Z5 mixed Yj (by kernel_rfl) ?_ | refine DRAWN.of (id := 12) Z5 mixed Yk (by kernel_rfl) ?_ | refine ADD.mk (fun _ _ => ?_) | refine AD ?_ | refine FORK.mk ?_ ?_ | refine AU ?_ | (refine IW (fun h => ?_) (fun h => ?_) <;> try (exfalso; omega))) <;> conv => whnf)
     refine LOOP.nil 5 4 rfl ?_
     refine LOOP.go Z5 [] (X := List Tm × Nat × Nat) (fun x => x.2.1 ≤ X.length ∧ x.2.2 ≤ Y.length ∧ x.1.length ≤ x.2.1 + x.2.2 ∧ U0 Yb l = Y2 Yb x.1 (X.drop x.2.1) (Y.drop x.2.2))
       (fun x => [(3, .sl (.loc 1) x.2.1 4 (X.length - x.2.1) none), (4, .sl (.loc 2) x.2.2 4 (Y.length - x.2.2) none), (5, .sl (.loc 3) 0 4 x.1.length none)]) (fun x => [(1, .rows 4 (X.map Zw)), (2, .rows 4 (Y.map Zw)), (3, .rows 4 (x.1.map Zw))]) 4 (fun x => (X.length - x.2.1) + (Y.length - x.2.2)) ([], 0, 0) ⟨by simp, by simp, by simp, hs⟩ ?_
     conv => whnf
     refine ⟨by exact GOES.cA h0, ?_⟩
     rintro ⟨out, p, q⟩ ⟨hp, hq, ho, hr⟩
     dsimp only at hp hq ho hr ⊢
     have hl1 : X.length + Y.length ≤ A.length := by simp at l1 l2; omega
     have hlast : ∀ (h : 0 < out.length), IntKind.i64.wrap ((out.length : Int) - 1) = ((out.length - 1 : Nat) : Int) := fun h => by rw [Z9 (by omega) (by omega)]; omega
     by_cases hpn : p < X.length <;> by_cases hqm : q < Y.length
     · have ha : X.drop p = X[p] :: X.drop (p + 1) := List.drop_eq_getElem_cons hpn
       have hb : Y.drop q = Y[q] :: Y.drop (q + 1) := List.drop_eq_getElem_cons hqm
       rw [ha, hb] at hr
       by_cases hc : Yb X[p] Y[q] ≤ 0
       · rw [Z1J _ (.inr ⟨_, _, rfl, hc⟩), ← hb] at hr
         have hN2 : Z9y out X[p] ∨ ∃ h0 : 0 < out.length, out[out.length - 1]'(by omega) = X[p] := by
           by_cases h0 : out.length = 0
           · exact .inl (.inl h0)
           · by_cases he : out[out.length - 1]'(by omega) = X[p]
             · exact .inr ⟨by omega, he⟩
             · exact .inl (.inr ⟨by omega, he⟩)
         rcases hN2 with hN | hN
         · have hr := hr.trans (congrArg (fun z => Y2 Yb z (X.drop (p + 1)) (Y.drop q)) (W0 hN))
           conv => whnf
           repeat' ((first | refine DRAWN.of (id := 3) Z5 mixed Yi (by kernel_rfl) ?_ | refine DRAWN.of (id := 7) Z5 mixed Yj (by kernel_rfl) ?_ | refine DRAWN.of (id := 12) Z5 mixed Yk (by kernel_rfl) ?_ | refine ADD.mk (fun _ _ => ?_) | refine AD ?_ | refine FORK.mk ?_ ?_ | refine CALL.value (ZO _ _) rfl rfl ?_ | (refine NEED.mk (ZM 56 rfl rfl rfl (by simp) (by omega)) ?_; conv => whnf) | (refine GET.at (row := Zw (X[p]'(by omega))) (ZP (by omega) (by omega)) ?_; conv => whnf) | (refine GET.at (row := Zw (Y[q]'(by omega))) (ZP (by omega) (by omega)) ?_; conv => whnf) | (refine GET.at (row := Zw (out[out.length - 1]'(by omega))) (ZP (by omega) (by rw [hlast (by omega)]; omega)) ?_; conv => whnf) | refine AU ?_ | (refine IW (fun h => ?_) (fun h => ?_) <;> try (exfalso; omega))) <;> conv => whnf)
           all_goals first
             | (exfalso; omega)
             | (exfalso; rcases hN with h1 | ⟨h1, h2⟩; omega; exact h2 (Tm.ext' (by simp only [Zw, List.cons.injEq, SV.int.injEq, SV.str.injEq, true_and, and_true]; exact h)))
             | (refine ⟨(out ++ [X[p]], p + 1, q), ⟨by dsimp only; omega, by dsimp only; omega, by simp only [List.length_append, List.length_cons, List.length_nil]; omega, hr⟩, by dsimp only; omega, ?_⟩; dsimp only; (conv => whnf); (refine GOES.keeping h0 [1, 2, 6] rfl rfl rfl (by first | rfl | (simp only [Z4, Z3, Z0 _ (Zc _), Bool.and_self, Bool.and_true] <;> rfl)) ?_ ?_ <;> (repeat' (first | (with_reducible rfl) | (exact Z6 (Zc _) (Z2 _ (Zc _))) | (exact Z6 (Zc _) (by (simp [List.take_of_length_le, Zp, Zw]))) | (exact Zm rfl (by first | (simp; done) | omega | (simp; omega))) | (exact congrArg (SV.int _) (by first | omega | (simp (disch := omega) only [lnB, Z9, Zd] <;> omega) | (simp; done) | (simp <;> omega))) | ((conv => whnf); refine ⟨?_, ?_⟩) | exact trivial | (simp only [ren, renB]; done) | rfl))); done)
             | (refine ⟨(out ++ [X[p]], p + 1, q), ⟨by dsimp only; omega, by dsimp only; omega, by simp only [List.length_append, List.length_cons, List.length_nil]; omega, hr⟩, by dsimp only; omega, ?_⟩; dsimp only; (conv => whnf); (refine GOES.keeping h0 [1, 2, 5] rfl rfl rfl (by first | rfl | (simp only [Z4, Z3, Z0 _ (Zc _), Bool.and_self, Bool.and_true] <;> rfl)) ?_ ?_ <;> (repeat' (first | (with_reducible rfl) | (exact Z6 (Zc _) (Z2 _ (Zc _))) | (exact Z6 (Zc _) (by (simp [List.take_of_length_le, Zp, Zw]))) | (exact Zm rfl (by first | (simp; done) | omega | (simp; omega))) | (exact congrArg (SV.int _) (by first | omega | (simp (disch := omega) only [lnB, Z9, Zd] <;> omega) | (simp; done) | (simp <;> omega))) | ((conv => whnf); refine ⟨?_, ?_⟩) | exact trivial | (simp only [ren, renB]; done) | rfl))); done)
             | (refine ⟨(out ++ [X[p]], p + 1, q), ⟨by dsimp only; omega, by dsimp only; omega, by simp only [List.length_append, List.length_cons, List.length_nil]; omega, hr⟩, by dsimp only; omega, ?_⟩; dsimp only; (conv => whnf); (refine GOES.keeping h0 [1, 2, 7] rfl rfl rfl (by first | rfl | (simp only [Z4, Z3, Z0 _ (Zc _), Bool.and_self, Bool.and_true] <;> rfl)) ?_ ?_ <;> (repeat' (first | (with_reducible rfl) | (exact Z6 (Zc _) (Z2 _ (Zc _))) | (exact Z6 (Zc _) (by (simp [List.take_of_length_le, Zp, Zw]))) | (exact Zm rfl (by first | (simp; done) | omega | (simp; omega))) | (exact congrArg (SV.int _) (by first | omega | (simp (disch := omega) only [lnB, Z9, Zd] <;> omega) | (simp; done) | (simp <;> omega))) | ((conv => whnf); refine ⟨?_, ?_⟩) | exact trivial | (simp only [ren, renB]; done) | rfl))); done)
             | trace_state
         · have hr := hr.trans (congrArg (fun z => Y2 Yb z (X.drop (p + 1)) (Y.drop q)) (Z0l hN))
           conv => whnf
           repeat' ((first | refine DRAWN.of (id := 3) Z5 mixed Yi (by kernel_rfl) ?_ | refine DRAWN.of (id := 7) Z5 mixed Yj (by kernel_rfl) ?_ | refine DRAWN.of (id := 12) Z5 mixed Yk (by kernel_rfl) ?_ | refine ADD.mk (fun _ _ => ?_) | refine AD ?_ | refine FORK.mk ?_ ?_ | refine CALL.value (ZO _ _) rfl rfl ?_ | (refine NEED.mk (ZM 56 rfl rfl rfl (by simp) (by omega)) ?_; conv => whnf) | (refine GET.at (row := Zw (X[p]'(by omega))) (ZP (by omega) (by omega)) ?_; conv => whnf) | (refine GET.at (row := Zw (Y[q]'(by omega))) (ZP (by omega) (by omega)) ?_; conv => whnf) | (refine GET.at (row := Zw (out[out.length - 1]'(by omega))) (ZP (by omega) (by rw [hlast (by omega)]; omega)) ?_; conv => whnf) | refine AU ?_ | (refine IW (fun h => ?_) (fun h => ?_) <;> try (exfalso; omega))) <;> conv => whnf)
           all_goals first
             | (exfalso; omega)
             | (exfalso; have h2 := hN.2; rw [h2] at h; simp at h; done)
             | (exfalso; have h2 := hN.1; omega)
             | (refine ⟨(out, p + 1, q), ⟨by dsimp only; omega, by dsimp only; omega, by dsimp only; omega, hr⟩, by dsimp only; omega, ?_⟩; dsimp only; (conv => whnf); (refine GOES.cutting h0 rfl rfl rfl (by first | rfl | (simp only [Z4, Z3, Z0 _ (Zc _), Bool.and_self, Bool.and_true] <;> rfl)) ?_ ?_ <;> (repeat' (first | (with_reducible rfl) | (exact Zm rfl (by first | (simp; done) | omega | (simp; omega))) | (exact congrArg (SV.int _) (by first | omega | (simp (disch := omega) only [lnB, Z9, Zd] <;> omega) | (simp; done) | (simp <;> omega))) | (exact congrArg (Hp.rows _) (by rfl)) | ((conv => whnf); refine ⟨?_, ?_⟩) | exact trivial | rfl))); done)
             | trace_state
       · rw [WP _ (.inr ⟨_, _, rfl, hc⟩), ← ha] at hr
         have hN2 : Z9y out Y[q] ∨ ∃ h0 : 0 < out.length, out[out.length - 1]'(by omega) = Y[q] := by
           by_cases h0 : out.length = 0
           · exact .inl (.inl h0)
           · by_cases he : out[out.length - 1]'(by omega) = Y[q]
             · exact .inr ⟨by omega, he⟩
             · exact .inl (.inr ⟨by omega, he⟩)
         rcases hN2 with hN | hN
         · have hr := hr.trans (congrArg (fun z => Y2 Yb z (X.drop p) (Y.drop (q + 1))) (W0 hN))
           conv => whnf
           repeat' ((first | refine DRAWN.of (id := 3) Z5 mixed Yi (by kernel_rfl) ?_ | refine DRAWN.of (id := 7) Z5 mixed Yj (by kernel_rfl) ?_ | refine DRAWN.of (id := 12) Z5 mixed Yk (by kernel_rfl) ?_ | refine ADD.mk (fun _ _ => ?_) | refine AD ?_ | refine FORK.mk ?_ ?_ | refine CALL.value (ZO _ _) rfl rfl ?_ | (refine NEED.mk (ZM 56 rfl rfl rfl (by simp) (by omega)) ?_; conv => whnf) | (refine GET.at (row := Zw (X[p]'(by omega))) (ZP (by omega) (by omega)) ?_; conv => whnf) | (refine GET.at (row := Zw (Y[q]'(by omega))) (ZP (by omega) (by omega)) ?_; conv => whnf) | (refine GET.at (row := Zw (out[out.length - 1]'(by omega))) (ZP (by omega) (by rw [hlast (by omega)]; omega)) ?_; conv => whnf) | refine AU ?_ | (refine IW (fun h => ?_) (fun h => ?_) <;> try (exfalso; omega))) <;> conv => whnf)
           all_goals first
             | (exfalso; omega)
             | (exfalso; rcases hN with h1 | ⟨h1, h2⟩; omega; exact h2 (Tm.ext' (by simp only [Zw, List.cons.injEq, SV.int.injEq, SV.str.injEq, true_and, and_true]; exact h)))
             | (refine ⟨(out ++ [Y[q]], p, q + 1), ⟨by dsimp only; omega, by dsimp only; omega, by simp only [List.length_append, List.length_cons, List.length_nil]; omega, hr⟩, by dsimp only; omega, ?_⟩; dsimp only; (conv => whnf); (refine GOES.keeping h0 [1, 2, 6] rfl rfl rfl (by first | rfl | (simp only [Z4, Z3, Z0 _ (Zc _), Bool.and_self, Bool.and_true] <;> rfl)) ?_ ?_ <;> (repeat' (first | (with_reducible rfl) | (exact Z6 (Zc _) (Z2 _ (Zc _))) | (exact Z6 (Zc _) (by (simp [List.take_of_length_le, Zp, Zw]))) | (exact Zm rfl (by first | (simp; done) | omega | (simp; omega))) | (exact congrArg (SV.int _) (by first | omega | (simp (disch := omega) only [lnB, Z9, Zd] <;> omega) | (simp; done) | (simp <;> omega))) | ((conv => whnf); refine ⟨?_, ?_⟩) | exact trivial | (simp only [ren, renB]; done) | rfl))); done)
             | (refine ⟨(out ++ [Y[q]], p, q + 1), ⟨by dsimp only; omega, by dsimp only; omega, by simp only [List.length_append, List.length_cons, List.length_nil]; omega, hr⟩, by dsimp only; omega, ?_⟩; dsimp only; (conv => whnf); (refine GOES.keeping h0 [1, 2, 5] rfl rfl rfl (by first | rfl | (simp only [Z4, Z3, Z0 _ (Zc _), Bool.and_self, Bool.and_true] <;> rfl)) ?_ ?_ <;> (repeat' (first | (with_reducible rfl) | (exact Z6 (Zc _) (Z2 _ (Zc _))) | (exact Z6 (Zc _) (by (simp [List.take_of_length_le, Zp, Zw]))) | (exact Zm rfl (by first | (simp; done) | omega | (simp; omega))) | (exact congrArg (SV.int _) (by first | omega | (simp (disch := omega) only [lnB, Z9, Zd] <;> omega) | (simp; done) | (simp <;> omega))) | ((conv => whnf); refine ⟨?_, ?_⟩) | exact trivial | (simp only [ren, renB]; done) | rfl))); done)
             | (refine ⟨(out ++ [Y[q]], p, q + 1), ⟨by dsimp only; omega, by dsimp only; omega, by simp only [List.length_append, List.length_cons, List.length_nil]; omega, hr⟩, by dsimp only; omega, ?_⟩; dsimp only; (conv => whnf); (refine GOES.keeping h0 [1, 2, 7] rfl rfl rfl (by first | rfl | (simp only [Z4, Z3, Z0 _ (Zc _), Bool.and_self, Bool.and_true] <;> rfl)) ?_ ?_ <;> (repeat' (first | (with_reducible rfl) | (exact Z6 (Zc _) (Z2 _ (Zc _))) | (exact Z6 (Zc _) (by (simp [List.take_of_length_le, Zp, Zw]))) | (exact Zm rfl (by first | (simp; done) | omega | (simp; omega))) | (exact congrArg (SV.int _) (by first | omega | (simp (disch := omega) only [lnB, Z9, Zd] <;> omega) | (simp; done) | (simp <;> omega))) | ((conv => whnf); refine ⟨?_, ?_⟩) | exact trivial | (simp only [ren, renB]; done) | rfl))); done)
             | trace_state
         · have hr := hr.trans (congrArg (fun z => Y2 Yb z (X.drop p) (Y.drop (q + 1))) (Z0l hN))
           conv => whnf
           repeat' ((first | refine DRAWN.of (id := 3) Z5 mixed Yi (by kernel_rfl) ?_ | refine DRAWN.of (id := 7) Z5 mixed Yj (by kernel_rfl) ?_ | refine DRAWN.of (id := 12) Z5 mixed Yk (by kernel_rfl) ?_ | refine ADD.mk (fun _ _ => ?_) | refine AD ?_ | refine FORK.mk ?_ ?_ | refine CALL.value (ZO _ _) rfl rfl ?_ | (refine NEED.mk (ZM 56 rfl rfl rfl (by simp) (by omega)) ?_; conv => whnf) | (refine GET.at (row := Zw (X[p]'(by omega))) (ZP (by omega) (by omega)) ?_; conv => whnf) | (refine GET.at (row := Zw (Y[q]'(by omega))) (ZP (by omega) (by omega)) ?_; conv => whnf) | (refine GET.at (row := Zw (out[out.length - 1]'(by omega))) (ZP (by omega) (by rw [hlast (by omega)]; omega)) ?_; conv => whnf) | refine AU ?_ | (refine IW (fun h => ?_) (fun h => ?_) <;> try (exfalso; omega))) <;> conv => whnf)
           all_goals first
             | (exfalso; omega)
             | (exfalso; have h2 := hN.2; rw [h2] at h; simp at h; done)
             | (exfalso; have h2 := hN.1; omega)
             | (refine ⟨(out, p, q + 1), ⟨by dsimp only; omega, by dsimp only; omega, by dsimp only; omega, hr⟩, by dsimp only; omega, ?_⟩; dsimp only; (conv => whnf); (refine GOES.cutting h0 rfl rfl rfl (by first | rfl | (simp only [Z4, Z3, Z0 _ (Zc _), Bool.and_self, Bool.and_true] <;> rfl)) ?_ ?_ <;> (repeat' (first | (with_reducible rfl) | (exact Zm rfl (by first | (simp; done) | omega | (simp; omega))) | (exact congrArg (SV.int _) (by first | omega | (simp (disch := omega) only [lnB, Z9, Zd] <;> omega) | (simp; done) | (simp <;> omega))) | (exact congrArg (Hp.rows _) (by rfl)) | ((conv => whnf); refine ⟨?_, ?_⟩) | exact trivial | rfl))); done)
             | trace_state
     · have ha : X.drop p = X[p] :: X.drop (p + 1) := List.drop_eq_getElem_cons hpn
       have hb : Y.drop q = [] := List.drop_eq_nil_of_le (by omega)
       rw [ha, hb, Z1J _ (.inl rfl), ← hb] at hr
       have hN2 : Z9y out X[p] ∨ ∃ h0 : 0 < out.length, out[out.length - 1]'(by omega) = X[p] := by
         by_cases h0 : out.length = 0
         · exact .inl (.inl h0)
         · by_cases he : out[out.length - 1]'(by omega) = X[p]
           · exact .inr ⟨by omega, he⟩
           · exact .inl (.inr ⟨by omega, he⟩)
       rcases hN2 with hN | hN
       · have hr := hr.trans (congrArg (fun z => Y2 Yb z (X.drop (p + 1)) (Y.drop q)) (W0 hN))
         conv => whnf
         repeat' ((first | refine DRAWN.of (id := 3) Z5 mixed Yi (by kernel_rfl) ?_ | refine DRAWN.of (id := 7) Z5 mixed Yj (by kernel_rfl) ?_ | refine DRAWN.of (id := 12) Z5 mixed Yk (by kernel_rfl) ?_ | refine ADD.mk (fun _ _ => ?_) | refine AD ?_ | refine FORK.mk ?_ ?_ | refine CALL.value (ZO _ _) rfl rfl ?_ | (refine NEED.mk (ZM 56 rfl rfl rfl (by simp) (by omega)) ?_; conv => whnf) | (refine GET.at (row := Zw (X[p]'(by omega))) (ZP (by omega) (by omega)) ?_; conv => whnf) | (refine GET.at (row := Zw (Y[q]'(by omega))) (ZP (by omega) (by omega)) ?_; conv => whnf) | (refine GET.at (row := Zw (out[out.length - 1]'(by omega))) (ZP (by omega) (by rw [hlast (by omega)]; omega)) ?_; conv => whnf) | refine AU ?_ | (refine IW (fun h => ?_) (fun h => ?_) <;> try (exfalso; omega))) <;> conv => whnf)
         all_goals first
           | (exfalso; omega)
           | (exfalso; rcases hN with h1 | ⟨h1, h2⟩; omega; exact h2 (Tm.ext' (by simp only [Zw, List.cons.injEq, SV.int.injEq, SV.str.injEq, true_and, and_true]; exact h)))
           | (refine ⟨(out ++ [X[p]], p + 1, q), ⟨by dsimp only; omega, by dsimp only; omega, by simp only [List.length_append, List.length_cons, List.length_nil]; omega, hr⟩, by dsimp only; omega, ?_⟩; dsimp only; (conv => whnf); (refine GOES.keeping h0 [1, 2, 6] rfl rfl rfl (by first | rfl | (simp only [Z4, Z3, Z0 _ (Zc _), Bool.and_self, Bool.and_true] <;> rfl)) ?_ ?_ <;> (repeat' (first | (with_reducible rfl) | (exact Z6 (Zc _) (Z2 _ (Zc _))) | (exact Z6 (Zc _) (by (simp [List.take_of_length_le, Zp, Zw]))) | (exact Zm rfl (by first | (simp; done) | omega | (simp; omega))) | (exact congrArg (SV.int _) (by first | omega | (simp (disch := omega) only [lnB, Z9, Zd] <;> omega) | (simp; done) | (simp <;> omega))) | ((conv => whnf); refine ⟨?_, ?_⟩) | exact trivial | (simp only [ren, renB]; done) | rfl))); done)
           | (refine ⟨(out ++ [X[p]], p + 1, q), ⟨by dsimp only; omega, by dsimp only; omega, by simp only [List.length_append, List.length_cons, List.length_nil]; omega, hr⟩, by dsimp only; omega, ?_⟩; dsimp only; (conv => whnf); (refine GOES.keeping h0 [1, 2, 5] rfl rfl rfl (by first | rfl | (simp only [Z4, Z3, Z0 _ (Zc _), Bool.and_self, Bool.and_true] <;> rfl)) ?_ ?_ <;> (repeat' (first | (with_reducible rfl) | (exact Z6 (Zc _) (Z2 _ (Zc _))) | (exact Z6 (Zc _) (by (simp [List.take_of_length_le, Zp, Zw]))) | (exact Zm rfl (by first | (simp; done) | omega | (simp; omega))) | (exact congrArg (SV.int _) (by first | omega | (simp (disch := omega) only [lnB, Z9, Zd] <;> omega) | (simp; done) | (simp <;> omega))) | ((conv => whnf); refine ⟨?_, ?_⟩) | exact trivial | (simp only [ren, renB]; done) | rfl))); done)
           | (refine ⟨(out ++ [X[p]], p + 1, q), ⟨by dsimp only; omega, by dsimp only; omega, by simp only [List.length_append, List.length_cons, List.length_nil]; omega, hr⟩, by dsimp only; omega, ?_⟩; dsimp only; (conv => whnf); (refine GOES.keeping h0 [1, 2, 7] rfl rfl rfl (by first | rfl | (simp only [Z4, Z3, Z0 _ (Zc _), Bool.and_self, Bool.and_true] <;> rfl)) ?_ ?_ <;> (repeat' (first | (with_reducible rfl) | (exact Z6 (Zc _) (Z2 _ (Zc _))) | (exact Z6 (Zc _) (by (simp [List.take_of_length_le, Zp, Zw]))) | (exact Zm rfl (by first | (simp; done) | omega | (simp; omega))) | (exact congrArg (SV.int _) (by first | omega | (simp (disch := omega) only [lnB, Z9, Zd] <;> omega) | (simp; done) | (simp <;> omega))) | ((conv => whnf); refine ⟨?_, ?_⟩) | exact trivial | (simp only [ren, renB]; done) | rfl))); done)
           | trace_state
       · have hr := hr.trans (congrArg (fun z => Y2 Yb z (X.drop (p + 1)) (Y.drop q)) (Z0l hN))
         conv => whnf
         repeat' ((first | refine DRAWN.of (id := 3) Z5 mixed Yi (by kernel_rfl) ?_ | refine DRAWN.of (id := 7) Z5 mixed Yj (by kernel_rfl) ?_ | refine DRAWN.of (id := 12) Z5 mixed Yk (by kernel_rfl) ?_ | refine ADD.mk (fun _ _ => ?_) | refine AD ?_ | refine FORK.mk ?_ ?_ | refine CALL.value (ZO _ _) rfl rfl ?_ | (refine NEED.mk (ZM 56 rfl rfl rfl (by simp) (by omega)) ?_; conv => whnf) | (refine GET.at (row := Zw (X[p]'(by omega))) (ZP (by omega) (by omega)) ?_; conv => whnf) | (refine GET.at (row := Zw (Y[q]'(by omega))) (ZP (by omega) (by omega)) ?_; conv => whnf) | (refine GET.at (row := Zw (out[out.length - 1]'(by omega))) (ZP (by omega) (by rw [hlast (by omega)]; omega)) ?_; conv => whnf) | refine AU ?_ | (refine IW (fun h => ?_) (fun h => ?_) <;> try (exfalso; omega))) <;> conv => whnf)
         all_goals first
           | (exfalso; omega)
           | (exfalso; have h2 := hN.2; rw [h2] at h; simp at h; done)
           | (exfalso; have h2 := hN.1; omega)
           | (refine ⟨(out, p + 1, q), ⟨by dsimp only; omega, by dsimp only; omega, by dsimp only; omega, hr⟩, by dsimp only; omega, ?_⟩; dsimp only; (conv => whnf); (refine GOES.cutting h0 rfl rfl rfl (by first | rfl | (simp only [Z4, Z3, Z0 _ (Zc _), Bool.and_self, Bool.and_true] <;> rfl)) ?_ ?_ <;> (repeat' (first | (with_reducible rfl) | (exact Zm rfl (by first | (simp; done) | omega | (simp; omega))) | (exact congrArg (SV.int _) (by first | omega | (simp (disch := omega) only [lnB, Z9, Zd] <;> omega) | (simp; done) | (simp <;> omega))) | (exact congrArg (Hp.rows _) (by rfl)) | ((conv => whnf); refine ⟨?_, ?_⟩) | exact trivial | rfl))); done)
           | trace_state
     · have hb : Y.drop q = Y[q] :: Y.drop (q + 1) := List.drop_eq_getElem_cons hqm
       have ha : X.drop p = [] := List.drop_eq_nil_of_le (by omega)
       rw [ha, hb, WP _ (.inl rfl), ← ha] at hr
       have hN2 : Z9y out Y[q] ∨ ∃ h0 : 0 < out.length, out[out.length - 1]'(by omega) = Y[q] := by
         by_cases h0 : out.length = 0
         · exact .inl (.inl h0)
         · by_cases he : out[out.length - 1]'(by omega) = Y[q]
           · exact .inr ⟨by omega, he⟩
           · exact .inl (.inr ⟨by omega, he⟩)
       rcases hN2 with hN | hN
       · have hr := hr.trans (congrArg (fun z => Y2 Yb z (X.drop p) (Y.drop (q + 1))) (W0 hN))
         conv => whnf
         repeat' ((first | refine DRAWN.of (id := 3) Z5 mixed Yi (by kernel_rfl) ?_ | refine DRAWN.of (id := 7) Z5 mixed Yj (by kernel_rfl) ?_ | refine DRAWN.of (id := 12) Z5 mixed Yk (by kernel_rfl) ?_ | refine ADD.mk (fun _ _ => ?_) | refine AD ?_ | refine FORK.mk ?_ ?_ | refine CALL.value (ZO _ _) rfl rfl ?_ | (refine NEED.mk (ZM 56 rfl rfl rfl (by simp) (by omega)) ?_; conv => whnf) | (refine GET.at (row := Zw (X[p]'(by omega))) (ZP (by omega) (by omega)) ?_; conv => whnf) | (refine GET.at (row := Zw (Y[q]'(by omega))) (ZP (by omega) (by omega)) ?_; conv => whnf) | (refine GET.at (row := Zw (out[out.length - 1]'(by omega))) (ZP (by omega) (by rw [hlast (by omega)]; omega)) ?_; conv => whnf) | refine AU ?_ | (refine IW (fun h => ?_) (fun h => ?_) <;> try (exfalso; omega))) <;> conv => whnf)
         all_goals first
           | (exfalso; omega)
           | (exfalso; rcases hN with h1 | ⟨h1, h2⟩; omega; exact h2 (Tm.ext' (by simp only [Zw, List.cons.injEq, SV.int.injEq, SV.str.injEq, true_and, and_true]; exact h)))
           | (refine ⟨(out ++ [Y[q]], p, q + 1), ⟨by dsimp only; omega, by dsimp only; omega, by simp only [List.length_append, List.length_cons, List.length_nil]; omega, hr⟩, by dsimp only; omega, ?_⟩; dsimp only; (conv => whnf); (refine GOES.keeping h0 [1, 2, 6] rfl rfl rfl (by first | rfl | (simp only [Z4, Z3, Z0 _ (Zc _), Bool.and_self, Bool.and_true] <;> rfl)) ?_ ?_ <;> (repeat' (first | (with_reducible rfl) | (exact Z6 (Zc _) (Z2 _ (Zc _))) | (exact Z6 (Zc _) (by (simp [List.take_of_length_le, Zp, Zw]))) | (exact Zm rfl (by first | (simp; done) | omega | (simp; omega))) | (exact congrArg (SV.int _) (by first | omega | (simp (disch := omega) only [lnB, Z9, Zd] <;> omega) | (simp; done) | (simp <;> omega))) | ((conv => whnf); refine ⟨?_, ?_⟩) | exact trivial | (simp only [ren, renB]; done) | rfl))); done)
           | (refine ⟨(out ++ [Y[q]], p, q + 1), ⟨by dsimp only; omega, by dsimp only; omega, by simp only [List.length_append, List.length_cons, List.length_nil]; omega, hr⟩, by dsimp only; omega, ?_⟩; dsimp only; (conv => whnf); (refine GOES.keeping h0 [1, 2, 5] rfl rfl rfl (by first | rfl | (simp only [Z4, Z3, Z0 _ (Zc _), Bool.and_self, Bool.and_true] <;> rfl)) ?_ ?_ <;> (repeat' (first | (with_reducible rfl) | (exact Z6 (Zc _) (Z2 _ (Zc _))) | (exact Z6 (Zc _) (by (simp [List.take_of_length_le, Zp, Zw]))) | (exact Zm rfl (by first | (simp; done) | omega | (simp; omega))) | (exact congrArg (SV.int _) (by first | omega | (simp (disch := omega) only [lnB, Z9, Zd] <;> omega) | (simp; done) | (simp <;> omega))) | ((conv => whnf); refine ⟨?_, ?_⟩) | exact trivial | (simp only [ren, renB]; done) | rfl))); done)
           | (refine ⟨(out ++ [Y[q]], p, q + 1), ⟨by dsimp only; omega, by dsimp only; omega, by simp only [List.length_append, List.length_cons, List.length_nil]; omega, hr⟩, by dsimp only; omega, ?_⟩; dsimp only; (conv => whnf); (refine GOES.keeping h0 [1, 2, 7] rfl rfl rfl (by first | rfl | (simp only [Z4, Z3, Z0 _ (Zc _), Bool.and_self, Bool.and_true] <;> rfl)) ?_ ?_ <;> (repeat' (first | (with_reducible rfl) | (exact Z6 (Zc _) (Z2 _ (Zc _))) | (exact Z6 (Zc _) (by (simp [List.take_of_length_le, Zp, Zw]))) | (exact Zm rfl (by first | (simp; done) | omega | (simp; omega))) | (exact congrArg (SV.int _) (by first | omega | (simp (disch := omega) only [lnB, Z9, Zd] <;> omega) | (simp; done) | (simp <;> omega))) | ((conv => whnf); refine ⟨?_, ?_⟩) | exact trivial | (simp only [ren, renB]; done) | rfl))); done)
           | trace_state
       · have hr := hr.trans (congrArg (fun z => Y2 Yb z (X.drop p) (Y.drop (q + 1))) (Z0l hN))
         conv => whnf
         repeat' ((first | refine DRAWN.of (id := 3) Z5 mixed Yi (by kernel_rfl) ?_ | refine DRAWN.of (id := 7) Z5 mixed Yj (by kernel_rfl) ?_ | refine DRAWN.of (id := 12) Z5 mixed Yk (by kernel_rfl) ?_ | refine ADD.mk (fun _ _ => ?_) | refine AD ?_ | refine FORK.mk ?_ ?_ | refine CALL.value (ZO _ _) rfl rfl ?_ | (refine NEED.mk (ZM 56 rfl rfl rfl (by simp) (by omega)) ?_; conv => whnf) | (refine GET.at (row := Zw (X[p]'(by omega))) (ZP (by omega) (by omega)) ?_; conv => whnf) | (refine GET.at (row := Zw (Y[q]'(by omega))) (ZP (by omega) (by omega)) ?_; conv => whnf) | (refine GET.at (row := Zw (out[out.length - 1]'(by omega))) (ZP (by omega) (by rw [hlast (by omega)]; omega)) ?_; conv => whnf) | refine AU ?_ | (refine IW (fun h => ?_) (fun h => ?_) <;> try (exfalso; omega))) <;> conv => whnf)
         all_goals first
           | (exfalso; omega)
           | (exfalso; have h2 := hN.2; rw [h2] at h; simp at h; done)
           | (exfalso; have h2 := hN.1; omega)
           | (refine ⟨(out, p, q + 1), ⟨by dsimp only; omega, by dsimp only; omega, by dsimp only; omega, hr⟩, by dsimp only; omega, ?_⟩; dsimp only; (conv => whnf); (refine GOES.cutting h0 rfl rfl rfl (by first | rfl | (simp only [Z4, Z3, Z0 _ (Zc _), Bool.and_self, Bool.and_true] <;> rfl)) ?_ ?_ <;> (repeat' (first | (with_reducible rfl) | (exact Zm rfl (by first | (simp; done) | omega | (simp; omega))) | (exact congrArg (SV.int _) (by first | omega | (simp (disch := omega) only [lnB, Z9, Zd] <;> omega) | (simp; done) | (simp <;> omega))) | (exact congrArg (Hp.rows _) (by rfl)) | ((conv => whnf); refine ⟨?_, ?_⟩) | exact trivial | rfl))); done)
           | trace_state
     · have ha : X.drop p = [] := List.drop_eq_nil_of_le (by omega)
       have hb : Y.drop q = [] := List.drop_eq_nil_of_le (by omega)
       rw [ha, hb, Z72] at hr
       conv => whnf
       repeat' ((first | refine AU ?_ | (refine IW (fun h => ?_) (fun h => ?_) <;> try (exfalso; omega))) <;> conv => whnf)
       rw [hr]
       exact FIN.rows h0 3 4 out.length rfl rfl rfl (Zc _) ⟨rfl, rfl, rfl⟩
theorem Z73 (out : List Tm) (h : out.length * 56 ≤ 140737488351232) : Does Tryz.prog tab 74 1 [.sl (.loc 0) 0 4 out.length none] [] [(0, .rows 4 (out.map Zw))] (Z57 Zw 4 1 (setL Yb out)) := by
 have hT := Ux out h out.length out.length 0 (Nat.le_refl _) (by omega)
 rwa [List.drop_zero, List.take_length, UQ triT _ out (Nat.le_refl _)] at hT
def Z5p : Plan := (YM [(0, 1), (1, 1), (2, 1), (3, 1), (5, 1), (6, 1), (7, 1), (8, 1), (10, 1), (11, 1), (12, 1), (13, 1), (15, 1), (16, 1), (17, 1), (18, 1), (4, 2), (9, 2), (14, 2), (19, 2), (20, 1), (21, 3), (22, 0)])
theorem Z3m (l : List (List UInt8)) (a : List (List UInt8)) : (l ++ a).map ZZ = l.map ZZ ++ a.map ZZ := List.map_append
theorem WQ (l z : List Qd) (lim : Option Nat) (hl : Xg l) (hz : (l ++ z).length ≤ 1152921504606846976) : Does Tryz.prog tab 45 1 [.sl (.loc 0) 0 16 l.length lim] [] [(0, .rows 16 ((l ++ z).map ZA))]
   (Z57 Zh 1 1 (setL cmpL (ZF l))) := by
 unfold Xg at hl
 have hlen : ∀ i, ((l.take i).flatMap Yp).length ≤ (l.take i).length * 4 := fun i => Jp _ YT _
 unfold ZF
 refine Does.enter Z5 (g := 45) (fn := Tryz.f45) Tryz.call45 Tryz.func45 rfl 70 rfl rfl [.tmp 2] rfl ?_
 intro w0 F η0 h0
 conv => whnf
 refine LOOP.nil 3 4 rfl ?_
 refine LOOP.go Z5 [0] (X := Nat) (fun i => i ≤ l.length) (fun i => [(4, .int .i64 (i : Int)), (3, .sl (.loc 1) 0 4 (((l.take i).flatMap Yp).map ZZ).length none)]) (fun i => [(1, .rows 4 ((((l.take i).flatMap Yp).map ZZ).map Zw))]) 2 (fun i => l.length - i) 0 (by omega) ?_
 conv => whnf
 refine ⟨by (refine GOES.cutting h0 rfl rfl rfl (by first | rfl | (simp only [Z4, Z3, Z0 _ (Zc _), Bool.and_self, Bool.and_true] <;> rfl)) ?_ ?_ <;> (repeat' (first | (with_reducible rfl) | (exact Zm rfl (by first | (simp; done) | omega | (simp; omega))) | (exact congrArg (SV.int _) (by first | omega | (simp (disch := omega) only [lnB, Z9, Zd] <;> omega) | (simp; done) | (simp <;> omega))) | (exact congrArg (Hp.rows _) (by rfl)) | ((conv => whnf); refine ⟨?_, ?_⟩) | exact trivial | rfl))), ?_⟩
 intro i hi
 have hli := hlen i
 rw [List.length_take, Nat.min_eq_left hi] at hli
 conv => whnf
 by_cases hil : i < l.length
 · have hs := Z4b Yp hil
   generalize (l.take i).flatMap Yp = out at *
   repeat' ((first | refine DRAWN.of (id := 5) Z5 mixed Z5p (by kernel_rfl) ?_ | refine ADD.mk (fun _ _ => ?_) | refine AD ?_ | refine FORK.mk ?_ ?_ | (refine GET.at (row := ZA (l[i]'(by omega))) (Z9Y (by omega) (by omega)) ?_; conv => whnf) | refine AU ?_ | (refine IW (fun h => ?_) (fun h => ?_) <;> try (exfalso; omega))) <;> conv => whnf)
   refine LOOP.go Z5 [0, 4, 5] (X := Nat × List Tm) (fun x => x.1 ≤ 4 ∧ x.2 = (out ++ U1 l[i] x.1).map ZZ) (fun x => [(6, .int .i64 (x.1 : Int)), (3, .sl (.loc 1) 0 4 x.2.length none)]) (fun x => [(1, .rows 4 (x.2.map Zw)), (2, .rows 4 ((Z6H l[i]).map Zw))]) 3 (fun x => 4 - x.1) (0, out.map ZZ) ⟨by simp, by simp [U1]⟩ ?_
   conv => whnf
   refine ⟨by exact GOES.cA h0, ?_⟩
   rintro ⟨j, o2⟩ ⟨hj, ho2⟩
   dsimp only at hj ho2 ⊢
   have hfl := Z4c l[i] j
   have ho2l : o2.length ≤ i * 4 + j := by rw [ho2, List.length_map, List.length_append]; omega
   by_cases hj4 : j < 4
   · obtain rfl | rfl | rfl | rfl : j = 0 ∨ j = 1 ∨ j = 2 ∨ j = 3 := by omega
     · have hst := (Vy l[i]).1
       conv => whnf
       repeat' ((first | (refine GET.at (row := Zw l[i].s) rfl ?_; conv => whnf) | (refine NEED.mk (ZM 56 rfl rfl rfl (by simp) (by omega)) ?_; conv => whnf) | refine AU ?_ | (refine IW (fun h => ?_) (fun h => ?_) <;> try (exfalso; omega))) <;> conv => whnf)
       · refine ⟨(1, o2 ++ [ZZ l[i].s.t]), ⟨by simp, by dsimp only; rw [hst, Jq h, ho2, ← List.append_assoc, Z3m _ [l[i].s.t]]; rfl⟩, by simp, ?_⟩
         dsimp only
         conv => whnf
         (refine GOES.keeping h0 [4, 2] rfl rfl rfl (by first | rfl | (simp only [Z4, Z3, Z0 _ (Zc _), Bool.and_self, Bool.and_true] <;> rfl)) ?_ ?_ <;> (repeat' (first | (with_reducible rfl) | (exact Z6 (Zc _) (Z2 _ (Zc _))) | (exact Z6 (Zc _) (by (simp [List.take_of_length_le, Zp, Zw, ZZ]))) | (exact Zm rfl (by first | (simp; done) | omega | (simp; omega))) | (exact congrArg (SV.int _) (by first | omega | (simp (disch := omega) only [lnB, Z9, Zd] <;> omega) | (simp; done) | (simp <;> omega))) | ((conv => whnf); refine ⟨?_, ?_⟩) | exact trivial | (simp only [ren, renB]; done) | rfl)))
       · refine ⟨(1, o2), ⟨by simp, by dsimp only; rw [hst, Jr h, ho2, List.append_nil]⟩, by simp, ?_⟩
         dsimp only
         conv => whnf
         exact GOES.cA h0
     · have hst := (Vy l[i]).2.1
       conv => whnf
       repeat' ((first | (refine GET.at (row := Zw l[i].p) rfl ?_; conv => whnf) | (refine NEED.mk (ZM 56 rfl rfl rfl (by simp) (by omega)) ?_; conv => whnf) | refine AU ?_ | (refine IW (fun h => ?_) (fun h => ?_) <;> try (exfalso; omega))) <;> conv => whnf)
       · refine ⟨(2, o2 ++ [ZZ l[i].p.t]), ⟨by simp, by dsimp only; rw [hst, Jq h, ho2, ← List.append_assoc, Z3m _ [l[i].p.t]]; rfl⟩, by simp, ?_⟩
         dsimp only
         conv => whnf
         (refine GOES.keeping h0 [4, 2] rfl rfl rfl (by first | rfl | (simp only [Z4, Z3, Z0 _ (Zc _), Bool.and_self, Bool.and_true] <;> rfl)) ?_ ?_ <;> (repeat' (first | (with_reducible rfl) | (exact Z6 (Zc _) (Z2 _ (Zc _))) | (exact Z6 (Zc _) (by (simp [List.take_of_length_le, Zp, Zw, ZZ]))) | (exact Zm rfl (by first | (simp; done) | omega | (simp; omega))) | (exact congrArg (SV.int _) (by first | omega | (simp (disch := omega) only [lnB, Z9, Zd] <;> omega) | (simp; done) | (simp <;> omega))) | ((conv => whnf); refine ⟨?_, ?_⟩) | exact trivial | (simp only [ren, renB]; done) | rfl)))
       · refine ⟨(2, o2), ⟨by simp, by dsimp only; rw [hst, Jr h, ho2, List.append_nil]⟩, by simp, ?_⟩
         dsimp only
         conv => whnf
         exact GOES.cA h0
     · have hst := (Vy l[i]).2.2.1
       conv => whnf
       repeat' ((first | (refine GET.at (row := Zw l[i].o) rfl ?_; conv => whnf) | (refine NEED.mk (ZM 56 rfl rfl rfl (by simp) (by omega)) ?_; conv => whnf) | refine AU ?_ | (refine IW (fun h => ?_) (fun h => ?_) <;> try (exfalso; omega))) <;> conv => whnf)
       · refine ⟨(3, o2 ++ [ZZ l[i].o.t]), ⟨by simp, by dsimp only; rw [hst, Jq h, ho2, ← List.append_assoc, Z3m _ [l[i].o.t]]; rfl⟩, by simp, ?_⟩
         dsimp only
         conv => whnf
         (refine GOES.keeping h0 [4, 2] rfl rfl rfl (by first | rfl | (simp only [Z4, Z3, Z0 _ (Zc _), Bool.and_self, Bool.and_true] <;> rfl)) ?_ ?_ <;> (repeat' (first | (with_reducible rfl) | (exact Z6 (Zc _) (Z2 _ (Zc _))) | (exact Z6 (Zc _) (by (simp [List.take_of_length_le, Zp, Zw, ZZ]))) | (exact Zm rfl (by first | (simp; done) | omega | (simp; omega))) | (exact congrArg (SV.int _) (by first | omega | (simp (disch := omega) only [lnB, Z9, Zd] <;> omega) | (simp; done) | (simp <;> omega))) | ((conv => whnf); refine ⟨?_, ?_⟩) | exact trivial | (simp only [ren, renB]; done) | rfl)))
       · refine ⟨(3, o2), ⟨by simp, by dsimp only; rw [hst, Jr h, ho2, List.append_nil]⟩, by simp, ?_⟩
         dsimp only
         conv => whnf
         exact GOES.cA h0
     · have hst := (Vy l[i]).2.2.2
       conv => whnf
       repeat' ((first | (refine GET.at (row := Zw l[i].g) rfl ?_; conv => whnf) | (refine NEED.mk (ZM 56 rfl rfl rfl (by simp) (by omega)) ?_; conv => whnf) | refine AU ?_ | (refine IW (fun h => ?_) (fun h => ?_) <;> try (exfalso; omega))) <;> conv => whnf)
       · refine ⟨(4, o2 ++ [ZZ l[i].g.t]), ⟨by simp, by dsimp only; rw [hst, Jq h, ho2, ← List.append_assoc, Z3m _ [l[i].g.t]]; rfl⟩, by simp, ?_⟩
         dsimp only
         conv => whnf
         (refine GOES.keeping h0 [4, 2] rfl rfl rfl (by first | rfl | (simp only [Z4, Z3, Z0 _ (Zc _), Bool.and_self, Bool.and_true] <;> rfl)) ?_ ?_ <;> (repeat' (first | (with_reducible rfl) | (exact Z6 (Zc _) (Z2 _ (Zc _))) | (exact Z6 (Zc _) (by (simp [List.take_of_length_le, Zp, Zw, ZZ]))) | (exact Zm rfl (by first | (simp; done) | omega | (simp; omega))) | (exact congrArg (SV.int _) (by first | omega | (simp (disch := omega) only [lnB, Z9, Zd] <;> omega) | (simp; done) | (simp <;> omega))) | ((conv => whnf); refine ⟨?_, ?_⟩) | exact trivial | (simp only [ren, renB]; done) | rfl)))
       · refine ⟨(4, o2), ⟨by simp, by dsimp only; rw [hst, Jr h, ho2, List.append_nil]⟩, by simp, ?_⟩
         dsimp only
         conv => whnf
         exact GOES.cA h0
   · obtain rfl : j = 4 := by omega
     rw [Z8e] at ho2
     conv => whnf
     repeat' ((first | refine AU ?_ | (refine IW (fun h => ?_) (fun h => ?_) <;> try (exfalso; omega))) <;> conv => whnf)
     refine ⟨i + 1, by omega, by omega, ?_⟩
     rw [hs, ← ho2]
     conv => whnf
     (refine GOES.cutting h0 rfl rfl rfl (by first | rfl | (simp only [Z4, Z3, Z0 _ (Zc _), Bool.and_self, Bool.and_true] <;> rfl)) ?_ ?_ <;> (repeat' (first | (with_reducible rfl) | (exact Zm rfl (by first | (simp; done) | omega | (simp; omega))) | (exact congrArg (SV.int _) (by first | omega | (simp (disch := omega) only [lnB, Z9, Zd] <;> omega) | (simp; done) | (simp <;> omega))) | (exact congrArg (Hp.rows _) (by rfl)) | ((conv => whnf); refine ⟨?_, ?_⟩) | exact trivial | rfl)))
 · have hie : i = l.length := by omega
   subst hie
   rw [List.take_length] at hli ⊢
   generalize l.flatMap Yp = out at *
   have hbs := Z6x out
   have hls := Us (c := Yb) (out.map ZZ)
   have hr := Z73 (out.map ZZ) (by rw [List.length_map]; omega)
   rw [← hbs]
   rw [List.length_map] at hls
   repeat' ((first | refine AU ?_ | (refine IW (fun h => ?_) (fun h => ?_) <;> try (exfalso; omega))) <;> conv => whnf)
   refine CALL.aA [1] (hr) ?_
   generalize setL Yb (out.map ZZ) = all at *
   rintro r O nx ⟨rfl, rfl, rfl⟩
   conv => whnf
   refine LOOP.nil 7 1 rfl ?_
   refine LOOP.go Z5 [3] (X := Nat) (fun i => i ≤ all.length) (fun i => [(8, .int .i64 (i : Int)), (7, .sl (.loc 3) 0 1 ((all.take i).map Tm.t).length none)]) (fun i => [(2, .rows 4 (all.map Zw)), (3, .rows 1 (((all.take i).map Tm.t).map Zh))]) 4 (fun i => all.length - i) 0 (by omega) ?_
   conv => whnf
   refine ⟨by exact GOES.cA h0, ?_⟩
   intro i hi
   conv => whnf
   by_cases hil : i < all.length
   · have hs : (all.take (i + 1)).map Tm.t = (all.take i).map Tm.t ++ [all[i].t] := by rw [List.take_succ_eq_append_getElem hil, List.map_append]; rfl
     have hoi : ((all.take i).map Tm.t).length = i := by simp; omega
     generalize (all.take i).map Tm.t = o3 at *
     repeat' ((first | (refine GET.at (row := Zw (all[i]'(by omega))) (ZP (by omega) (by omega)) ?_; conv => whnf) | (refine NEED.mk (ZM 16 rfl rfl rfl (by simp) (by omega)) ?_; conv => whnf) | refine AU ?_ | (refine IW (fun h => ?_) (fun h => ?_) <;> try (exfalso; omega))) <;> conv => whnf)
     refine ⟨i + 1, by omega, by omega, ?_⟩
     rw [hs]
     conv => whnf
     (refine GOES.keeping h0 [1, 2, 5] rfl rfl rfl (by (repeat' (first | (refine Xs rfl ?_ ?_) | exact Uu (Zc _) | exact U7 (Zc _) | exact Uu (Zj _) | exact U7 (Zj _) | rfl))) ?_ ?_ <;> (repeat' (first | (with_reducible rfl) | exact trivial | (exact Zm rfl (by first | omega | (simp (disch := omega) only [lnB, Z9, Zd] <;> omega) | (simp; done) | (simp <;> omega))) | (exact congrArg (SV.int _) (by first | omega | (simp (disch := omega) only [lnB, Z9, Zd] <;> omega) | (simp; done) | (simp <;> omega))) | (exact Z1h (by first | omega | (simp (disch := omega) only [lnB, Z9, Zd] <;> omega) | (simp; done) | (simp <;> omega))) | (exact Z3Z (by first | omega | (simp (disch := omega) only [lnB, Z9, Zd] <;> omega) | (simp; done) | (simp <;> omega))) | (exact (Y4 _ (h := .rows _ _) (Zc _)).symm) | (exact (Y4 _ (h := .rows _ _) (Zc _)).trans (Y4 _ (h := .rows _ _) (Zc _)).symm) | (exact Z6 (Zc _) (by (simp [List.take_of_length_le, Zp, Zh]))) | (exact (Y4 _ (h := .rows _ _) (Zj _)).symm) | (exact (Y4 _ (h := .rows _ _) (Zj _)).trans (Y4 _ (h := .rows _ _) (Zj _)).symm) | (exact Z6 (Zj _) (by (simp [List.take_of_length_le, Zp, Zh]))) | ((conv => whnf); refine ⟨?_, ?_⟩) | (simp only [ren, renB]; done) | rfl)))
   · have hie : i = all.length := by omega
     subst hie
     rw [List.take_length]
     repeat' ((first | refine AU ?_ | (refine IW (fun h => ?_) (fun h => ?_) <;> try (exfalso; omega))) <;> conv => whnf)
     refine FIN.aA h0 [3] (.sl (.loc 1) 0 1 (all.map Tm.t).length none) [(1, .rows 1 ((all.map Tm.t).map Zh))] ?_
     exact ⟨rfl, rfl, rfl⟩
end Go.Proofs.YtbfbokdccdagkaaGreatDoor
