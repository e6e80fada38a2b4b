/- Part 22: Sets3. Conditions: as each part says. -/
import Derived.Test.YtjbbkimodgffiaaGreatDoorInW16
set_option linter.unusedVariables false
set_option linter.unusedSimpArgs false
set_option maxRecDepth 20000
set_option maxHeartbeats 8000000
namespace Go.Proofs.YtjbbkimodgffiaaGreatDoor
open Go.Sx Go.Our
def Z56 : Plan := (Zj [(0, 1), (1, 1), (2, 1), (3, 1), (4, 1), (5, 1), (6, 1), (7, 1), (8, 1), (9, 1), (11, 1), (12, 1), (10, 2), (13, 2), (14, 3), (15, 1), (16, 1), (17, 1)])
def Z57 : Plan := (Zj [(0, 1), (1, 1), (2, 1), (3, 1), (4, 1), (5, 1), (6, 1), (7, 1), (8, 1), (9, 2), (10, 2), (11, 3), (12, 1), (13, 1)])
def Z1B : Plan := (Zj [(0, 1), (1, 1), (2, 1), (3, 1), (4, 1), (6, 1), (7, 1), (8, 1), (9, 1), (10, 1), (5, 3), (11, 3), (12, 3), (13, 1)])
def Z7S {α : Type} (f : α → List SV) (es k : Nat) (l : List α) : SV → Hps → Nat → Prop := fun r O nx => r = .sl (.loc k) 0 es l.length none ∧ O = [(k, .rows es (l.map f))] ∧ nx = k + 1
theorem Z6Q {α : Type} {c : α → α → Int} {out : List α} (h : out ≠ []) (q : α) : UA c out q = if c (out.getLast h) q < 0 then out ++ [q] else out := by
 unfold UA
 rw [List.getLast?_eq_some_getLast h]
theorem Z1C {α : Type} {c : α → α → Int} {out : List α} {q : α} (h : out.length = 0 ∨ ∃ h0 : 0 < out.length, c (out[out.length - 1]'(by omega)) q < 0) : UA c out q = out ++ [q] := by
 rcases h with h | ⟨h0, h⟩
 · have := List.length_eq_zero_iff.1 h
   subst this; rfl
 · have hne : out ≠ [] := fun e => by subst e; simp at h0
   rw [Z6Q hne, List.getLast_eq_getElem, if_pos h]
theorem Z58 {α : Type} {c : α → α → Int} {out : List α} {q : α} (h : ∃ h0 : 0 < out.length, 0 ≤ c (out[out.length - 1]'(by omega)) q) : UA c out q = out := by
 obtain ⟨h0, h⟩ := h
 have hne : out ≠ [] := fun e => by subst e; simp at h0
 rw [Z6Q hne, List.getLast_eq_getElem, if_neg (by omega)]
theorem Za8 {α : Type} {c : α → α → Int} (out : List α) : Yt c out [] [] = out := by unfold Yt; rfl
theorem Ub {α : Type} {c : α → α → Int} {out a b : List α} (x : α) (h : b = [] ∨ ∃ y t, b = y :: t ∧ c x y ≤ 0) : Yt c out (x :: a) b = Yt c (UA c out x) a b := by
 rcases h with rfl | ⟨y, t, rfl, h⟩
 · conv => lhs; unfold Yt
 · conv => lhs; unfold Yt
   rw [if_pos h]
theorem Va {α : Type} {c : α → α → Int} {out a b : List α} (y : α) (h : a = [] ∨ ∃ x t, a = x :: t ∧ ¬ c x y ≤ 0) : Yt c out a (y :: b) = Yt c (UA c out y) a b := by
 rcases h with rfl | ⟨x, t, rfl, h⟩
 · conv => lhs; unfold Yt
 · conv => lhs; unfold Yt
   rw [if_neg h]
theorem Z1D {α : Type} {A : List α} {i k n : Nat} (h : k < n) (hA : i + n ≤ A.length) : (A.drop (i + k)).take (n - k) = A[i + k] :: (A.drop (i + (k + 1))).take (n - (k + 1)) := by
 rw [List.drop_eq_getElem_cons (by omega), show n - k = (n - (k + 1)) + 1 by omega, List.take_succ_cons]; rfl
set_option maxHeartbeats 4000000 in
theorem Z59 (A B : List Qd) (i n j m : Nat) (lA lB : Option Nat) (hA : i + n ≤ A.length) (hB : j + m ≤ B.length) (hl : (A.length + B.length) * 224 ≤ 140737488351232) : Does Tryz.prog tab 79 2 [.sl (.loc 0) i 16 n lA, .sl (.loc 1) j 16 m lB] [] [(0, .rows 16 (A.map Zf)), (1, .rows 16 (B.map Zf))]
   (Z7S Zf 16 2 (Yt Zw [] ((A.drop i).take n) ((B.drop j).take m))) := by
 refine Does.enter Z2 (g := 79) (fn := Tryz.f79) Tryz.call79 Tryz.func79 rfl 62 rfl rfl [.tmp 4] rfl ?_
 intro w0 F η0 h0
 conv => whnf
 refine LOOP.nil 5 16 rfl ?_
 refine LOOP.go Z2 [] (X := List Qd × Nat × Nat) (fun x => x.2.1 ≤ n ∧ x.2.2 ≤ m ∧ x.1.length ≤ x.2.1 + x.2.2 ∧ Yt Zw [] ((A.drop i).take n) ((B.drop j).take m) = Yt Zw x.1 ((A.drop (i + x.2.1)).take (n - x.2.1)) ((B.drop (j + x.2.2)).take (m - x.2.2)))
   (fun x => [(0, .sl (.loc 0) (i + x.2.1) 16 (n - x.2.1) lA), (1, .sl (.loc 1) (j + x.2.2) 16 (m - x.2.2) lB), (5, .sl (.loc 2) 0 16 x.1.length none)]) (fun x => [(2, .rows 16 (x.1.map Zf))]) 3 (fun x => (n - x.2.1) + (m - x.2.2)) ([], 0, 0) ⟨by simp, by simp, by simp, rfl⟩ ?_
 conv => whnf
 refine ⟨by exact GOES.cA h0, ?_⟩
 rintro ⟨out, p, q⟩ ⟨hp, hq, ho, hr⟩
 dsimp only at hp hq ho hr ⊢
 have hlast : ∀ (h : 0 < out.length), IntKind.i64.wrap ((out.length : Int) - 1) = ((out.length - 1 : Nat) : Int) := fun h => by rw [Z5 (by omega) (by omega)]; omega
 rcases Nat.lt_or_ge p n with hpn | hpn <;> rcases Nat.lt_or_ge q m with hqm | hqm
 · have ha := Z1D (A := A) (i := i) hpn hA
   have hb := Z1D (A := B) (i := j) hqm hB
   rw [ha, hb] at hr
   conv => whnf
   repeat' ((first | refine DRAWN.of (id := 4) Z2 Z8 Z56 (by kernel_rfl) ?_ | refine DRAWN.of (id := 9) Z2 Z8 Z57 (by kernel_rfl) ?_ | refine ADD.mk (fun _ _ => ?_) | refine AD ?_ | refine FORK.mk ?_ ?_ | refine CALL.value (Xf _ _) rfl rfl ?_ | (refine NEED.mk (Jf 224 rfl rfl rfl (by simp) (by omega)) ?_; conv => whnf) | (refine GET.at (row := Zf (A[i + p]'(by omega))) (U3 (by omega) (by omega)) ?_; conv => whnf) | (refine GET.at (row := Zf (B[j + q]'(by omega))) (U3 (by omega) (by omega)) ?_; conv => whnf) | (refine GET.at (row := Zf (out[out.length - 1]'(by omega))) (U3 (by omega) (by rw [hlast (by omega)]; omega)) ?_; conv => whnf) | refine AU ?_ | (refine IW (fun h => ?_) (fun h => ?_) <;> try (exfalso; omega))) <;> conv => whnf)
   all_goals first
     | (refine ⟨(out ++ [A[i + p]'(by omega)], p + 1, q), ⟨by dsimp only; omega, by dsimp only; omega, by simp only [List.length_append, List.length_cons, List.length_nil]; omega, by dsimp only; rw [hr, Ub _ (.inr ⟨_, _, rfl, by omega⟩), Z1C (by first | (left; omega) | (right; exact ⟨by omega, by assumption⟩))]; (first | done | rw [hb] | rw [ha])⟩, by dsimp only; omega, ?_⟩; dsimp only; (conv => whnf); (refine GOES.keeping h0 [5] rfl rfl rfl (by first | rfl | (simp only [Z7, Z3, Z0 _ (Zc _), Bool.and_self, Bool.and_true] <;> rfl)) ?_ ?_ <;> (repeat' (first | (with_reducible rfl) | (exact Za (Zc _) (Z6 _ (Zc _))) | (exact Za (Zc _) (by (simp [List.take_of_length_le, ZK, Zf]))) | (exact Zu rfl (by first | (simp; done) | omega | (simp; omega))) | (exact congrArg (SV.int _) (by first | omega | (simp (disch := omega) only [lnB, Z5, Z9] <;> omega) | (simp; done) | (simp <;> omega))) | ((conv => whnf); refine ⟨?_, ?_⟩) | exact trivial | (simp only [ren, renB]; done) | rfl))); done)
     | (refine ⟨(out, p + 1, q), ⟨by dsimp only; omega, by dsimp only; omega, by dsimp only; omega, by dsimp only; rw [hr, Ub _ (.inr ⟨_, _, rfl, by omega⟩), Z58 ⟨by omega, by assumption⟩]; (first | done | rw [hb] | rw [ha])⟩, by dsimp only; omega, ?_⟩; dsimp only; (conv => whnf); (refine GOES.cutting h0 rfl rfl rfl (by first | rfl | (simp only [Z7, Z3, Z0 _ (Zc _), Bool.and_self, Bool.and_true] <;> rfl)) ?_ ?_ <;> (repeat' (first | (with_reducible rfl) | (exact Zu rfl (by first | (simp; done) | omega | (simp; omega))) | (exact congrArg (SV.int _) (by first | omega | (simp (disch := omega) only [lnB, Z5, Z9] <;> omega) | (simp; done) | (simp <;> omega))) | (exact congrArg (Hp.rows _) (by rfl)) | ((conv => whnf); refine ⟨?_, ?_⟩) | exact trivial | rfl))); done)
     | (refine ⟨(out ++ [B[j + q]'(by omega)], p, q + 1), ⟨by dsimp only; omega, by dsimp only; omega, by simp only [List.length_append, List.length_cons, List.length_nil]; omega, by dsimp only; rw [hr, Va _ (.inr ⟨_, _, rfl, by omega⟩), Z1C (by first | (left; omega) | (right; exact ⟨by omega, by assumption⟩))]; (first | done | rw [hb] | rw [ha])⟩, by dsimp only; omega, ?_⟩; dsimp only; (conv => whnf); (refine GOES.keeping h0 [5] rfl rfl rfl (by first | rfl | (simp only [Z7, Z3, Z0 _ (Zc _), Bool.and_self, Bool.and_true] <;> rfl)) ?_ ?_ <;> (repeat' (first | (with_reducible rfl) | (exact Za (Zc _) (Z6 _ (Zc _))) | (exact Za (Zc _) (by (simp [List.take_of_length_le, ZK, Zf]))) | (exact Zu rfl (by first | (simp; done) | omega | (simp; omega))) | (exact congrArg (SV.int _) (by first | omega | (simp (disch := omega) only [lnB, Z5, Z9] <;> omega) | (simp; done) | (simp <;> omega))) | ((conv => whnf); refine ⟨?_, ?_⟩) | exact trivial | (simp only [ren, renB]; done) | rfl))); done)
     | (refine ⟨(out, p, q + 1), ⟨by dsimp only; omega, by dsimp only; omega, by dsimp only; omega, by dsimp only; rw [hr, Va _ (.inr ⟨_, _, rfl, by omega⟩), Z58 ⟨by omega, by assumption⟩]; (first | done | rw [hb] | rw [ha])⟩, by dsimp only; omega, ?_⟩; dsimp only; (conv => whnf); (refine GOES.cutting h0 rfl rfl rfl (by first | rfl | (simp only [Z7, Z3, Z0 _ (Zc _), Bool.and_self, Bool.and_true] <;> rfl)) ?_ ?_ <;> (repeat' (first | (with_reducible rfl) | (exact Zu rfl (by first | (simp; done) | omega | (simp; omega))) | (exact congrArg (SV.int _) (by first | omega | (simp (disch := omega) only [lnB, Z5, Z9] <;> omega) | (simp; done) | (simp <;> omega))) | (exact congrArg (Hp.rows _) (by rfl)) | ((conv => whnf); refine ⟨?_, ?_⟩) | exact trivial | rfl))); done)
 · have ha := Z1D (A := A) (i := i) hpn hA
   have hb : (B.drop (j + q)).take (m - q) = [] := by rw [show m - q = 0 by omega]; rfl
   rw [ha, hb] at hr
   conv => whnf
   repeat' ((first | refine DRAWN.of (id := 4) Z2 Z8 Z56 (by kernel_rfl) ?_ | refine DRAWN.of (id := 9) Z2 Z8 Z57 (by kernel_rfl) ?_ | refine ADD.mk (fun _ _ => ?_) | refine AD ?_ | refine FORK.mk ?_ ?_ | refine CALL.value (Xf _ _) rfl rfl ?_ | (refine NEED.mk (Jf 224 rfl rfl rfl (by simp) (by omega)) ?_; conv => whnf) | (refine GET.at (row := Zf (A[i + p]'(by omega))) (U3 (by omega) (by omega)) ?_; conv => whnf) | (refine GET.at (row := Zf (B[j + q]'(by omega))) (U3 (by omega) (by omega)) ?_; conv => whnf) | (refine GET.at (row := Zf (out[out.length - 1]'(by omega))) (U3 (by omega) (by rw [hlast (by omega)]; omega)) ?_; conv => whnf) | refine AU ?_ | (refine IW (fun h => ?_) (fun h => ?_) <;> try (exfalso; omega))) <;> conv => whnf)
   all_goals first
     | (refine ⟨(out ++ [A[i + p]'(by omega)], p + 1, q), ⟨by dsimp only; omega, by dsimp only; omega, by simp only [List.length_append, List.length_cons, List.length_nil]; omega, by dsimp only; rw [hb, hr, Ub _ (.inl rfl), Z1C (by first | (left; omega) | (right; exact ⟨by omega, by assumption⟩))]; (first | done | rw [hb] | rw [ha])⟩, by dsimp only; omega, ?_⟩; dsimp only; (conv => whnf); (refine GOES.keeping h0 [5] rfl rfl rfl (by first | rfl | (simp only [Z7, Z3, Z0 _ (Zc _), Bool.and_self, Bool.and_true] <;> rfl)) ?_ ?_ <;> (repeat' (first | (with_reducible rfl) | (exact Za (Zc _) (Z6 _ (Zc _))) | (exact Za (Zc _) (by (simp [List.take_of_length_le, ZK, Zf]))) | (exact Zu rfl (by first | (simp; done) | omega | (simp; omega))) | (exact congrArg (SV.int _) (by first | omega | (simp (disch := omega) only [lnB, Z5, Z9] <;> omega) | (simp; done) | (simp <;> omega))) | ((conv => whnf); refine ⟨?_, ?_⟩) | exact trivial | (simp only [ren, renB]; done) | rfl))); done)
     | (refine ⟨(out, p + 1, q), ⟨by dsimp only; omega, by dsimp only; omega, by dsimp only; omega, by dsimp only; rw [hb, hr, Ub _ (.inl rfl), Z58 ⟨by omega, by assumption⟩]; (first | done | rw [hb] | rw [ha])⟩, by dsimp only; omega, ?_⟩; dsimp only; (conv => whnf); (refine GOES.cutting h0 rfl rfl rfl (by first | rfl | (simp only [Z7, Z3, Z0 _ (Zc _), Bool.and_self, Bool.and_true] <;> rfl)) ?_ ?_ <;> (repeat' (first | (with_reducible rfl) | (exact Zu rfl (by first | (simp; done) | omega | (simp; omega))) | (exact congrArg (SV.int _) (by first | omega | (simp (disch := omega) only [lnB, Z5, Z9] <;> omega) | (simp; done) | (simp <;> omega))) | (exact congrArg (Hp.rows _) (by rfl)) | ((conv => whnf); refine ⟨?_, ?_⟩) | exact trivial | rfl))); done)
 · have hb := Z1D (A := B) (i := j) hqm hB
   have ha : (A.drop (i + p)).take (n - p) = [] := by rw [show n - p = 0 by omega]; rfl
   rw [ha, hb] at hr
   conv => whnf
   repeat' ((first | refine DRAWN.of (id := 4) Z2 Z8 Z56 (by kernel_rfl) ?_ | refine DRAWN.of (id := 9) Z2 Z8 Z57 (by kernel_rfl) ?_ | refine ADD.mk (fun _ _ => ?_) | refine AD ?_ | refine FORK.mk ?_ ?_ | refine CALL.value (Xf _ _) rfl rfl ?_ | (refine NEED.mk (Jf 224 rfl rfl rfl (by simp) (by omega)) ?_; conv => whnf) | (refine GET.at (row := Zf (A[i + p]'(by omega))) (U3 (by omega) (by omega)) ?_; conv => whnf) | (refine GET.at (row := Zf (B[j + q]'(by omega))) (U3 (by omega) (by omega)) ?_; conv => whnf) | (refine GET.at (row := Zf (out[out.length - 1]'(by omega))) (U3 (by omega) (by rw [hlast (by omega)]; omega)) ?_; conv => whnf) | refine AU ?_ | (refine IW (fun h => ?_) (fun h => ?_) <;> try (exfalso; omega))) <;> conv => whnf)
   all_goals first
     | (refine ⟨(out ++ [B[j + q]'(by omega)], p, q + 1), ⟨by dsimp only; omega, by dsimp only; omega, by simp only [List.length_append, List.length_cons, List.length_nil]; omega, by dsimp only; rw [ha, hr, Va _ (.inl rfl), Z1C (by first | (left; omega) | (right; exact ⟨by omega, by assumption⟩))]; (first | done | rw [hb] | rw [ha])⟩, by dsimp only; omega, ?_⟩; dsimp only; (conv => whnf); (refine GOES.keeping h0 [5] rfl rfl rfl (by first | rfl | (simp only [Z7, Z3, Z0 _ (Zc _), Bool.and_self, Bool.and_true] <;> rfl)) ?_ ?_ <;> (repeat' (first | (with_reducible rfl) | (exact Za (Zc _) (Z6 _ (Zc _))) | (exact Za (Zc _) (by (simp [List.take_of_length_le, ZK, Zf]))) | (exact Zu rfl (by first | (simp; done) | omega | (simp; omega))) | (exact congrArg (SV.int _) (by first | omega | (simp (disch := omega) only [lnB, Z5, Z9] <;> omega) | (simp; done) | (simp <;> omega))) | ((conv => whnf); refine ⟨?_, ?_⟩) | exact trivial | (simp only [ren, renB]; done) | rfl))); done)
     | (refine ⟨(out, p, q + 1), ⟨by dsimp only; omega, by dsimp only; omega, by dsimp only; omega, by dsimp only; rw [ha, hr, Va _ (.inl rfl), Z58 ⟨by omega, by assumption⟩]; (first | done | rw [hb] | rw [ha])⟩, by dsimp only; omega, ?_⟩; dsimp only; (conv => whnf); (refine GOES.cutting h0 rfl rfl rfl (by first | rfl | (simp only [Z7, Z3, Z0 _ (Zc _), Bool.and_self, Bool.and_true] <;> rfl)) ?_ ?_ <;> (repeat' (first | (with_reducible rfl) | (exact Zu rfl (by first | (simp; done) | omega | (simp; omega))) | (exact congrArg (SV.int _) (by first | omega | (simp (disch := omega) only [lnB, Z5, Z9] <;> omega) | (simp; done) | (simp <;> omega))) | (exact congrArg (Hp.rows _) (by rfl)) | ((conv => whnf); refine ⟨?_, ?_⟩) | exact trivial | rfl))); done)
 · have ha : (A.drop (i + p)).take (n - p) = [] := by rw [show n - p = 0 by omega]; rfl
   have hb : (B.drop (j + q)).take (m - q) = [] := by rw [show m - q = 0 by omega]; rfl
   rw [ha, hb, Za8] at hr
   conv => whnf
   repeat' ((first | refine AU ?_ | (refine IW (fun h => ?_) (fun h => ?_) <;> try (exfalso; omega))) <;> conv => whnf)
   rw [hr]
   exact FIN.rows h0 2 16 out.length rfl rfl rfl (Zc _) ⟨rfl, rfl, rfl⟩
theorem Z6R {α : Type} [DecidableEq α] {c : α → α → Int} (h : Tri c) (l : List α) : (UB c l).length ≤ l.length := by
 rw [UC h _ l (Nat.le_refl _)]; exact Z4X l
set_option maxHeartbeats 4000000 in
theorem Uc (A : List Qd) (hA : A.length * 224 ≤ 140737488351232) : ∀ (k n i : Nat) (hk : n ≤ k) (hi : i + n ≤ A.length), Does Tryz.prog tab 68 1 [.sl (.loc 0) i 16 n none] [] [(0, .rows 16 (A.map Zf))] (Z7S Zf 16 1 (UB Zw ((A.drop i).take n)))
 | k, n, i, hk, hi => by
   obtain ⟨l, hl⟩ : ∃ l, l = (A.drop i).take n := ⟨_, rfl⟩
   have hln : l.length = n := by rw [hl]; simp; omega
   have hrows : ((A.map Zf).drop i).take n = l.map Zf := by rw [hl, List.map_take, List.map_drop]
   rw [← hl]
   refine Does.enter Z2 (g := 68) (fn := Tryz.f68) Tryz.call68 Tryz.func68 rfl 22 rfl rfl [.tmp 2] rfl ?_
   intro w0 F η0 h0
   conv => whnf
   repeat' ((first | (rw [hrows]; conv => whnf) | (refine NEED.mk (Jf 224 rfl rfl (by rw [List.length_map]; exact hln) (by simp) (by omega)) ?_; conv => whnf) | refine AU ?_ | (refine IW (fun h => ?_) (fun h => ?_) <;> try (exfalso; omega))) <;> conv => whnf)
   · have hs : UB Zw l = l := by unfold UB; rw [if_pos (by omega)]
     rw [hs]
     rw [Nat.zero_add]
     exact FIN.rows h0 2 16 n rfl rfl rfl (Zc _) ⟨by rw [hln], rfl, rfl⟩
   · have hs : UB Zw l = Yt Zw [] (UB Zw (l.take (n / 2))) (UB Zw (l.drop (n / 2))) := by
       conv => lhs; unfold UB
       rw [if_neg (by omega), hln]
     have e1 : l.take (n / 2) = (A.drop i).take (n / 2) := by rw [hl, List.take_take, Nat.min_eq_left (by omega)]
     have e2 : l.drop (n / 2) = (A.drop (i + n / 2)).take (n - n / 2) := by rw [hl, List.drop_take, List.drop_drop]
     have hn2 : 2 ≤ n := by omega
     obtain ⟨k', rfl⟩ : ∃ k', k = k' + 1 := ⟨k - 1, by omega⟩
     have r1 := Uc A hA k' (n / 2) i (by omega) (by omega)
     have r2 := Uc A hA k' (n - n / 2) (i + n / 2) (by omega) (by omega)
     rw [← e1] at r1
     rw [← e2] at r2
     have l1 := Z6R triQ (l.take (n / 2))
     have l2 := Z6R triQ (l.drop (n / 2))
     generalize UB Zw (l.take (n / 2)) = X at r1 hs l1
     generalize UB Zw (l.drop (n / 2)) = Y at r2 hs l2
     have r3 := Z59 X Y 0 X.length 0 Y.length none none (by omega) (by omega) (by simp at l1 l2; omega)
     rw [List.drop_zero, List.take_length, List.drop_zero, List.take_length, ← hs] at r3
     have hw : IntKind.i64.wrap (Int.tdiv (n : Int) 2) = ((n / 2 : Nat) : Int) := by rw [Int.tdiv_eq_ediv_of_nonneg (by omega), Z5 (by omega) (by omega)]; omega
     repeat' ((first | refine DRAWN.of (id := 3) Z2 Z8 Z1B (by kernel_rfl) ?_ | refine ADD.mk (fun _ _ => ?_) | refine AD ?_ | refine FORK.mk ?_ ?_ | (rw [hw]; conv => whnf) | (rw [Int.toNat_natCast]; conv => whnf) | refine AU ?_ | (refine IW (fun h => ?_) (fun h => ?_) <;> try (exfalso; omega))) <;> conv => whnf)
     refine CALL.aA [0] (r1) ?_
     rintro r O nx ⟨rfl, rfl, rfl⟩
     conv => whnf
     repeat' ((first | refine DRAWN.of (id := 3) Z2 Z8 Z1B (by kernel_rfl) ?_ | refine ADD.mk (fun _ _ => ?_) | refine AD ?_ | refine FORK.mk ?_ ?_ | (rw [hw]; conv => whnf) | (rw [Int.toNat_natCast]; conv => whnf) | refine AU ?_ | (refine IW (fun h => ?_) (fun h => ?_) <;> try (exfalso; omega))) <;> conv => whnf)
     refine CALL.aA [0] (r2) ?_
     rintro r O nx ⟨rfl, rfl, rfl⟩
     conv => whnf
     repeat' ((first | refine DRAWN.of (id := 3) Z2 Z8 Z1B (by kernel_rfl) ?_ | refine ADD.mk (fun _ _ => ?_) | refine AD ?_ | refine FORK.mk ?_ ?_ | refine AU ?_ | (refine IW (fun h => ?_) (fun h => ?_) <;> try (exfalso; omega))) <;> conv => whnf)
     refine CALL.aA [1, 2] (r3) ?_
     rintro r O nx ⟨rfl, rfl, rfl⟩
     conv => whnf
     repeat' ((first | refine DRAWN.of (id := 3) Z2 Z8 Z1B (by kernel_rfl) ?_ | refine ADD.mk (fun _ _ => ?_) | refine AD ?_ | refine FORK.mk ?_ ?_ | refine AU ?_ | (refine IW (fun h => ?_) (fun h => ?_) <;> try (exfalso; omega))) <;> conv => whnf)
     refine FIN.aA h0 [3] (.sl (.loc 1) 0 16 (UB Zw l).length none) [(1, .rows 16 ((UB Zw l).map Zf))] ?_
     exact ⟨rfl, rfl, rfl⟩
end Go.Proofs.YtjbbkimodgffiaaGreatDoor
