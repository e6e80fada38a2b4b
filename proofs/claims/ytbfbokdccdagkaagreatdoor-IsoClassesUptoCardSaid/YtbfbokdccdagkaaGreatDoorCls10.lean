/- Part 10: Sets3. Conditions: as each part says. -/
import Derived.Test.YtbfbokdccdagkaaGreatDoorCls8
set_option linter.unusedVariables false
set_option linter.unusedSimpArgs false
set_option maxRecDepth 20000
set_option maxHeartbeats 8000000
namespace Go.Proofs.YtbfbokdccdagkaaGreatDoor
open Go.Sx Go.Our
def Z2s : Plan := (ZB [(0, 1), (1, 1), (2, 1), (3, 1), (4, 1), (5, 1), (6, 1), (7, 1), (8, 1), (9, 1), (11, 1), (12, 1), (10, 2), (13, 2), (14, 3), (15, 1), (16, 1), (17, 1)])
def Z2t : Plan := (ZB [(0, 1), (1, 1), (2, 1), (3, 1), (4, 1), (5, 1), (6, 1), (7, 1), (8, 1), (9, 2), (10, 2), (11, 3), (12, 1), (13, 1)])
def WB : Plan := (ZB [(0, 1), (1, 1), (2, 1), (3, 1), (4, 1), (6, 1), (7, 1), (8, 1), (9, 1), (10, 1), (5, 3), (11, 3), (12, 3), (13, 1)])
def Z0U {α : Type} (f : α → List SV) (es k : Nat) (l : List α) : SV → Hps → Nat → Prop := fun r O nx => r = .sl (.loc k) 0 es l.length none ∧ O = [(k, .rows es (l.map f))] ∧ nx = k + 1
theorem Z3A {α : Type} {c : α → α → Int} {out : List α} (h : out ≠ []) (q : α) : XO c out q = if c (out.getLast h) q < 0 then out ++ [q] else out := by
 unfold XO
 rw [List.getLast?_eq_some_getLast h]
theorem WC {α : Type} {c : α → α → Int} {out : List α} {q : α} (h : out.length = 0 ∨ ∃ h0 : 0 < out.length, c (out[out.length - 1]'(by omega)) q < 0) : XO c out q = out ++ [q] := by
 rcases h with h | ⟨h0, h⟩
 · have := List.length_eq_zero_iff.1 h
   subst this; rfl
 · have hne : out ≠ [] := fun e => by subst e; simp at h0
   rw [Z3A hne, List.getLast_eq_getElem, if_pos h]
theorem Z2u {α : Type} {c : α → α → Int} {out : List α} {q : α} (h : ∃ h0 : 0 < out.length, 0 ≤ c (out[out.length - 1]'(by omega)) q) : XO c out q = out := by
 obtain ⟨h0, h⟩ := h
 have hne : out ≠ [] := fun e => by subst e; simp at h0
 rw [Z3A hne, List.getLast_eq_getElem, if_neg (by omega)]
theorem Z6e {α : Type} {c : α → α → Int} (out : List α) : Y0 c out [] [] = out := by unfold Y0; rfl
theorem JO {α : Type} {c : α → α → Int} {out a b : List α} (x : α) (h : b = [] ∨ ∃ y t, b = y :: t ∧ c x y ≤ 0) : Y0 c out (x :: a) b = Y0 c (XO c out x) a b := by
 rcases h with rfl | ⟨y, t, rfl, h⟩
 · conv => lhs; unfold Y0
 · conv => lhs; unfold Y0
   rw [if_pos h]
theorem J1 {α : Type} {c : α → α → Int} {out a b : List α} (y : α) (h : a = [] ∨ ∃ x t, a = x :: t ∧ ¬ c x y ≤ 0) : Y0 c out a (y :: b) = Y0 c (XO c out y) a b := by
 rcases h with rfl | ⟨x, t, rfl, h⟩
 · conv => lhs; unfold Y0
 · conv => lhs; unfold Y0
   rw [if_neg h]
theorem WD {α : Type} {A : List α} {i k n : Nat} (h : k < n) (hA : i + n ≤ A.length) : (A.drop (i + k)).take (n - k) = A[i + k] :: (A.drop (i + (k + 1))).take (n - (k + 1)) := by
 rw [List.drop_eq_getElem_cons (by omega), show n - k = (n - (k + 1)) + 1 by omega, List.take_succ_cons]; rfl
set_option maxHeartbeats 4000000 in
theorem Z2v (A B : List Qd) (i n j m : Nat) (lA lB : Option Nat) (hA : i + n ≤ A.length) (hB : j + m ≤ B.length) (hl : (A.length + B.length) * 224 ≤ 140737488351232) : Does Tryz.prog tab 71 2 [.sl (.loc 0) i 16 n lA, .sl (.loc 1) j 16 m lB] [] [(0, .rows 16 (A.map Zc)), (1, .rows 16 (B.map Zc))]
   (Z0U Zc 16 2 (Y0 Zx [] ((A.drop i).take n) ((B.drop j).take m))) := by
 refine Does.enter Z2 (g := 71) (fn := Tryz.f71) Tryz.call71 Tryz.func71 rfl 62 rfl rfl [.tmp 4] rfl ?_
 intro w0 F η0 h0
 conv => whnf
 refine LOOP.nil 5 16 rfl ?_
 refine LOOP.go Z2 [] (X := List Qd × Nat × Nat) (fun x => x.2.1 ≤ n ∧ x.2.2 ≤ m ∧ x.1.length ≤ x.2.1 + x.2.2 ∧ Y0 Zx [] ((A.drop i).take n) ((B.drop j).take m) = Y0 Zx x.1 ((A.drop (i + x.2.1)).take (n - x.2.1)) ((B.drop (j + x.2.2)).take (m - x.2.2)))
   (fun x => [(0, .sl (.loc 0) (i + x.2.1) 16 (n - x.2.1) lA), (1, .sl (.loc 1) (j + x.2.2) 16 (m - x.2.2) lB), (5, .sl (.loc 2) 0 16 x.1.length none)]) (fun x => [(2, .rows 16 (x.1.map Zc))]) 3 (fun x => (n - x.2.1) + (m - x.2.2)) ([], 0, 0) ⟨by simp, by simp, by simp, rfl⟩ ?_
 conv => whnf
 refine ⟨by exact GOES.cA h0, ?_⟩
 rintro ⟨out, p, q⟩ ⟨hp, hq, ho, hr⟩
 dsimp only at hp hq ho hr ⊢
 have hlast : ∀ (h : 0 < out.length), IntKind.i64.wrap ((out.length : Int) - 1) = ((out.length - 1 : Nat) : Int) := fun h => by rw [Z8 (by omega) (by omega)]; omega
 rcases Nat.lt_or_ge p n with hpn | hpn <;> rcases Nat.lt_or_ge q m with hqm | hqm
 · have ha := WD (A := A) (i := i) hpn hA
   have hb := WD (A := B) (i := j) hqm hB
   rw [ha, hb] at hr
   conv => whnf
   repeat' ((first | refine DRAWN.of (id := 4) Z2 mixed Z2s (by kernel_rfl) ?_ | refine DRAWN.of (id := 9) Z2 mixed Z2t (by kernel_rfl) ?_ | refine ADD.mk (fun _ _ => ?_) | refine AD ?_ | refine FORK.mk ?_ ?_ | refine CALL.value (VS _ _) rfl rfl ?_ | (refine NEED.mk (Zu 224 rfl rfl rfl (by simp) (by omega)) ?_; conv => whnf) | (refine GET.at (row := Zc (A[i + p]'(by omega))) (Zq (by omega) (by omega)) ?_; conv => whnf) | (refine GET.at (row := Zc (B[j + q]'(by omega))) (Zq (by omega) (by omega)) ?_; conv => whnf) | (refine GET.at (row := Zc (out[out.length - 1]'(by omega))) (Zq (by omega) (by rw [hlast (by omega)]; omega)) ?_; conv => whnf) | refine AU ?_ | (refine IW (fun h => ?_) (fun h => ?_) <;> try (exfalso; omega))) <;> conv => whnf)
   all_goals first
     | (refine ⟨(out ++ [A[i + p]'(by omega)], p + 1, q), ⟨by dsimp only; omega, by dsimp only; omega, by simp only [List.length_append, List.length_cons, List.length_nil]; omega, by dsimp only; rw [hr, JO _ (.inr ⟨_, _, rfl, by omega⟩), WC (by first | (left; omega) | (right; exact ⟨by omega, by assumption⟩))]; (first | done | rw [hb] | rw [ha])⟩, by dsimp only; omega, ?_⟩; dsimp only; (conv => whnf); (refine GOES.keeping h0 [5] rfl rfl rfl (by first | rfl | (simp only [Zd, Za, Z0 _ (Zl _), Bool.and_self, Bool.and_true] <;> rfl)) ?_ ?_ <;> (repeat' (first | (with_reducible rfl) | (exact Zf (Zl _) (Z9 _ (Zl _))) | (exact Zf (Zl _) (by (simp [List.take_of_length_le, ZX, Zc]))) | (exact ZP rfl (by first | (simp; done) | omega | (simp; omega))) | (exact congrArg (SV.int _) (by first | omega | (simp (disch := omega) only [lnB, Z8, Zg] <;> omega) | (simp; done) | (simp <;> omega))) | ((conv => whnf); refine ⟨?_, ?_⟩) | exact trivial | (simp only [ren, renB]; done) | rfl))); done)
     | (refine ⟨(out, p + 1, q), ⟨by dsimp only; omega, by dsimp only; omega, by dsimp only; omega, by dsimp only; rw [hr, JO _ (.inr ⟨_, _, rfl, by omega⟩), Z2u ⟨by omega, by assumption⟩]; (first | done | rw [hb] | rw [ha])⟩, by dsimp only; omega, ?_⟩; dsimp only; (conv => whnf); (refine GOES.cutting h0 rfl rfl rfl (by first | rfl | (simp only [Zd, Za, Z0 _ (Zl _), Bool.and_self, Bool.and_true] <;> rfl)) ?_ ?_ <;> (repeat' (first | (with_reducible rfl) | (exact ZP rfl (by first | (simp; done) | omega | (simp; omega))) | (exact congrArg (SV.int _) (by first | omega | (simp (disch := omega) only [lnB, Z8, Zg] <;> omega) | (simp; done) | (simp <;> omega))) | (exact congrArg (Hp.rows _) (by rfl)) | ((conv => whnf); refine ⟨?_, ?_⟩) | exact trivial | rfl))); done)
     | (refine ⟨(out ++ [B[j + q]'(by omega)], p, q + 1), ⟨by dsimp only; omega, by dsimp only; omega, by simp only [List.length_append, List.length_cons, List.length_nil]; omega, by dsimp only; rw [hr, J1 _ (.inr ⟨_, _, rfl, by omega⟩), WC (by first | (left; omega) | (right; exact ⟨by omega, by assumption⟩))]; (first | done | rw [hb] | rw [ha])⟩, by dsimp only; omega, ?_⟩; dsimp only; (conv => whnf); (refine GOES.keeping h0 [5] rfl rfl rfl (by first | rfl | (simp only [Zd, Za, Z0 _ (Zl _), Bool.and_self, Bool.and_true] <;> rfl)) ?_ ?_ <;> (repeat' (first | (with_reducible rfl) | (exact Zf (Zl _) (Z9 _ (Zl _))) | (exact Zf (Zl _) (by (simp [List.take_of_length_le, ZX, Zc]))) | (exact ZP rfl (by first | (simp; done) | omega | (simp; omega))) | (exact congrArg (SV.int _) (by first | omega | (simp (disch := omega) only [lnB, Z8, Zg] <;> omega) | (simp; done) | (simp <;> omega))) | ((conv => whnf); refine ⟨?_, ?_⟩) | exact trivial | (simp only [ren, renB]; done) | rfl))); done)
     | (refine ⟨(out, p, q + 1), ⟨by dsimp only; omega, by dsimp only; omega, by dsimp only; omega, by dsimp only; rw [hr, J1 _ (.inr ⟨_, _, rfl, by omega⟩), Z2u ⟨by omega, by assumption⟩]; (first | done | rw [hb] | rw [ha])⟩, by dsimp only; omega, ?_⟩; dsimp only; (conv => whnf); (refine GOES.cutting h0 rfl rfl rfl (by first | rfl | (simp only [Zd, Za, Z0 _ (Zl _), Bool.and_self, Bool.and_true] <;> rfl)) ?_ ?_ <;> (repeat' (first | (with_reducible rfl) | (exact ZP rfl (by first | (simp; done) | omega | (simp; omega))) | (exact congrArg (SV.int _) (by first | omega | (simp (disch := omega) only [lnB, Z8, Zg] <;> omega) | (simp; done) | (simp <;> omega))) | (exact congrArg (Hp.rows _) (by rfl)) | ((conv => whnf); refine ⟨?_, ?_⟩) | exact trivial | rfl))); done)
 · have ha := WD (A := A) (i := i) hpn hA
   have hb : (B.drop (j + q)).take (m - q) = [] := by rw [show m - q = 0 by omega]; rfl
   rw [ha, hb] at hr
   conv => whnf
   repeat' ((first | refine DRAWN.of (id := 4) Z2 mixed Z2s (by kernel_rfl) ?_ | refine DRAWN.of (id := 9) Z2 mixed Z2t (by kernel_rfl) ?_ | refine ADD.mk (fun _ _ => ?_) | refine AD ?_ | refine FORK.mk ?_ ?_ | refine CALL.value (VS _ _) rfl rfl ?_ | (refine NEED.mk (Zu 224 rfl rfl rfl (by simp) (by omega)) ?_; conv => whnf) | (refine GET.at (row := Zc (A[i + p]'(by omega))) (Zq (by omega) (by omega)) ?_; conv => whnf) | (refine GET.at (row := Zc (B[j + q]'(by omega))) (Zq (by omega) (by omega)) ?_; conv => whnf) | (refine GET.at (row := Zc (out[out.length - 1]'(by omega))) (Zq (by omega) (by rw [hlast (by omega)]; omega)) ?_; conv => whnf) | refine AU ?_ | (refine IW (fun h => ?_) (fun h => ?_) <;> try (exfalso; omega))) <;> conv => whnf)
   all_goals first
     | (refine ⟨(out ++ [A[i + p]'(by omega)], p + 1, q), ⟨by dsimp only; omega, by dsimp only; omega, by simp only [List.length_append, List.length_cons, List.length_nil]; omega, by dsimp only; rw [hb, hr, JO _ (.inl rfl), WC (by first | (left; omega) | (right; exact ⟨by omega, by assumption⟩))]; (first | done | rw [hb] | rw [ha])⟩, by dsimp only; omega, ?_⟩; dsimp only; (conv => whnf); (refine GOES.keeping h0 [5] rfl rfl rfl (by first | rfl | (simp only [Zd, Za, Z0 _ (Zl _), Bool.and_self, Bool.and_true] <;> rfl)) ?_ ?_ <;> (repeat' (first | (with_reducible rfl) | (exact Zf (Zl _) (Z9 _ (Zl _))) | (exact Zf (Zl _) (by (simp [List.take_of_length_le, ZX, Zc]))) | (exact ZP rfl (by first | (simp; done) | omega | (simp; omega))) | (exact congrArg (SV.int _) (by first | omega | (simp (disch := omega) only [lnB, Z8, Zg] <;> omega) | (simp; done) | (simp <;> omega))) | ((conv => whnf); refine ⟨?_, ?_⟩) | exact trivial | (simp only [ren, renB]; done) | rfl))); done)
     | (refine ⟨(out, p + 1, q), ⟨by dsimp only; omega, by dsimp only; omega, by dsimp only; omega, by dsimp only; rw [hb, hr, JO _ (.inl rfl), Z2u ⟨by omega, by assumption⟩]; (first | done | rw [hb] | rw [ha])⟩, by dsimp only; omega, ?_⟩; dsimp only; (conv => whnf); (refine GOES.cutting h0 rfl rfl rfl (by first | rfl | (simp only [Zd, Za, Z0 _ (Zl _), Bool.and_self, Bool.and_true] <;> rfl)) ?_ ?_ <;> (repeat' (first | (with_reducible rfl) | (exact ZP rfl (by first | (simp; done) | omega | (simp; omega))) | (exact congrArg (SV.int _) (by first | omega | (simp (disch := omega) only [lnB, Z8, Zg] <;> omega) | (simp; done) | (simp <;> omega))) | (exact congrArg (Hp.rows _) (by rfl)) | ((conv => whnf); refine ⟨?_, ?_⟩) | exact trivial | rfl))); done)
 · have hb := WD (A := B) (i := j) hqm hB
   have ha : (A.drop (i + p)).take (n - p) = [] := by rw [show n - p = 0 by omega]; rfl
   rw [ha, hb] at hr
   conv => whnf
   repeat' ((first | refine DRAWN.of (id := 4) Z2 mixed Z2s (by kernel_rfl) ?_ | refine DRAWN.of (id := 9) Z2 mixed Z2t (by kernel_rfl) ?_ | refine ADD.mk (fun _ _ => ?_) | refine AD ?_ | refine FORK.mk ?_ ?_ | refine CALL.value (VS _ _) rfl rfl ?_ | (refine NEED.mk (Zu 224 rfl rfl rfl (by simp) (by omega)) ?_; conv => whnf) | (refine GET.at (row := Zc (A[i + p]'(by omega))) (Zq (by omega) (by omega)) ?_; conv => whnf) | (refine GET.at (row := Zc (B[j + q]'(by omega))) (Zq (by omega) (by omega)) ?_; conv => whnf) | (refine GET.at (row := Zc (out[out.length - 1]'(by omega))) (Zq (by omega) (by rw [hlast (by omega)]; omega)) ?_; conv => whnf) | refine AU ?_ | (refine IW (fun h => ?_) (fun h => ?_) <;> try (exfalso; omega))) <;> conv => whnf)
   all_goals first
     | (refine ⟨(out ++ [B[j + q]'(by omega)], p, q + 1), ⟨by dsimp only; omega, by dsimp only; omega, by simp only [List.length_append, List.length_cons, List.length_nil]; omega, by dsimp only; rw [ha, hr, J1 _ (.inl rfl), WC (by first | (left; omega) | (right; exact ⟨by omega, by assumption⟩))]; (first | done | rw [hb] | rw [ha])⟩, by dsimp only; omega, ?_⟩; dsimp only; (conv => whnf); (refine GOES.keeping h0 [5] rfl rfl rfl (by first | rfl | (simp only [Zd, Za, Z0 _ (Zl _), Bool.and_self, Bool.and_true] <;> rfl)) ?_ ?_ <;> (repeat' (first | (with_reducible rfl) | (exact Zf (Zl _) (Z9 _ (Zl _))) | (exact Zf (Zl _) (by (simp [List.take_of_length_le, ZX, Zc]))) | (exact ZP rfl (by first | (simp; done) | omega | (simp; omega))) | (exact congrArg (SV.int _) (by first | omega | (simp (disch := omega) only [lnB, Z8, Zg] <;> omega) | (simp; done) | (simp <;> omega))) | ((conv => whnf); refine ⟨?_, ?_⟩) | exact trivial | (simp only [ren, renB]; done) | rfl))); done)
     | (refine ⟨(out, p, q + 1), ⟨by dsimp only; omega, by dsimp only; omega, by dsimp only; omega, by dsimp only; rw [ha, hr, J1 _ (.inl rfl), Z2u ⟨by omega, by assumption⟩]; (first | done | rw [hb] | rw [ha])⟩, by dsimp only; omega, ?_⟩; dsimp only; (conv => whnf); (refine GOES.cutting h0 rfl rfl rfl (by first | rfl | (simp only [Zd, Za, Z0 _ (Zl _), Bool.and_self, Bool.and_true] <;> rfl)) ?_ ?_ <;> (repeat' (first | (with_reducible rfl) | (exact ZP rfl (by first | (simp; done) | omega | (simp; omega))) | (exact congrArg (SV.int _) (by first | omega | (simp (disch := omega) only [lnB, Z8, Zg] <;> omega) | (simp; done) | (simp <;> omega))) | (exact congrArg (Hp.rows _) (by rfl)) | ((conv => whnf); refine ⟨?_, ?_⟩) | exact trivial | rfl))); done)
 · have ha : (A.drop (i + p)).take (n - p) = [] := by rw [show n - p = 0 by omega]; rfl
   have hb : (B.drop (j + q)).take (m - q) = [] := by rw [show m - q = 0 by omega]; rfl
   rw [ha, hb, Z6e] at hr
   conv => whnf
   repeat' ((first | refine AU ?_ | (refine IW (fun h => ?_) (fun h => ?_) <;> try (exfalso; omega))) <;> conv => whnf)
   rw [hr]
   exact FIN.rows h0 2 16 out.length rfl rfl rfl (Zl _) ⟨rfl, rfl, rfl⟩
theorem Z3B {α : Type} [DecidableEq α] {c : α → α → Int} (h : Tri c) (l : List α) : (Vb c l).length ≤ l.length := by
 rw [Uk h _ l (Nat.le_refl _)]; exact Xe l
set_option maxHeartbeats 4000000 in
theorem VX (A : List Qd) (hA : A.length * 224 ≤ 140737488351232) : ∀ (k n i : Nat) (hk : n ≤ k) (hi : i + n ≤ A.length), Does Tryz.prog tab 40 1 [.sl (.loc 0) i 16 n none] [] [(0, .rows 16 (A.map Zc))] (Z0U Zc 16 1 (Vb Zx ((A.drop i).take n)))
 | k, n, i, hk, hi => by
   obtain ⟨l, hl⟩ : ∃ l, l = (A.drop i).take n := ⟨_, rfl⟩
   have hln : l.length = n := by rw [hl]; simp; omega
   have hrows : ((A.map Zc).drop i).take n = l.map Zc := by rw [hl, List.map_take, List.map_drop]
   rw [← hl]
   refine Does.enter Z2 (g := 40) (fn := Tryz.f40) Tryz.call40 Tryz.func40 rfl 22 rfl rfl [.tmp 2] rfl ?_
   intro w0 F η0 h0
   conv => whnf
   repeat' ((first | (rw [hrows]; conv => whnf) | (refine NEED.mk (Zu 224 rfl rfl (by rw [List.length_map]; exact hln) (by simp) (by omega)) ?_; conv => whnf) | refine AU ?_ | (refine IW (fun h => ?_) (fun h => ?_) <;> try (exfalso; omega))) <;> conv => whnf)
   · have hs : Vb Zx l = l := by unfold Vb; rw [if_pos (by omega)]
     rw [hs]
     rw [Nat.zero_add]
     exact FIN.rows h0 2 16 n rfl rfl rfl (Zl _) ⟨by rw [hln], rfl, rfl⟩
   · have hs : Vb Zx l = Y0 Zx [] (Vb Zx (l.take (n / 2))) (Vb Zx (l.drop (n / 2))) := by
       conv => lhs; unfold Vb
       rw [if_neg (by omega), hln]
     have e1 : l.take (n / 2) = (A.drop i).take (n / 2) := by rw [hl, List.take_take, Nat.min_eq_left (by omega)]
     have e2 : l.drop (n / 2) = (A.drop (i + n / 2)).take (n - n / 2) := by rw [hl, List.drop_take, List.drop_drop]
     have hn2 : 2 ≤ n := by omega
     obtain ⟨k', rfl⟩ : ∃ k', k = k' + 1 := ⟨k - 1, by omega⟩
     have r1 := VX A hA k' (n / 2) i (by omega) (by omega)
     have r2 := VX A hA k' (n - n / 2) (i + n / 2) (by omega) (by omega)
     rw [← e1] at r1
     rw [← e2] at r2
     have l1 := Z3B triQ (l.take (n / 2))
     have l2 := Z3B triQ (l.drop (n / 2))
     generalize Vb Zx (l.take (n / 2)) = X at r1 hs l1
     generalize Vb Zx (l.drop (n / 2)) = Y at r2 hs l2
     have r3 := Z2v X Y 0 X.length 0 Y.length none none (by omega) (by omega) (by simp at l1 l2; omega)
     rw [List.drop_zero, List.take_length, List.drop_zero, List.take_length, ← hs] at r3
     have hw : IntKind.i64.wrap (Int.tdiv (n : Int) 2) = ((n / 2 : Nat) : Int) := by rw [Int.tdiv_eq_ediv_of_nonneg (by omega), Z8 (by omega) (by omega)]; omega
     repeat' ((first | refine DRAWN.of (id := 3) Z2 mixed WB (by kernel_rfl) ?_ | refine ADD.mk (fun _ _ => ?_) | refine AD ?_ | refine FORK.mk ?_ ?_ | (rw [hw]; conv => whnf) | (rw [Int.toNat_natCast]; conv => whnf) | refine AU ?_ | (refine IW (fun h => ?_) (fun h => ?_) <;> try (exfalso; omega))) <;> conv => whnf)
     refine CALL.aA [0] (r1) ?_
     rintro r O nx ⟨rfl, rfl, rfl⟩
     conv => whnf
     repeat' ((first | refine DRAWN.of (id := 3) Z2 mixed WB (by kernel_rfl) ?_ | refine ADD.mk (fun _ _ => ?_) | refine AD ?_ | refine FORK.mk ?_ ?_ | (rw [hw]; conv => whnf) | (rw [Int.toNat_natCast]; conv => whnf) | refine AU ?_ | (refine IW (fun h => ?_) (fun h => ?_) <;> try (exfalso; omega))) <;> conv => whnf)
     refine CALL.aA [0] (r2) ?_
     rintro r O nx ⟨rfl, rfl, rfl⟩
     conv => whnf
     repeat' ((first | refine DRAWN.of (id := 3) Z2 mixed WB (by kernel_rfl) ?_ | refine ADD.mk (fun _ _ => ?_) | refine AD ?_ | refine FORK.mk ?_ ?_ | refine AU ?_ | (refine IW (fun h => ?_) (fun h => ?_) <;> try (exfalso; omega))) <;> conv => whnf)
     refine CALL.aA [1, 2] (r3) ?_
     rintro r O nx ⟨rfl, rfl, rfl⟩
     conv => whnf
     repeat' ((first | refine DRAWN.of (id := 3) Z2 mixed WB (by kernel_rfl) ?_ | refine ADD.mk (fun _ _ => ?_) | refine AD ?_ | refine FORK.mk ?_ ?_ | refine AU ?_ | (refine IW (fun h => ?_) (fun h => ?_) <;> try (exfalso; omega))) <;> conv => whnf)
     refine FIN.aA h0 [3] (.sl (.loc 1) 0 16 (Vb Zx l).length none) [(1, .rows 16 ((Vb Zx l).map Zc))] ?_
     exact ⟨rfl, rfl, rfl⟩
end Go.Proofs.YtbfbokdccdagkaaGreatDoor
