/- Part 26: Sets6. Conditions: as each part says. -/
import Derived.Test.YtjbbkimodgffiaaGreatDoorInW22
set_option linter.unusedVariables false
set_option linter.unusedSimpArgs false
set_option maxRecDepth 20000
set_option maxHeartbeats 8000000
namespace Go.Proofs.YtjbbkimodgffiaaGreatDoor
open Go.Sx Go.Our
def Z93 : Plan := (Zj [(0, 1), (1, 1), (2, 1), (3, 1), (4, 1), (5, 1), (7, 1), (8, 1), (9, 1), (6, 2), (10, 2), (11, 3), (12, 1), (13, 1)])
def Z94 : Plan := (Zj [(0, 1), (1, 1), (2, 1), (3, 1), (4, 1), (5, 1), (7, 1), (8, 1), (9, 1), (13, 1), (6, 2), (10, 2), (11, 1), (12, 1), (14, 1)])
theorem ZbT {α : Type} [DecidableEq α] {c : α → α → Int} {inn : Bool} {ys : List α} : Z05 c inn [] ys = [] := rfl
theorem Z48 {α : Type} [DecidableEq α] {c : α → α → Int} {inn : Bool} {x : α} {xs ys d : List α} (hd : ys.dropWhile (fun y => decide (c y x < 0)) = d) : Z05 c inn (x :: xs) ys = (if decide (d.head? = some x) = inn then [x] else []) ++ Z05 c inn xs d := by
 conv => lhs; unfold Z05
 rw [hd]
theorem Zfk {α : Type} {p : α → Bool} {l : List α} {j : Nat} (hj : j < l.length) (h : p l[j] = true) : (l.drop j).dropWhile p = (l.drop (j + 1)).dropWhile p := by
 rw [List.drop_eq_getElem_cons hj, List.dropWhile_cons, if_pos h]
theorem Zfu {α : Type} {p : α → Bool} {l : List α} {j : Nat} (hj : j < l.length) (h : ¬ p l[j] = true) : (l.drop j).dropWhile p = l.drop j := by
 rw [List.drop_eq_getElem_cons hj, List.dropWhile_cons, if_neg h]
theorem Zfl {α : Type} {p : α → Bool} {l : List α} {j : Nat} (hj : l.length ≤ j) : (l.drop j).dropWhile p = l.drop j := by
 rw [List.drop_eq_nil_of_le hj]; rfl
set_option maxHeartbeats 4000000 in
theorem Z3d (l z l' z' : List Qd) (lA lB : Option Nat) (hz : ((l ++ z).length + (l' ++ z').length) * 224 ≤ 281474976710656) (hl : l.length * 224 ≤ 140737488351232) : Does Tryz.prog tab 48 2 [.sl (.loc 0) 0 16 l.length lA, .sl (.loc 1) 0 16 l'.length lB, .bool false] [] [(0, .rows 16 ((l ++ z).map Zf)), (1, .rows 16 ((l' ++ z').map Zf))]
   (Z7S Zf 16 2 (Z05 Zw false l l')) := by
 have hz1 : (l ++ z).length = l.length + z.length := List.length_append
 have hz2 : (l' ++ z').length = l'.length + z'.length := List.length_append
 refine Does.enter Z2 (g := 48) (fn := Tryz.f48) Tryz.call48 Tryz.func48 rfl 54 rfl rfl [.tmp 6] rfl ?_
 intro w0 F η0 h0
 conv => whnf
 refine LOOP.nil 7 16 rfl ?_
 refine LOOP.go Z2 [0, 2] (X := List Qd × Nat × Nat) (fun x => x.2.1 ≤ l.length ∧ x.2.2 ≤ l'.length ∧ x.1.length ≤ x.2.1 ∧ Z05 Zw false l l' = x.1 ++ Z05 Zw false (l.drop x.2.1) (l'.drop x.2.2))
   (fun x => [(8, .int .i64 (x.2.1 : Int)), (1, .sl (.loc 1) x.2.2 16 (l'.length - x.2.2) lB), (7, .sl (.loc 2) 0 16 x.1.length none)]) (fun x => [(2, .rows 16 (x.1.map Zf))]) 3 (fun x => l.length - x.2.1) ([], 0, 0) ⟨by simp, by simp, by simp, rfl⟩ ?_
 conv => whnf
 refine ⟨by exact GOES.cA h0, ?_⟩
 rintro ⟨out, p, q⟩ ⟨hp, hq, ho, hr⟩
 dsimp only at hp hq ho hr ⊢
 conv => whnf
 rcases Nat.lt_or_ge p l.length with hpl | hpl
 · rw [List.drop_eq_getElem_cons hpl] at hr
   repeat' ((first | refine AU ?_ | (refine IW (fun h => ?_) (fun h => ?_) <;> try (exfalso; omega))) <;> conv => whnf)
   refine LOOP.go Z2 [0, 2, 7, 8] (X := Nat) (fun j => q ≤ j ∧ j ≤ l'.length ∧ (l'.drop q).dropWhile (fun y => decide (Zw y l[p] < 0)) = (l'.drop j).dropWhile (fun y => decide (Zw y l[p] < 0)))
     (fun j => [(1, .sl (.loc 1) j 16 (l'.length - j) lB)]) (fun j => [(2, .rows 16 (out.map Zf))]) 3 (fun j => l'.length - j) q ⟨by omega, hq, rfl⟩ ?_
   conv => whnf
   refine ⟨by (refine GOES.cutting h0 rfl rfl rfl (by first | rfl | (simp only [Z7, Z3, Z0 _ (Zc _), Bool.and_self, Bool.and_true] <;> rfl)) ?_ ?_ <;> (repeat' (first | (with_reducible rfl) | (exact Zu rfl (by first | (simp; done) | omega | (simp; omega))) | (exact congrArg (SV.int _) (by first | omega | (simp (disch := omega) only [lnB, Z5, Z9] <;> omega) | (simp; done) | (simp <;> omega))) | (exact congrArg (Hp.rows _) (by rfl)) | ((conv => whnf); refine ⟨?_, ?_⟩) | exact trivial | rfl))), ?_⟩
   rintro j ⟨hqj, hj, hd⟩
   conv => whnf
   rcases Nat.lt_or_ge j l'.length with hjl | hjl
   · repeat' ((first | refine DRAWN.of (id := 5) Z2 Z8 Z93 (by kernel_rfl) ?_ | refine DRAWN.of (id := 7) Z2 Z8 Z94 (by kernel_rfl) ?_ | refine ADD.mk (fun _ _ => ?_) | refine AD ?_ | refine FORK.mk ?_ ?_ | refine CALL.value (Xf _ _) rfl rfl ?_ | (refine NEED.mk (Jf 224 rfl rfl rfl (by simp) (by omega)) ?_; conv => whnf) | (refine GET.at (row := Zf (l[p]'(by omega))) (Z47 (by omega) (by omega)) ?_; conv => whnf) | (refine GET.at (row := Zf (l'[j]'(by omega))) (Z47 (by omega) (by omega)) ?_; conv => whnf) | refine AU ?_ | (refine IW (fun h => ?_) (fun h => ?_) <;> try (exfalso; omega))) <;> conv => whnf)
     · refine ⟨j + 1, ⟨by omega, by omega, by rw [hd, Zfk hjl (decide_eq_true h)]⟩, by omega, ?_⟩
       conv => whnf
       (refine GOES.cutting h0 rfl rfl rfl (by first | rfl | (simp only [Z7, Z3, Z0 _ (Zc _), Bool.and_self, Bool.and_true] <;> rfl)) ?_ ?_ <;> (repeat' (first | (with_reducible rfl) | (exact Zu rfl (by first | (simp; done) | omega | (simp; omega))) | (exact congrArg (SV.int _) (by first | omega | (simp (disch := omega) only [lnB, Z5, Z9] <;> omega) | (simp; done) | (simp <;> omega))) | (exact congrArg (Hp.rows _) (by rfl)) | ((conv => whnf); refine ⟨?_, ?_⟩) | exact trivial | rfl)))
     all_goals
       rw [Z48 (hd.trans (Zfu hjl (by simp only [decide_eq_true_iff]; omega)))] at hr
       have hh : (l'.drop j).head? = some l'[j] := by rw [List.head?_drop, List.getElem?_eq_getElem hjl]
       rw [hh] at hr
       by_cases he : l'[j] = l[p]
       all_goals first
         | (exfalso; rw [he] at h; simp at h; done)
         | (exfalso; (try simp only [Classical.not_imp, Classical.not_not] at h); exact he (Qd.ext' (by simp only [Zf, Qd.row, List.cons.injEq, SV.int.injEq, SV.str.injEq, true_and, and_true]; exact h)))
         | (rw [decide_eq_true (by rw [he])] at hr)
         | (rw [decide_eq_false (by intro e; injection e with e; exact he e)] at hr)
       all_goals first
         | (refine ⟨(out ++ [l[p]'(by omega)], p + 1, j), ⟨by dsimp only; omega, by dsimp only; omega, by simp only [List.length_append, List.length_cons, List.length_nil]; omega, by dsimp only; rw [hr]; simp⟩, by dsimp only; omega, ?_⟩; dsimp only; (conv => whnf); (refine GOES.keeping h0 [4] rfl rfl rfl (by first | rfl | (simp only [Z7, Z3, Z0 _ (Zc _), Bool.and_self, Bool.and_true] <;> rfl)) ?_ ?_ <;> (repeat' (first | (with_reducible rfl) | (exact Za (Zc _) (Z6 _ (Zc _))) | (exact Za (Zc _) (by (simp [List.take_of_length_le, ZK, Zf]))) | (exact Zu rfl (by first | (simp; done) | omega | (simp; omega))) | (exact congrArg (SV.int _) (by first | omega | (simp (disch := omega) only [lnB, Z5, Z9] <;> omega) | (simp; done) | (simp <;> omega))) | ((conv => whnf); refine ⟨?_, ?_⟩) | exact trivial | (simp only [ren, renB]; done) | rfl))); done)
         | (refine ⟨(out, p + 1, j), ⟨by dsimp only; omega, by dsimp only; omega, by dsimp only; omega, by dsimp only; rw [hr]; simp⟩, by dsimp only; omega, ?_⟩; dsimp only; (conv => whnf); (refine GOES.cutting h0 rfl rfl rfl (by first | rfl | (simp only [Z7, Z3, Z0 _ (Zc _), Bool.and_self, Bool.and_true] <;> rfl)) ?_ ?_ <;> (repeat' (first | (with_reducible rfl) | (exact Zu rfl (by first | (simp; done) | omega | (simp; omega))) | (exact congrArg (SV.int _) (by first | omega | (simp (disch := omega) only [lnB, Z5, Z9] <;> omega) | (simp; done) | (simp <;> omega))) | (exact congrArg (Hp.rows _) (by rfl)) | ((conv => whnf); refine ⟨?_, ?_⟩) | exact trivial | rfl))); done)
         | trace_state
   · repeat' ((first | refine DRAWN.of (id := 5) Z2 Z8 Z93 (by kernel_rfl) ?_ | refine DRAWN.of (id := 7) Z2 Z8 Z94 (by kernel_rfl) ?_ | refine ADD.mk (fun _ _ => ?_) | refine AD ?_ | refine FORK.mk ?_ ?_ | (refine NEED.mk (Jf 224 rfl rfl rfl (by simp) (by omega)) ?_; conv => whnf) | (refine GET.at (row := Zf (l[p]'(by omega))) (Z47 (by omega) (by omega)) ?_; conv => whnf) | refine AU ?_ | (refine IW (fun h => ?_) (fun h => ?_) <;> try (exfalso; omega))) <;> conv => whnf)
     all_goals
       rw [Z48 (hd.trans (Zfl hjl))] at hr
       have hh : (l'.drop j).head? = none := by rw [List.head?_drop, List.getElem?_eq_none hjl]
       rw [hh, decide_eq_false (by simp)] at hr
       first
         | (refine ⟨(out ++ [l[p]'(by omega)], p + 1, j), ⟨by dsimp only; omega, by dsimp only; omega, by simp only [List.length_append, List.length_cons, List.length_nil]; omega, by dsimp only; rw [hr]; simp⟩, by dsimp only; omega, ?_⟩; dsimp only; (conv => whnf); (refine GOES.keeping h0 [4] rfl rfl rfl (by first | rfl | (simp only [Z7, Z3, Z0 _ (Zc _), Bool.and_self, Bool.and_true] <;> rfl)) ?_ ?_ <;> (repeat' (first | (with_reducible rfl) | (exact Za (Zc _) (Z6 _ (Zc _))) | (exact Za (Zc _) (by (simp [List.take_of_length_le, ZK, Zf]))) | (exact Zu rfl (by first | (simp; done) | omega | (simp; omega))) | (exact congrArg (SV.int _) (by first | omega | (simp (disch := omega) only [lnB, Z5, Z9] <;> omega) | (simp; done) | (simp <;> omega))) | ((conv => whnf); refine ⟨?_, ?_⟩) | exact trivial | (simp only [ren, renB]; done) | rfl))); done)
         | (refine ⟨(out, p + 1, j), ⟨by dsimp only; omega, by dsimp only; omega, by dsimp only; omega, by dsimp only; rw [hr]; simp⟩, by dsimp only; omega, ?_⟩; dsimp only; (conv => whnf); (refine GOES.cutting h0 rfl rfl rfl (by first | rfl | (simp only [Z7, Z3, Z0 _ (Zc _), Bool.and_self, Bool.and_true] <;> rfl)) ?_ ?_ <;> (repeat' (first | (with_reducible rfl) | (exact Zu rfl (by first | (simp; done) | omega | (simp; omega))) | (exact congrArg (SV.int _) (by first | omega | (simp (disch := omega) only [lnB, Z5, Z9] <;> omega) | (simp; done) | (simp <;> omega))) | (exact congrArg (Hp.rows _) (by rfl)) | ((conv => whnf); refine ⟨?_, ?_⟩) | exact trivial | rfl))); done)
         | trace_state
 · have hpe : l.drop p = [] := List.drop_eq_nil_of_le hpl
   rw [hpe, ZbT, List.append_nil] at hr
   repeat' ((first | refine AU ?_ | (refine IW (fun h => ?_) (fun h => ?_) <;> try (exfalso; omega))) <;> conv => whnf)
   rw [hr]
   exact FIN.rows h0 2 16 out.length rfl rfl rfl (Zc _) ⟨rfl, rfl, rfl⟩
end Go.Proofs.YtjbbkimodgffiaaGreatDoor
