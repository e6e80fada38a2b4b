/- TermLists: the row out of the walk. Conditions: none beyond the statement's own. -/
import Derived.Test.YtillkgjdbnjnoaaRows
import Derived.Test.YtillkgjdbnjnoaaLst3
/- The reference's Terms, Graphs, Blanks; are lists of terms, of texts the same? Walked. Conditions: none. -/
set_option linter.unusedVariables false
set_option linter.unusedSimpArgs false
set_option maxRecDepth 20000
set_option maxHeartbeats 8000000
namespace Go.Proofs.Ytillkgjdbnjnoaa
open Go.Sx Go.Our
def plRList70 : Plan := (planOf [(0, 1), (1, 1), (2, 1), (3, 1), (4, 1), (6, 1), (7, 1), (8, 1), (9, 1), (11, 1), (12, 1), (13, 1), (14, 1), (5, 2), (10, 2), (15, 2), (16, 3), (17, 0), (18, 1)])
def plRList71 : Plan := (planOf [(0, 1), (1, 1), (2, 1), (4, 1), (5, 1), (6, 1), (3, 2), (7, 2), (8, 1)])
theorem rterms_all (out : List Tm) (h : out.length * 56 ≤ 140737488351232) : Does Try.prog tab 48 1 [.sl (.loc 0) 0 4 out.length none] [] [(0, .rows 4 (out.map tmRow))] (NewList tmRow 4 1 (setL tmCmp out)) := by
  have hT := rterms_does out h out.length out.length 0 (Nat.le_refl _) (by omega)
  rwa [List.drop_zero, List.take_length, nsort_set triT _ out (Nat.le_refl _)] at hT
set_option maxHeartbeats 4000000 in
theorem rterms7_does (l z : List Qd) (lim : Option Nat) (hl : QdsOK l) (hz : (l ++ z).length ≤ 1152921504606846976) : Does Try.prog tab 23 1 [.sl (.loc 0) 0 16 l.length lim] [] [(0, .rows 16 ((l ++ z).map qdRow))]
    (NewList tmRow 4 1 (setL tmCmp (l.flatMap termsQ))) := by
  unfold QdsOK at hl
  have hlen : ∀ i, ((l.take i).flatMap termsQ).length ≤ (l.take i).length * 4 := fun i => flat_len _ termsQ_len _
  refine Does.enter tabOK (g := 23) (fn := Try.f23) Try.call23 Try.func23 rfl 46 rfl rfl [.tmp 2] rfl ?_
  intro w0 F η0 h0
  conv => whnf
  refine LOOP.nil 3 4 rfl ?_
  refine LOOP.go tabOK [0] (X := Nat) (fun i => i ≤ l.length) (fun i => [(4, .int .i64 (i : Int)), (3, .sl (.loc 1) 0 4 ((l.take i).flatMap termsQ).length none)]) (fun i => [(1, .rows 4 (((l.take i).flatMap termsQ).map tmRow))]) 2 (fun i => l.length - i) 0 (by omega) ?_
  conv => whnf
  refine ⟨by (refine GOES.cutting h0 rfl rfl rfl (by first | rfl | (simp only [belowO, belowH, plainLL_below _ (plainTms _), Bool.and_self, Bool.and_true] <;> rfl)) ?_ ?_ <;> (repeat' (first | (with_reducible rfl) | (exact sl_eq rfl (by first | (simp; done) | omega | (simp; omega))) | (exact congrArg (SV.int _) (by first | omega | (simp (disch := omega) only [lnB, wrap64, wrap32] <;> omega) | (simp; done) | (simp <;> omega))) | (exact congrArg (Hp.rows _) (by rfl)) | ((conv => whnf); refine ⟨?_, ?_⟩) | exact trivial | rfl))), ?_⟩
  intro i hi
  have hli := hlen i
  rw [List.length_take, Nat.min_eq_left hi] at hli
  conv => whnf
  by_cases hil : i < l.length
  · have hs := flat_succ termsQ hil
    generalize (l.take i).flatMap termsQ = out at *
    repeat' ((first | with_reducible refine IF.tt ?_ | with_reducible refine IF.ff ?_ | refine DRAWN.of (id := 5) tabOK mixed plRList70 (by kernel_rfl) ?_ | with_reducible refine ADD.mk (fun _ _ => ?_) | with_reducible refine NEED.mk (Det.of rfl) ?_ | refine NEED.mk (det_pos (by omega)) ?_ | with_reducible refine FORK.mk ?_ ?_ | (refine GET.at (row := qdRow (l[i]'(by omega))) (qd_get (by omega) (by omega)) ?_; conv => whnf) | (refine NEED.mk (needApp 56 rfl rfl (by simp) (by simp) (by omega)) ?_; conv => whnf) | (refine NEED.mk (needApp 56 rfl rfl (by simp) (by simp; omega) (by omega)) ?_; conv => whnf) | refine NEED.au ?_ | ((with_reducible apply GET.at); rfl) | ((with_reducible apply GETG.at); rfl) | ((with_reducible refine UNK.mk (fun h => ?_) ?_) <;> try (exfalso; omega)) | ((with_reducible refine IF.mk (fun h => ?_) (fun h => ?_)) <;> (try simp (disch := omega) only [hsB, hsC, lnB, wrap64, wrap32, simprocAttr] at h) <;> try (exfalso; omega))) <;> conv => whnf)
    all_goals first
      | (refine ⟨i + 1, by omega, by omega, ?_⟩; rw [hs]; (simp only [termsQ]; (try rw [if_neg (by omega)]); (try rw [if_pos (by omega)])); (conv => whnf); (refine GOES.keeping h0 [3] rfl rfl rfl (by first | rfl | (simp only [belowO, belowH, plainLL_below _ (plainTms _), Bool.and_self, Bool.and_true] <;> rfl)) ?_ ?_ <;> (repeat' (first | (with_reducible rfl) | (exact rows_eq (plainTms _) (renLL_plain _ (plainTms _))) | (exact rows_eq (plainTms _) (by (simp [List.take_of_length_le, ofVal, tmRow]))) | (exact sl_eq rfl (by first | (simp; done) | omega | (simp; omega))) | (exact congrArg (SV.int _) (by first | omega | (simp (disch := omega) only [lnB, wrap64, wrap32] <;> omega) | (simp; done) | (simp <;> omega))) | ((conv => whnf); refine ⟨?_, ?_⟩) | exact trivial | (simp only [ren, renB]; done) | rfl))); done)
      | (refine ⟨i + 1, by omega, by omega, ?_⟩; rw [hs]; (simp only [termsQ]; (try rw [if_neg (by omega)]); (try rw [if_pos (by omega)])); (conv => whnf); (refine GOES.keeping h0 [5] rfl rfl rfl (by first | rfl | (simp only [belowO, belowH, plainLL_below _ (plainTms _), Bool.and_self, Bool.and_true] <;> rfl)) ?_ ?_ <;> (repeat' (first | (with_reducible rfl) | (exact rows_eq (plainTms _) (renLL_plain _ (plainTms _))) | (exact rows_eq (plainTms _) (by (simp [List.take_of_length_le, ofVal, tmRow]))) | (exact sl_eq rfl (by first | (simp; done) | omega | (simp; omega))) | (exact congrArg (SV.int _) (by first | omega | (simp (disch := omega) only [lnB, wrap64, wrap32] <;> omega) | (simp; done) | (simp <;> omega))) | ((conv => whnf); refine ⟨?_, ?_⟩) | exact trivial | (simp only [ren, renB]; done) | rfl))); done)
      | trace_state
  · have hie : i = l.length := by omega
    subst hie
    rw [List.take_length] at hli ⊢
    generalize l.flatMap termsQ = out at *
    repeat' ((first | with_reducible refine IF.tt ?_ | with_reducible refine IF.ff ?_ | refine NEED.au ?_ | ((with_reducible apply GET.at); rfl) | ((with_reducible apply GETG.at); rfl) | ((with_reducible refine UNK.mk (fun h => ?_) ?_) <;> try (exfalso; omega)) | ((with_reducible refine IF.mk (fun h => ?_) (fun h => ?_)) <;> (try simp (disch := omega) only [hsB, hsC, lnB, wrap64, wrap32, simprocAttr] at h) <;> try (exfalso; omega))) <;> conv => whnf)
    refine CALL.at [1] (rterms_all out (by omega)) rfl rfl rfl rfl (by first | rfl | (simp only [belowO, belowH, plainLL_below _ (plainTms _), Bool.and_self, Bool.and_true] <;> rfl)) (by first | rfl | (simp only [belowO, belowH, plainLL_below _ (plainTms _), Bool.and_self, Bool.and_true] <;> rfl)) (by repeat' (first | exact trivial | exact (renH_plain _ (h := .rows _ _) (plainTms _)).symm | exact rfl | exact (renH_plain _ (h := .rows _ _) (plainTms _)).trans (renH_plain _ (h := .rows _ _) (plainTms _)).symm | ((conv => whnf); refine ⟨?_, ?_⟩))) (by repeat' (first | exact trivial | exact (renH_plain _ (h := .rows _ _) (plainTms _)).symm | exact rfl | exact (renH_plain _ (h := .rows _ _) (plainTms _)).trans (renH_plain _ (h := .rows _ _) (plainTms _)).symm | ((conv => whnf); refine ⟨?_, ?_⟩))) rfl rfl ?_
    rintro r O nx ⟨rfl, rfl, rfl⟩
    conv => whnf
    refine FIN.at h0 [2] (.sl (.loc 1) 0 4 (setL tmCmp out).length none) [(1, .rows 4 ((setL tmCmp out).map tmRow))] rfl rfl rfl (by first | rfl | (simp only [belowO, belowH, plainLL_below _ (plainTms _), Bool.and_self, Bool.and_true] <;> rfl)) (by repeat' (first | exact trivial | exact (renH_plain _ (h := .rows _ _) (plainTms _)).symm | (with_reducible rfl) | (exact (renH_plain _ (h := .rows _ _) (plainTms _)).trans (renH_plain _ (h := .rows _ _) (plainTms _)).symm) | (exact rows_eq (plainTms _) (by simp [tmRow, ofVal, List.take_of_length_le])) | exact rfl | ((conv => whnf); refine ⟨?_, ?_⟩))) rfl ?_
    exact ⟨rfl, rfl, rfl⟩
set_option maxHeartbeats 4000000 in
theorem rgraphs7_does (l z : List Qd) (lim : Option Nat) (hl : QdsOK l) (hz : (l ++ z).length ≤ 1152921504606846976) : Does Try.prog tab 24 1 [.sl (.loc 0) 0 16 l.length lim] [] [(0, .rows 16 ((l ++ z).map qdRow))]
    (NewList tmRow 4 1 (setL tmCmp (l.flatMap (fun q => [q.g])))) := by
  unfold QdsOK at hl
  have hlen : ∀ i, ((l.take i).flatMap (fun q => [q.g])).length ≤ (l.take i).length * 4 := fun i => flat_len _ (fun q => by simp) _
  refine Does.enter tabOK (g := 24) (fn := Try.f24) Try.call24 Try.func24 rfl 21 rfl rfl [.tmp 2] rfl ?_
  intro w0 F η0 h0
  conv => whnf
  refine LOOP.nil 3 4 rfl ?_
  refine LOOP.go tabOK [0] (X := Nat) (fun i => i ≤ l.length) (fun i => [(4, .int .i64 (i : Int)), (3, .sl (.loc 1) 0 4 ((l.take i).flatMap (fun q => [q.g])).length none)]) (fun i => [(1, .rows 4 (((l.take i).flatMap (fun q => [q.g])).map tmRow))]) 2 (fun i => l.length - i) 0 (by omega) ?_
  conv => whnf
  refine ⟨by (refine GOES.cutting h0 rfl rfl rfl (by first | rfl | (simp only [belowO, belowH, plainLL_below _ (plainTms _), Bool.and_self, Bool.and_true] <;> rfl)) ?_ ?_ <;> (repeat' (first | (with_reducible rfl) | (exact sl_eq rfl (by first | (simp; done) | omega | (simp; omega))) | (exact congrArg (SV.int _) (by first | omega | (simp (disch := omega) only [lnB, wrap64, wrap32] <;> omega) | (simp; done) | (simp <;> omega))) | (exact congrArg (Hp.rows _) (by rfl)) | ((conv => whnf); refine ⟨?_, ?_⟩) | exact trivial | rfl))), ?_⟩
  intro i hi
  have hli := hlen i
  rw [List.length_take, Nat.min_eq_left hi] at hli
  conv => whnf
  by_cases hil : i < l.length
  · have hs := flat_succ (fun q => [q.g]) hil
    generalize (l.take i).flatMap (fun q => [q.g]) = out at *
    repeat' ((first | with_reducible refine IF.tt ?_ | with_reducible refine IF.ff ?_ | with_reducible refine ADD.mk (fun _ _ => ?_) | with_reducible refine NEED.mk (Det.of rfl) ?_ | refine NEED.mk (det_pos (by omega)) ?_ | with_reducible refine FORK.mk ?_ ?_ | (refine GET.at (row := qdRow (l[i]'(by omega))) (qd_get (by omega) (by omega)) ?_; conv => whnf) | (refine NEED.mk (needApp 56 rfl rfl (by simp) (by simp) (by omega)) ?_; conv => whnf) | (refine NEED.mk (needApp 56 rfl rfl (by simp) (by simp; omega) (by omega)) ?_; conv => whnf) | refine NEED.au ?_ | ((with_reducible apply GET.at); rfl) | ((with_reducible apply GETG.at); rfl) | ((with_reducible refine UNK.mk (fun h => ?_) ?_) <;> try (exfalso; omega)) | ((with_reducible refine IF.mk (fun h => ?_) (fun h => ?_)) <;> (try simp (disch := omega) only [hsB, hsC, lnB, wrap64, wrap32, simprocAttr] at h) <;> try (exfalso; omega))) <;> conv => whnf)
    all_goals first
      | (refine ⟨i + 1, by omega, by omega, ?_⟩; rw [hs]; skip; (conv => whnf); (refine GOES.keeping h0 [3] rfl rfl rfl (by first | rfl | (simp only [belowO, belowH, plainLL_below _ (plainTms _), Bool.and_self, Bool.and_true] <;> rfl)) ?_ ?_ <;> (repeat' (first | (with_reducible rfl) | (exact rows_eq (plainTms _) (renLL_plain _ (plainTms _))) | (exact rows_eq (plainTms _) (by (simp [List.take_of_length_le, ofVal, tmRow]))) | (exact sl_eq rfl (by first | (simp; done) | omega | (simp; omega))) | (exact congrArg (SV.int _) (by first | omega | (simp (disch := omega) only [lnB, wrap64, wrap32] <;> omega) | (simp; done) | (simp <;> omega))) | ((conv => whnf); refine ⟨?_, ?_⟩) | exact trivial | (simp only [ren, renB]; done) | rfl))); done)
      | (refine ⟨i + 1, by omega, by omega, ?_⟩; rw [hs]; skip; (conv => whnf); (refine GOES.keeping h0 [5] rfl rfl rfl (by first | rfl | (simp only [belowO, belowH, plainLL_below _ (plainTms _), Bool.and_self, Bool.and_true] <;> rfl)) ?_ ?_ <;> (repeat' (first | (with_reducible rfl) | (exact rows_eq (plainTms _) (renLL_plain _ (plainTms _))) | (exact rows_eq (plainTms _) (by (simp [List.take_of_length_le, ofVal, tmRow]))) | (exact sl_eq rfl (by first | (simp; done) | omega | (simp; omega))) | (exact congrArg (SV.int _) (by first | omega | (simp (disch := omega) only [lnB, wrap64, wrap32] <;> omega) | (simp; done) | (simp <;> omega))) | ((conv => whnf); refine ⟨?_, ?_⟩) | exact trivial | (simp only [ren, renB]; done) | rfl))); done)
      | trace_state
  · have hie : i = l.length := by omega
    subst hie
    rw [List.take_length] at hli ⊢
    generalize l.flatMap (fun q => [q.g]) = out at *
    repeat' ((first | with_reducible refine IF.tt ?_ | with_reducible refine IF.ff ?_ | refine NEED.au ?_ | ((with_reducible apply GET.at); rfl) | ((with_reducible apply GETG.at); rfl) | ((with_reducible refine UNK.mk (fun h => ?_) ?_) <;> try (exfalso; omega)) | ((with_reducible refine IF.mk (fun h => ?_) (fun h => ?_)) <;> (try simp (disch := omega) only [hsB, hsC, lnB, wrap64, wrap32, simprocAttr] at h) <;> try (exfalso; omega))) <;> conv => whnf)
    refine CALL.at [1] (rterms_all out (by omega)) rfl rfl rfl rfl (by first | rfl | (simp only [belowO, belowH, plainLL_below _ (plainTms _), Bool.and_self, Bool.and_true] <;> rfl)) (by first | rfl | (simp only [belowO, belowH, plainLL_below _ (plainTms _), Bool.and_self, Bool.and_true] <;> rfl)) (by repeat' (first | exact trivial | exact (renH_plain _ (h := .rows _ _) (plainTms _)).symm | exact rfl | exact (renH_plain _ (h := .rows _ _) (plainTms _)).trans (renH_plain _ (h := .rows _ _) (plainTms _)).symm | ((conv => whnf); refine ⟨?_, ?_⟩))) (by repeat' (first | exact trivial | exact (renH_plain _ (h := .rows _ _) (plainTms _)).symm | exact rfl | exact (renH_plain _ (h := .rows _ _) (plainTms _)).trans (renH_plain _ (h := .rows _ _) (plainTms _)).symm | ((conv => whnf); refine ⟨?_, ?_⟩))) rfl rfl ?_
    rintro r O nx ⟨rfl, rfl, rfl⟩
    conv => whnf
    refine FIN.at h0 [2] (.sl (.loc 1) 0 4 (setL tmCmp out).length none) [(1, .rows 4 ((setL tmCmp out).map tmRow))] rfl rfl rfl (by first | rfl | (simp only [belowO, belowH, plainLL_below _ (plainTms _), Bool.and_self, Bool.and_true] <;> rfl)) (by repeat' (first | exact trivial | exact (renH_plain _ (h := .rows _ _) (plainTms _)).symm | (with_reducible rfl) | (exact (renH_plain _ (h := .rows _ _) (plainTms _)).trans (renH_plain _ (h := .rows _ _) (plainTms _)).symm) | (exact rows_eq (plainTms _) (by simp [tmRow, ofVal, List.take_of_length_le])) | exact rfl | ((conv => whnf); refine ⟨?_, ?_⟩))) rfl ?_
    exact ⟨rfl, rfl, rfl⟩
theorem sameT_does (A B : List Tm) (i n j m : Nat) (lA lB : Option Nat) (hA : i + n ≤ A.length) (hB : j + m ≤ B.length) (hn : A.length ≤ 1152921504606846976) (hm : B.length ≤ 1152921504606846976) : Does Try.prog tab 22 2 [.sl (.loc 0) i 4 n lA, .sl (.loc 1) j 4 m lB] [] [(0, .rows 4 (A.map tmRow)), (1, .rows 4 (B.map tmRow))]
    (ValK 2 (.bool (decide ((A.drop i).take n = (B.drop j).take m)))) := by
  have gA : ∀ {l : List Tm} {i k : Nat} (h : i < l.length) (e : k = i), (l.map tmRow)[k]? = some (tmRow l[i]) := fun h e => by subst e; rw [List.getElem?_map, List.getElem?_eq_getElem h]; rfl
  refine Does.enter tabOK (g := 22) (fn := Try.f22) Try.call22 Try.func22 rfl 26 rfl rfl [.tmp 4] rfl ?_
  intro w0 F η0 h0
  conv => whnf
  refine IF.mk (fun h => ?_) (fun h => ?_)
  · have h : n ≠ m := by simp at h; omega
    conv => whnf
    refine FIN.valueK h0 rfl (congrArg SV.bool (decide_eq_false fun he => ?_).symm)
    have := congrArg List.length he
    simp at this
    omega
  have h : n = m := by simp at h; omega
  subst h
  conv => whnf
  refine LOOP.go tabOK [0, 1] (X := Nat) (fun c => c ≤ n ∧ ((A.drop i).take n = (B.drop j).take n ↔ (A.drop (i + c)).take (n - c) = (B.drop (j + c)).take (n - c))) (fun c => [(5, .int .i64 (c : Int))]) (fun c => []) 2 (fun c => n - c) 0 ⟨by omega, by simp⟩ ?_
  conv => whnf
  refine ⟨by (refine GOES.cutting h0 rfl rfl rfl (by first | rfl | simp [belowO, belowH, plainLL_below, plainLL_map, plainL, plain]) ?_ ?_ <;> (repeat' (first | (with_reducible rfl) | (exact congrArg (fun n => SV.sl _ _ _ n _) (by simp)) | (exact congrArg (Hp.rows _) (by simp)) | (exact congrArg (SV.int _) (by first | omega | (simp (disch := omega) only [lnB, wrap64, wrap32] <;> omega) | (simp; done) | (simp <;> omega))) | ((conv => whnf); refine ⟨?_, ?_⟩) | exact trivial | (simp; done) | rfl))), ?_⟩
  rintro c ⟨hc, hs⟩
  conv => whnf
  by_cases hcn : c < n
  · have ha : i + c < A.length := by omega
    have hb : j + c < B.length := by omega
    have hstep : (A.drop (i + c)).take (n - c) = (B.drop (j + c)).take (n - c) ↔ A[i + c] = B[j + c] ∧ (A.drop (i + (c + 1))).take (n - (c + 1)) = (B.drop (j + (c + 1))).take (n - (c + 1)) := by
      rw [List.drop_eq_getElem_cons ha, List.drop_eq_getElem_cons hb, show n - c = (n - (c + 1)) + 1 by omega]
      simp only [List.take_succ_cons, List.cons.injEq]
      rw [show i + c + 1 = i + (c + 1) by omega, show j + c + 1 = j + (c + 1) by omega]
    repeat' ((first | with_reducible refine IF.tt ?_ | with_reducible refine IF.ff ?_ | refine DRAWN.of (id := 6) tabOK mixed plRList71 (by kernel_rfl) ?_ | with_reducible refine ADD.mk (fun _ _ => ?_) | with_reducible refine NEED.mk (Det.of rfl) ?_ | refine NEED.mk (det_pos (by omega)) ?_ | with_reducible refine FORK.mk ?_ ?_ | (refine GET.at (row := tmRow (A[i + c]'(by omega))) (gA (by omega) (by omega)) ?_; conv => whnf) | (refine GET.at (row := tmRow (B[j + c]'(by omega))) (gA (by omega) (by omega)) ?_; conv => whnf) | refine NEED.au ?_ | ((with_reducible apply GET.at); rfl) | ((with_reducible apply GETG.at); rfl) | ((with_reducible refine UNK.mk (fun h => ?_) ?_) <;> try (exfalso; omega)) | ((with_reducible refine IF.mk (fun h => ?_) (fun h => ?_)) <;> (try simp (disch := omega) only [hsB, hsC, lnB, wrap64, wrap32, simprocAttr] at h) <;> try (exfalso; omega))) <;> conv => whnf)
    · have hne : A[i + c] ≠ B[j + c] := fun he => by rw [he] at h; simp at h
      exact FIN.valueK h0 rfl (congrArg SV.bool (decide_eq_false fun he => hne (hstep.1 (hs.1 he)).1).symm)
    · have heq : A[i + c] = B[j + c] := Tm.ext' (by simp only [tmRow, List.cons.injEq, SV.int.injEq, SV.str.injEq, true_and, and_true]; exact h)
      refine ⟨c + 1, ⟨by omega, hs.trans (hstep.trans ⟨fun x => x.2, fun x => ⟨heq, x⟩⟩)⟩, by omega, ?_⟩
      conv => whnf
      (refine GOES.cutting h0 rfl rfl rfl (by first | rfl | simp [belowO, belowH, plainLL_below, plainLL_map, plainL, plain]) ?_ ?_ <;> (repeat' (first | (with_reducible rfl) | (exact congrArg (fun n => SV.sl _ _ _ n _) (by simp)) | (exact congrArg (Hp.rows _) (by simp)) | (exact congrArg (SV.int _) (by first | omega | (simp (disch := omega) only [lnB, wrap64, wrap32] <;> omega) | (simp; done) | (simp <;> omega))) | ((conv => whnf); refine ⟨?_, ?_⟩) | exact trivial | (simp; done) | rfl)))
  · repeat' ((first | with_reducible refine IF.tt ?_ | with_reducible refine IF.ff ?_ | refine NEED.au ?_ | ((with_reducible apply GET.at); rfl) | ((with_reducible apply GETG.at); rfl) | ((with_reducible refine UNK.mk (fun h => ?_) ?_) <;> try (exfalso; omega)) | ((with_reducible refine IF.mk (fun h => ?_) (fun h => ?_)) <;> (try simp (disch := omega) only [hsB, hsC, lnB, wrap64, wrap32, simprocAttr] at h) <;> try (exfalso; omega))) <;> conv => whnf)
    refine FIN.valueK h0 rfl (congrArg SV.bool (decide_eq_true (hs.2 ?_)).symm)
    rw [show n - c = 0 by omega]; rfl
theorem sameS_does (A B : List (List UInt8)) (i n j m : Nat) (lA lB : Option Nat) (hA : i + n ≤ A.length) (hB : j + m ≤ B.length) (hn : A.length ≤ 1152921504606846976) (hm : B.length ≤ 1152921504606846976) : Does Try.prog tab 25 2 [.sl (.loc 0) i 1 n lA, .sl (.loc 1) j 1 m lB] [] [(0, .rows 1 (A.map strRowS)), (1, .rows 1 (B.map strRowS))]
    (ValK 2 (.bool (decide ((A.drop i).take n = (B.drop j).take m)))) := by
  have gA : ∀ {l : List (List UInt8)} {i k : Nat} (h : i < l.length) (e : k = i), (l.map strRowS)[k]? = some (strRowS l[i]) := fun h e => by subst e; rw [List.getElem?_map, List.getElem?_eq_getElem h]; rfl
  refine Does.enter tabOK (g := 25) (fn := Try.f25) Try.call25 Try.func25 rfl 26 rfl rfl [.tmp 4] rfl ?_
  intro w0 F η0 h0
  conv => whnf
  refine IF.mk (fun h => ?_) (fun h => ?_)
  · have h : n ≠ m := by simp at h; omega
    conv => whnf
    refine FIN.valueK h0 rfl (congrArg SV.bool (decide_eq_false fun he => ?_).symm)
    have := congrArg List.length he
    simp at this
    omega
  have h : n = m := by simp at h; omega
  subst h
  conv => whnf
  refine LOOP.go tabOK [0, 1] (X := Nat) (fun c => c ≤ n ∧ ((A.drop i).take n = (B.drop j).take n ↔ (A.drop (i + c)).take (n - c) = (B.drop (j + c)).take (n - c))) (fun c => [(5, .int .i64 (c : Int))]) (fun c => []) 2 (fun c => n - c) 0 ⟨by omega, by simp⟩ ?_
  conv => whnf
  refine ⟨by (refine GOES.cutting h0 rfl rfl rfl (by first | rfl | simp [belowO, belowH, plainLL_below, plainLL_map, plainL, plain]) ?_ ?_ <;> (repeat' (first | (with_reducible rfl) | (exact congrArg (fun n => SV.sl _ _ _ n _) (by simp)) | (exact congrArg (Hp.rows _) (by simp)) | (exact congrArg (SV.int _) (by first | omega | (simp (disch := omega) only [lnB, wrap64, wrap32] <;> omega) | (simp; done) | (simp <;> omega))) | ((conv => whnf); refine ⟨?_, ?_⟩) | exact trivial | (simp; done) | rfl))), ?_⟩
  rintro c ⟨hc, hs⟩
  conv => whnf
  by_cases hcn : c < n
  · have ha : i + c < A.length := by omega
    have hb : j + c < B.length := by omega
    have hstep : (A.drop (i + c)).take (n - c) = (B.drop (j + c)).take (n - c) ↔ A[i + c] = B[j + c] ∧ (A.drop (i + (c + 1))).take (n - (c + 1)) = (B.drop (j + (c + 1))).take (n - (c + 1)) := by
      rw [List.drop_eq_getElem_cons ha, List.drop_eq_getElem_cons hb, show n - c = (n - (c + 1)) + 1 by omega]
      simp only [List.take_succ_cons, List.cons.injEq]
      rw [show i + c + 1 = i + (c + 1) by omega, show j + c + 1 = j + (c + 1) by omega]
    repeat' ((first | with_reducible refine IF.tt ?_ | with_reducible refine IF.ff ?_ | refine DRAWN.of (id := 6) tabOK mixed plRList71 (by kernel_rfl) ?_ | with_reducible refine ADD.mk (fun _ _ => ?_) | with_reducible refine NEED.mk (Det.of rfl) ?_ | refine NEED.mk (det_pos (by omega)) ?_ | with_reducible refine FORK.mk ?_ ?_ | (refine GET.at (row := strRowS (A[i + c]'(by omega))) (gA (by omega) (by omega)) ?_; conv => whnf) | (refine GET.at (row := strRowS (B[j + c]'(by omega))) (gA (by omega) (by omega)) ?_; conv => whnf) | refine NEED.au ?_ | ((with_reducible apply GET.at); rfl) | ((with_reducible apply GETG.at); rfl) | ((with_reducible refine UNK.mk (fun h => ?_) ?_) <;> try (exfalso; omega)) | ((with_reducible refine IF.mk (fun h => ?_) (fun h => ?_)) <;> (try simp (disch := omega) only [hsB, hsC, lnB, wrap64, wrap32, simprocAttr] at h) <;> try (exfalso; omega))) <;> conv => whnf)
    · have hne : A[i + c] ≠ B[j + c] := fun he => by rw [he] at h; simp at h
      exact FIN.valueK h0 rfl (congrArg SV.bool (decide_eq_false fun he => hne (hstep.1 (hs.1 he)).1).symm)
    · have heq : A[i + c] = B[j + c] := id (h)
      refine ⟨c + 1, ⟨by omega, hs.trans (hstep.trans ⟨fun x => x.2, fun x => ⟨heq, x⟩⟩)⟩, by omega, ?_⟩
      conv => whnf
      (refine GOES.cutting h0 rfl rfl rfl (by first | rfl | simp [belowO, belowH, plainLL_below, plainLL_map, plainL, plain]) ?_ ?_ <;> (repeat' (first | (with_reducible rfl) | (exact congrArg (fun n => SV.sl _ _ _ n _) (by simp)) | (exact congrArg (Hp.rows _) (by simp)) | (exact congrArg (SV.int _) (by first | omega | (simp (disch := omega) only [lnB, wrap64, wrap32] <;> omega) | (simp; done) | (simp <;> omega))) | ((conv => whnf); refine ⟨?_, ?_⟩) | exact trivial | (simp; done) | rfl)))
  · repeat' ((first | with_reducible refine IF.tt ?_ | with_reducible refine IF.ff ?_ | refine NEED.au ?_ | ((with_reducible apply GET.at); rfl) | ((with_reducible apply GETG.at); rfl) | ((with_reducible refine UNK.mk (fun h => ?_) ?_) <;> try (exfalso; omega)) | ((with_reducible refine IF.mk (fun h => ?_) (fun h => ?_)) <;> (try simp (disch := omega) only [hsB, hsC, lnB, wrap64, wrap32, simprocAttr] at h) <;> try (exfalso; omega))) <;> conv => whnf)
    refine FIN.valueK h0 rfl (congrArg SV.bool (decide_eq_true (hs.2 ?_)).symm)
    rw [show n - c = 0 by omega]; rfl
end Go.Proofs.Ytillkgjdbnjnoaa
/- The reference's Blanks; walked. Conditions: none. -/
set_option linter.unusedVariables false
set_option linter.unusedSimpArgs false
set_option maxRecDepth 20000
set_option maxHeartbeats 8000000
namespace Go.Proofs.Ytillkgjdbnjnoaa
open Go.Sx Go.Our
def plRBlanks70 : Plan := (planOf [(0, 1), (1, 1), (2, 1), (3, 1), (5, 1), (6, 1), (7, 1), (8, 1), (10, 1), (11, 1), (12, 1), (13, 1), (15, 1), (16, 1), (17, 1), (18, 1), (4, 2), (9, 2), (14, 2), (19, 2), (20, 1), (21, 3), (22, 0)])
theorem mk_flat (l : List (List UInt8)) (a : List (List UInt8)) : (l ++ a).map mkBlank = l.map mkBlank ++ a.map mkBlank := List.map_append
theorem rblanks_does (l z : List Qd) (lim : Option Nat) (hl : QdsOK l) (hz : (l ++ z).length ≤ 1152921504606846976) : Does Try.prog tab 26 1 [.sl (.loc 0) 0 16 l.length lim] [] [(0, .rows 16 ((l ++ z).map qdRow))]
    (NewList strRowS 1 1 (setL cmpL (allBlanks l))) := by
  unfold QdsOK at hl
  have hlen : ∀ i, ((l.take i).flatMap blanksQ).length ≤ (l.take i).length * 4 := fun i => flat_len _ blanksQ_len _
  unfold allBlanks
  refine Does.enter tabOK (g := 26) (fn := Try.f26) Try.call26 Try.func26 rfl 70 rfl rfl [.tmp 2] rfl ?_
  intro w0 F η0 h0
  conv => whnf
  refine LOOP.nil 3 4 rfl ?_
  refine LOOP.go tabOK [0] (X := Nat) (fun i => i ≤ l.length) (fun i => [(4, .int .i64 (i : Int)), (3, .sl (.loc 1) 0 4 (((l.take i).flatMap blanksQ).map mkBlank).length none)]) (fun i => [(1, .rows 4 ((((l.take i).flatMap blanksQ).map mkBlank).map tmRow))]) 2 (fun i => l.length - i) 0 (by omega) ?_
  conv => whnf
  refine ⟨by (refine GOES.cutting h0 rfl rfl rfl (by first | rfl | (simp only [belowO, belowH, plainLL_below _ (plainTms _), Bool.and_self, Bool.and_true] <;> rfl)) ?_ ?_ <;> (repeat' (first | (with_reducible rfl) | (exact sl_eq rfl (by first | (simp; done) | omega | (simp; omega))) | (exact congrArg (SV.int _) (by first | omega | (simp (disch := omega) only [lnB, wrap64, wrap32] <;> omega) | (simp; done) | (simp <;> omega))) | (exact congrArg (Hp.rows _) (by rfl)) | ((conv => whnf); refine ⟨?_, ?_⟩) | exact trivial | rfl))), ?_⟩
  intro i hi
  have hli := hlen i
  rw [List.length_take, Nat.min_eq_left hi] at hli
  conv => whnf
  by_cases hil : i < l.length
  · have hs := flat_succ blanksQ hil
    generalize (l.take i).flatMap blanksQ = out at *
    repeat' ((first | with_reducible refine IF.tt ?_ | with_reducible refine IF.ff ?_ | refine DRAWN.of (id := 5) tabOK mixed plRBlanks70 (by kernel_rfl) ?_ | with_reducible refine ADD.mk (fun _ _ => ?_) | with_reducible refine NEED.mk (Det.of rfl) ?_ | refine NEED.mk (det_pos (by omega)) ?_ | with_reducible refine FORK.mk ?_ ?_ | (refine GET.at (row := qdRow (l[i]'(by omega))) (qd_get (by omega) (by omega)) ?_; conv => whnf) | refine NEED.au ?_ | ((with_reducible apply GET.at); rfl) | ((with_reducible apply GETG.at); rfl) | ((with_reducible refine UNK.mk (fun h => ?_) ?_) <;> try (exfalso; omega)) | ((with_reducible refine IF.mk (fun h => ?_) (fun h => ?_)) <;> (try simp (disch := omega) only [hsB, hsC, lnB, wrap64, wrap32, simprocAttr] at h) <;> try (exfalso; omega))) <;> conv => whnf)
    refine LOOP.go tabOK [0, 4, 5] (X := Nat × List Tm) (fun x => x.1 ≤ 4 ∧ x.2 = (out ++ fourP l[i] x.1).map mkBlank) (fun x => [(6, .int .i64 (x.1 : Int)), (3, .sl (.loc 1) 0 4 x.2.length none)]) (fun x => [(1, .rows 4 (x.2.map tmRow)), (2, .rows 4 ((fourT l[i]).map tmRow))]) 3 (fun x => 4 - x.1) (0, out.map mkBlank) ⟨by simp, by simp [fourP]⟩ ?_
    conv => whnf
    refine ⟨by (refine GOES.cutting h0 rfl rfl rfl (by (repeat' (first | (refine belowO_cons rfl ?_ ?_) | exact belowH_rows (plainTms _) | exact belowH_renrows (plainTms _) | rfl))) ?_ ?_ <;> (repeat' (first | (with_reducible rfl) | exact trivial | (exact sl_eq rfl (by first | omega | (simp (disch := omega) only [lnB, wrap64, wrap32] <;> omega) | (simp; done) | (simp <;> omega))) | (exact congrArg (SV.int _) (by first | omega | (simp (disch := omega) only [lnB, wrap64, wrap32] <;> omega) | (simp; done) | (simp <;> omega))) | (exact box_int (by first | omega | (simp (disch := omega) only [lnB, wrap64, wrap32] <;> omega) | (simp; done) | (simp <;> omega))) | (exact box_sl (by first | omega | (simp (disch := omega) only [lnB, wrap64, wrap32] <;> omega) | (simp; done) | (simp <;> omega))) | (exact renH_plain _ (h := .rows _ _) (plainTms _)) | (exact congrArg (Hp.rows _) (by rfl)) | ((conv => whnf); refine ⟨?_, ?_⟩) | rfl))), ?_⟩
    rintro ⟨j, o2⟩ ⟨hj, ho2⟩
    dsimp only at hj ho2 ⊢
    have hfl := fourP_len l[i] j
    have ho2l : o2.length ≤ i * 4 + j := by rw [ho2, List.length_map, List.length_append]; omega
    by_cases hj4 : j < 4
    · obtain rfl | rfl | rfl | rfl : j = 0 ∨ j = 1 ∨ j = 2 ∨ j = 3 := by omega
      · have hst := (fourP_s l[i]).1
        conv => whnf
        repeat' ((first | with_reducible refine IF.tt ?_ | with_reducible refine IF.ff ?_ | (refine GET.at (row := tmRow l[i].s) rfl ?_; conv => whnf) | (refine NEED.mk (needApp 56 rfl rfl rfl (by simp) (by omega)) ?_; conv => whnf) | refine NEED.au ?_ | ((with_reducible apply GET.at); rfl) | ((with_reducible apply GETG.at); rfl) | ((with_reducible refine UNK.mk (fun h => ?_) ?_) <;> try (exfalso; omega)) | ((with_reducible refine IF.mk (fun h => ?_) (fun h => ?_)) <;> (try simp (disch := omega) only [hsB, hsC, lnB, wrap64, wrap32, simprocAttr] at h) <;> try (exfalso; omega))) <;> conv => whnf)
        · refine ⟨(1, o2 ++ [mkBlank l[i].s.t]), ⟨by simp, by dsimp only; rw [hst, blankT_y h, ho2, ← List.append_assoc, mk_flat _ [l[i].s.t]]; rfl⟩, by simp, ?_⟩
          dsimp only
          conv => whnf
          (refine GOES.keeping h0 [4, 2] rfl rfl rfl (by first | rfl | (simp only [belowO, belowH, plainLL_below _ (plainTms _), Bool.and_self, Bool.and_true] <;> rfl)) ?_ ?_ <;> (repeat' (first | (with_reducible rfl) | (exact rows_eq (plainTms _) (renLL_plain _ (plainTms _))) | (exact rows_eq (plainTms _) (by (simp [List.take_of_length_le, ofVal, tmRow, mkBlank]))) | (exact sl_eq rfl (by first | (simp; done) | omega | (simp; omega))) | (exact congrArg (SV.int _) (by first | omega | (simp (disch := omega) only [lnB, wrap64, wrap32] <;> omega) | (simp; done) | (simp <;> omega))) | ((conv => whnf); refine ⟨?_, ?_⟩) | exact trivial | (simp only [ren, renB]; done) | rfl)))
        · refine ⟨(1, o2), ⟨by simp, by dsimp only; rw [hst, blankT_n h, ho2, List.append_nil]⟩, by simp, ?_⟩
          dsimp only
          conv => whnf
          (refine GOES.cutting h0 rfl rfl rfl (by (repeat' (first | (refine belowO_cons rfl ?_ ?_) | exact belowH_rows (plainTms _) | exact belowH_renrows (plainTms _) | rfl))) ?_ ?_ <;> (repeat' (first | (with_reducible rfl) | exact trivial | (exact sl_eq rfl (by first | omega | (simp (disch := omega) only [lnB, wrap64, wrap32] <;> omega) | (simp; done) | (simp <;> omega))) | (exact congrArg (SV.int _) (by first | omega | (simp (disch := omega) only [lnB, wrap64, wrap32] <;> omega) | (simp; done) | (simp <;> omega))) | (exact box_int (by first | omega | (simp (disch := omega) only [lnB, wrap64, wrap32] <;> omega) | (simp; done) | (simp <;> omega))) | (exact box_sl (by first | omega | (simp (disch := omega) only [lnB, wrap64, wrap32] <;> omega) | (simp; done) | (simp <;> omega))) | (exact renH_plain _ (h := .rows _ _) (plainTms _)) | (exact congrArg (Hp.rows _) (by rfl)) | ((conv => whnf); refine ⟨?_, ?_⟩) | rfl)))
      · have hst := (fourP_s l[i]).2.1
        conv => whnf
        repeat' ((first | with_reducible refine IF.tt ?_ | with_reducible refine IF.ff ?_ | (refine GET.at (row := tmRow l[i].p) rfl ?_; conv => whnf) | (refine NEED.mk (needApp 56 rfl rfl rfl (by simp) (by omega)) ?_; conv => whnf) | refine NEED.au ?_ | ((with_reducible apply GET.at); rfl) | ((with_reducible apply GETG.at); rfl) | ((with_reducible refine UNK.mk (fun h => ?_) ?_) <;> try (exfalso; omega)) | ((with_reducible refine IF.mk (fun h => ?_) (fun h => ?_)) <;> (try simp (disch := omega) only [hsB, hsC, lnB, wrap64, wrap32, simprocAttr] at h) <;> try (exfalso; omega))) <;> conv => whnf)
        · refine ⟨(2, o2 ++ [mkBlank l[i].p.t]), ⟨by simp, by dsimp only; rw [hst, blankT_y h, ho2, ← List.append_assoc, mk_flat _ [l[i].p.t]]; rfl⟩, by simp, ?_⟩
          dsimp only
          conv => whnf
          (refine GOES.keeping h0 [4, 2] rfl rfl rfl (by first | rfl | (simp only [belowO, belowH, plainLL_below _ (plainTms _), Bool.and_self, Bool.and_true] <;> rfl)) ?_ ?_ <;> (repeat' (first | (with_reducible rfl) | (exact rows_eq (plainTms _) (renLL_plain _ (plainTms _))) | (exact rows_eq (plainTms _) (by (simp [List.take_of_length_le, ofVal, tmRow, mkBlank]))) | (exact sl_eq rfl (by first | (simp; done) | omega | (simp; omega))) | (exact congrArg (SV.int _) (by first | omega | (simp (disch := omega) only [lnB, wrap64, wrap32] <;> omega) | (simp; done) | (simp <;> omega))) | ((conv => whnf); refine ⟨?_, ?_⟩) | exact trivial | (simp only [ren, renB]; done) | rfl)))
        · refine ⟨(2, o2), ⟨by simp, by dsimp only; rw [hst, blankT_n h, ho2, List.append_nil]⟩, by simp, ?_⟩
          dsimp only
          conv => whnf
          (refine GOES.cutting h0 rfl rfl rfl (by (repeat' (first | (refine belowO_cons rfl ?_ ?_) | exact belowH_rows (plainTms _) | exact belowH_renrows (plainTms _) | rfl))) ?_ ?_ <;> (repeat' (first | (with_reducible rfl) | exact trivial | (exact sl_eq rfl (by first | omega | (simp (disch := omega) only [lnB, wrap64, wrap32] <;> omega) | (simp; done) | (simp <;> omega))) | (exact congrArg (SV.int _) (by first | omega | (simp (disch := omega) only [lnB, wrap64, wrap32] <;> omega) | (simp; done) | (simp <;> omega))) | (exact box_int (by first | omega | (simp (disch := omega) only [lnB, wrap64, wrap32] <;> omega) | (simp; done) | (simp <;> omega))) | (exact box_sl (by first | omega | (simp (disch := omega) only [lnB, wrap64, wrap32] <;> omega) | (simp; done) | (simp <;> omega))) | (exact renH_plain _ (h := .rows _ _) (plainTms _)) | (exact congrArg (Hp.rows _) (by rfl)) | ((conv => whnf); refine ⟨?_, ?_⟩) | rfl)))
      · have hst := (fourP_s l[i]).2.2.1
        conv => whnf
        repeat' ((first | with_reducible refine IF.tt ?_ | with_reducible refine IF.ff ?_ | (refine GET.at (row := tmRow l[i].o) rfl ?_; conv => whnf) | (refine NEED.mk (needApp 56 rfl rfl rfl (by simp) (by omega)) ?_; conv => whnf) | refine NEED.au ?_ | ((with_reducible apply GET.at); rfl) | ((with_reducible apply GETG.at); rfl) | ((with_reducible refine UNK.mk (fun h => ?_) ?_) <;> try (exfalso; omega)) | ((with_reducible refine IF.mk (fun h => ?_) (fun h => ?_)) <;> (try simp (disch := omega) only [hsB, hsC, lnB, wrap64, wrap32, simprocAttr] at h) <;> try (exfalso; omega))) <;> conv => whnf)
        · refine ⟨(3, o2 ++ [mkBlank l[i].o.t]), ⟨by simp, by dsimp only; rw [hst, blankT_y h, ho2, ← List.append_assoc, mk_flat _ [l[i].o.t]]; rfl⟩, by simp, ?_⟩
          dsimp only
          conv => whnf
          (refine GOES.keeping h0 [4, 2] rfl rfl rfl (by first | rfl | (simp only [belowO, belowH, plainLL_below _ (plainTms _), Bool.and_self, Bool.and_true] <;> rfl)) ?_ ?_ <;> (repeat' (first | (with_reducible rfl) | (exact rows_eq (plainTms _) (renLL_plain _ (plainTms _))) | (exact rows_eq (plainTms _) (by (simp [List.take_of_length_le, ofVal, tmRow, mkBlank]))) | (exact sl_eq rfl (by first | (simp; done) | omega | (simp; omega))) | (exact congrArg (SV.int _) (by first | omega | (simp (disch := omega) only [lnB, wrap64, wrap32] <;> omega) | (simp; done) | (simp <;> omega))) | ((conv => whnf); refine ⟨?_, ?_⟩) | exact trivial | (simp only [ren, renB]; done) | rfl)))
        · refine ⟨(3, o2), ⟨by simp, by dsimp only; rw [hst, blankT_n h, ho2, List.append_nil]⟩, by simp, ?_⟩
          dsimp only
          conv => whnf
          (refine GOES.cutting h0 rfl rfl rfl (by (repeat' (first | (refine belowO_cons rfl ?_ ?_) | exact belowH_rows (plainTms _) | exact belowH_renrows (plainTms _) | rfl))) ?_ ?_ <;> (repeat' (first | (with_reducible rfl) | exact trivial | (exact sl_eq rfl (by first | omega | (simp (disch := omega) only [lnB, wrap64, wrap32] <;> omega) | (simp; done) | (simp <;> omega))) | (exact congrArg (SV.int _) (by first | omega | (simp (disch := omega) only [lnB, wrap64, wrap32] <;> omega) | (simp; done) | (simp <;> omega))) | (exact box_int (by first | omega | (simp (disch := omega) only [lnB, wrap64, wrap32] <;> omega) | (simp; done) | (simp <;> omega))) | (exact box_sl (by first | omega | (simp (disch := omega) only [lnB, wrap64, wrap32] <;> omega) | (simp; done) | (simp <;> omega))) | (exact renH_plain _ (h := .rows _ _) (plainTms _)) | (exact congrArg (Hp.rows _) (by rfl)) | ((conv => whnf); refine ⟨?_, ?_⟩) | rfl)))
      · have hst := (fourP_s l[i]).2.2.2
        conv => whnf
        repeat' ((first | with_reducible refine IF.tt ?_ | with_reducible refine IF.ff ?_ | (refine GET.at (row := tmRow l[i].g) rfl ?_; conv => whnf) | (refine NEED.mk (needApp 56 rfl rfl rfl (by simp) (by omega)) ?_; conv => whnf) | refine NEED.au ?_ | ((with_reducible apply GET.at); rfl) | ((with_reducible apply GETG.at); rfl) | ((with_reducible refine UNK.mk (fun h => ?_) ?_) <;> try (exfalso; omega)) | ((with_reducible refine IF.mk (fun h => ?_) (fun h => ?_)) <;> (try simp (disch := omega) only [hsB, hsC, lnB, wrap64, wrap32, simprocAttr] at h) <;> try (exfalso; omega))) <;> conv => whnf)
        · refine ⟨(4, o2 ++ [mkBlank l[i].g.t]), ⟨by simp, by dsimp only; rw [hst, blankT_y h, ho2, ← List.append_assoc, mk_flat _ [l[i].g.t]]; rfl⟩, by simp, ?_⟩
          dsimp only
          conv => whnf
          (refine GOES.keeping h0 [4, 2] rfl rfl rfl (by first | rfl | (simp only [belowO, belowH, plainLL_below _ (plainTms _), Bool.and_self, Bool.and_true] <;> rfl)) ?_ ?_ <;> (repeat' (first | (with_reducible rfl) | (exact rows_eq (plainTms _) (renLL_plain _ (plainTms _))) | (exact rows_eq (plainTms _) (by (simp [List.take_of_length_le, ofVal, tmRow, mkBlank]))) | (exact sl_eq rfl (by first | (simp; done) | omega | (simp; omega))) | (exact congrArg (SV.int _) (by first | omega | (simp (disch := omega) only [lnB, wrap64, wrap32] <;> omega) | (simp; done) | (simp <;> omega))) | ((conv => whnf); refine ⟨?_, ?_⟩) | exact trivial | (simp only [ren, renB]; done) | rfl)))
        · refine ⟨(4, o2), ⟨by simp, by dsimp only; rw [hst, blankT_n h, ho2, List.append_nil]⟩, by simp, ?_⟩
          dsimp only
          conv => whnf
          (refine GOES.cutting h0 rfl rfl rfl (by (repeat' (first | (refine belowO_cons rfl ?_ ?_) | exact belowH_rows (plainTms _) | exact belowH_renrows (plainTms _) | rfl))) ?_ ?_ <;> (repeat' (first | (with_reducible rfl) | exact trivial | (exact sl_eq rfl (by first | omega | (simp (disch := omega) only [lnB, wrap64, wrap32] <;> omega) | (simp; done) | (simp <;> omega))) | (exact congrArg (SV.int _) (by first | omega | (simp (disch := omega) only [lnB, wrap64, wrap32] <;> omega) | (simp; done) | (simp <;> omega))) | (exact box_int (by first | omega | (simp (disch := omega) only [lnB, wrap64, wrap32] <;> omega) | (simp; done) | (simp <;> omega))) | (exact box_sl (by first | omega | (simp (disch := omega) only [lnB, wrap64, wrap32] <;> omega) | (simp; done) | (simp <;> omega))) | (exact renH_plain _ (h := .rows _ _) (plainTms _)) | (exact congrArg (Hp.rows _) (by rfl)) | ((conv => whnf); refine ⟨?_, ?_⟩) | rfl)))
    · obtain rfl : j = 4 := by omega
      rw [fourP_4] at ho2
      conv => whnf
      repeat' ((first | with_reducible refine IF.tt ?_ | with_reducible refine IF.ff ?_ | refine NEED.au ?_ | ((with_reducible apply GET.at); rfl) | ((with_reducible apply GETG.at); rfl) | ((with_reducible refine UNK.mk (fun h => ?_) ?_) <;> try (exfalso; omega)) | ((with_reducible refine IF.mk (fun h => ?_) (fun h => ?_)) <;> (try simp (disch := omega) only [hsB, hsC, lnB, wrap64, wrap32, simprocAttr] at h) <;> try (exfalso; omega))) <;> conv => whnf)
      refine ⟨i + 1, by omega, by omega, ?_⟩
      rw [hs, ← ho2]
      conv => whnf
      (refine GOES.cutting h0 rfl rfl rfl (by first | rfl | (simp only [belowO, belowH, plainLL_below _ (plainTms _), Bool.and_self, Bool.and_true] <;> rfl)) ?_ ?_ <;> (repeat' (first | (with_reducible rfl) | (exact sl_eq rfl (by first | (simp; done) | omega | (simp; omega))) | (exact congrArg (SV.int _) (by first | omega | (simp (disch := omega) only [lnB, wrap64, wrap32] <;> omega) | (simp; done) | (simp <;> omega))) | (exact congrArg (Hp.rows _) (by rfl)) | ((conv => whnf); refine ⟨?_, ?_⟩) | exact trivial | rfl)))
  · have hie : i = l.length := by omega
    subst hie
    rw [List.take_length] at hli ⊢
    generalize l.flatMap blanksQ = out at *
    have hbs := blanks_set out
    have hls := set_len (c := tmCmp) (out.map mkBlank)
    have hr := rterms_all (out.map mkBlank) (by rw [List.length_map]; omega)
    rw [← hbs]
    rw [List.length_map] at hls
    repeat' ((first | with_reducible refine IF.tt ?_ | with_reducible refine IF.ff ?_ | refine NEED.au ?_ | ((with_reducible apply GET.at); rfl) | ((with_reducible apply GETG.at); rfl) | ((with_reducible refine UNK.mk (fun h => ?_) ?_) <;> try (exfalso; omega)) | ((with_reducible refine IF.mk (fun h => ?_) (fun h => ?_)) <;> (try simp (disch := omega) only [hsB, hsC, lnB, wrap64, wrap32, simprocAttr] at h) <;> try (exfalso; omega))) <;> conv => whnf)
    refine CALL.at [1] (hr) rfl rfl rfl rfl (by first | rfl | (simp only [belowO, belowH, plainLL_below _ (plainTms _), Bool.and_self, Bool.and_true] <;> rfl)) (by first | rfl | (simp only [belowO, belowH, plainLL_below _ (plainTms _), Bool.and_self, Bool.and_true] <;> rfl)) (by repeat' (first | exact trivial | exact (renH_plain _ (h := .rows _ _) (plainTms _)).symm | exact rfl | exact (renH_plain _ (h := .rows _ _) (plainTms _)).trans (renH_plain _ (h := .rows _ _) (plainTms _)).symm | ((conv => whnf); refine ⟨?_, ?_⟩))) (by repeat' (first | exact trivial | exact (renH_plain _ (h := .rows _ _) (plainTms _)).symm | exact rfl | exact (renH_plain _ (h := .rows _ _) (plainTms _)).trans (renH_plain _ (h := .rows _ _) (plainTms _)).symm | ((conv => whnf); refine ⟨?_, ?_⟩))) rfl rfl ?_
    generalize setL tmCmp (out.map mkBlank) = all at *
    rintro r O nx ⟨rfl, rfl, rfl⟩
    conv => whnf
    refine LOOP.nil 7 1 rfl ?_
    refine LOOP.go tabOK [3] (X := Nat) (fun i => i ≤ all.length) (fun i => [(8, .int .i64 (i : Int)), (7, .sl (.loc 3) 0 1 ((all.take i).map Tm.t).length none)]) (fun i => [(2, .rows 4 (all.map tmRow)), (3, .rows 1 (((all.take i).map Tm.t).map strRowS))]) 4 (fun i => all.length - i) 0 (by omega) ?_
    conv => whnf
    refine ⟨by (refine GOES.cutting h0 rfl rfl rfl (by (repeat' (first | (refine belowO_cons rfl ?_ ?_) | exact belowH_rows (plainTms _) | exact belowH_renrows (plainTms _) | exact belowH_rows (plainStrsS _) | exact belowH_renrows (plainStrsS _) | rfl))) ?_ ?_ <;> (repeat' (first | (with_reducible rfl) | exact trivial | (exact sl_eq rfl (by first | omega | (simp (disch := omega) only [lnB, wrap64, wrap32] <;> omega) | (simp; done) | (simp <;> omega))) | (exact congrArg (SV.int _) (by first | omega | (simp (disch := omega) only [lnB, wrap64, wrap32] <;> omega) | (simp; done) | (simp <;> omega))) | (exact box_int (by first | omega | (simp (disch := omega) only [lnB, wrap64, wrap32] <;> omega) | (simp; done) | (simp <;> omega))) | (exact box_sl (by first | omega | (simp (disch := omega) only [lnB, wrap64, wrap32] <;> omega) | (simp; done) | (simp <;> omega))) | (exact renH_plain _ (h := .rows _ _) (plainTms _)) | (exact renH_plain _ (h := .rows _ _) (plainStrsS _)) | (exact congrArg (Hp.rows _) (by rfl)) | ((conv => whnf); refine ⟨?_, ?_⟩) | rfl))), ?_⟩
    intro i hi
    conv => whnf
    by_cases hil : i < all.length
    · have hs : (all.take (i + 1)).map Tm.t = (all.take i).map Tm.t ++ [all[i].t] := by rw [List.take_succ_eq_append_getElem hil, List.map_append]; rfl
      have hoi : ((all.take i).map Tm.t).length = i := by simp; omega
      generalize (all.take i).map Tm.t = o3 at *
      repeat' ((first | with_reducible refine IF.tt ?_ | with_reducible refine IF.ff ?_ | (refine GET.at (row := tmRow (all[i]'(by omega))) (row_atT (by omega) (by omega)) ?_; conv => whnf) | (refine NEED.mk (needApp 16 rfl rfl rfl (by simp) (by omega)) ?_; conv => whnf) | refine NEED.au ?_ | ((with_reducible apply GET.at); rfl) | ((with_reducible apply GETG.at); rfl) | ((with_reducible refine UNK.mk (fun h => ?_) ?_) <;> try (exfalso; omega)) | ((with_reducible refine IF.mk (fun h => ?_) (fun h => ?_)) <;> (try simp (disch := omega) only [hsB, hsC, lnB, wrap64, wrap32, simprocAttr] at h) <;> try (exfalso; omega))) <;> conv => whnf)
      refine ⟨i + 1, by omega, by omega, ?_⟩
      rw [hs]
      conv => whnf
      (refine GOES.keeping h0 [1, 2, 5] rfl rfl rfl (by (repeat' (first | (refine belowO_cons rfl ?_ ?_) | exact belowH_rows (plainTms _) | exact belowH_renrows (plainTms _) | exact belowH_rows (plainStrsS _) | exact belowH_renrows (plainStrsS _) | rfl))) ?_ ?_ <;> (repeat' (first | (with_reducible rfl) | exact trivial | (exact sl_eq rfl (by first | omega | (simp (disch := omega) only [lnB, wrap64, wrap32] <;> omega) | (simp; done) | (simp <;> omega))) | (exact congrArg (SV.int _) (by first | omega | (simp (disch := omega) only [lnB, wrap64, wrap32] <;> omega) | (simp; done) | (simp <;> omega))) | (exact box_int (by first | omega | (simp (disch := omega) only [lnB, wrap64, wrap32] <;> omega) | (simp; done) | (simp <;> omega))) | (exact box_sl (by first | omega | (simp (disch := omega) only [lnB, wrap64, wrap32] <;> omega) | (simp; done) | (simp <;> omega))) | (exact (renH_plain _ (h := .rows _ _) (plainTms _)).symm) | (exact (renH_plain _ (h := .rows _ _) (plainTms _)).trans (renH_plain _ (h := .rows _ _) (plainTms _)).symm) | (exact rows_eq (plainTms _) (by (simp [List.take_of_length_le, ofVal, strRowS]))) | (exact (renH_plain _ (h := .rows _ _) (plainStrsS _)).symm) | (exact (renH_plain _ (h := .rows _ _) (plainStrsS _)).trans (renH_plain _ (h := .rows _ _) (plainStrsS _)).symm) | (exact rows_eq (plainStrsS _) (by (simp [List.take_of_length_le, ofVal, strRowS]))) | ((conv => whnf); refine ⟨?_, ?_⟩) | (simp only [ren, renB]; done) | rfl)))
    · have hie : i = all.length := by omega
      subst hie
      rw [List.take_length]
      repeat' ((first | with_reducible refine IF.tt ?_ | with_reducible refine IF.ff ?_ | refine NEED.au ?_ | ((with_reducible apply GET.at); rfl) | ((with_reducible apply GETG.at); rfl) | ((with_reducible refine UNK.mk (fun h => ?_) ?_) <;> try (exfalso; omega)) | ((with_reducible refine IF.mk (fun h => ?_) (fun h => ?_)) <;> (try simp (disch := omega) only [hsB, hsC, lnB, wrap64, wrap32, simprocAttr] at h) <;> try (exfalso; omega))) <;> conv => whnf)
      refine FIN.at h0 [3] (.sl (.loc 1) 0 1 (all.map Tm.t).length none) [(1, .rows 1 ((all.map Tm.t).map strRowS))] rfl rfl rfl (by first | rfl | (simp only [belowO, belowH, plainLL_below _ (plainStrsS _), Bool.and_self, Bool.and_true] <;> rfl)) (by repeat' (first | exact trivial | exact (renH_plain _ (h := .rows _ _) (plainStrsS _)).symm | (with_reducible rfl) | (exact (renH_plain _ (h := .rows _ _) (plainStrsS _)).trans (renH_plain _ (h := .rows _ _) (plainStrsS _)).symm) | (exact rows_eq (plainStrsS _) (by simp [strRowS, ofVal, List.take_of_length_le])) | exact rfl | ((conv => whnf); refine ⟨?_, ?_⟩))) rfl ?_
      exact ⟨rfl, rfl, rfl⟩
end Go.Proofs.Ytillkgjdbnjnoaa
/- Maps from texts to numbers, as the engine keeps them: what stands where. No program in sight. -/
set_option linter.unusedVariables false
set_option linter.unusedSimpArgs false
namespace Go.Our
open Go.Sx
abbrev KS : Bool × List CK := (false, [CK.str])
theorem keyIs_str (a b : List UInt8) : keyIs KS (.str a) (.str b) = (a == b) := by simp [keyIs, keyEq, keyCells, cellsEq]
theorem keyOK_str (a : List UInt8) : keyOK KS (.str a) = true := by simp [keyOK, keyEq, keyCells, cellsEq]
/-- A map's rows: each key is a text. -/
def StrRows (rs : List (List SV)) : Prop := ∀ r ∈ rs, ∃ (k : List UInt8) (v : SV), r = [.str k, v]
theorem StrRows.ok {rs : List (List SV)} (h : StrRows rs) : rowsOK KS rs := fun r hr => let ⟨k, v, e⟩ := h r hr; ⟨_, v, e, keyOK_str k⟩
/-- What stands at a key. -/
def valM (rs : List (List SV)) (a : List UInt8) : Option SV := (findM KS (.str a) 0 rs).map Prod.snd
theorem find_shift (key : SV) : ∀ (rs : List (List SV)) (i j : Nat), (findM KS key i rs).map Prod.snd = (findM KS key j rs).map Prod.snd
  | [], i, j => rfl
  | r :: rs, i, j => by
    unfold findM
    split
    · split
      · rfl
      · exact find_shift key rs (i + 1) (j + 1)
    · rfl
theorem valM_cons (k a : List UInt8) (v : SV) (rs : List (List SV)) : valM ([.str k, v] :: rs) a = if a = k then some v else valM rs a := by
  unfold valM
  conv => lhs; unfold findM
  simp only [keyIs_str]
  by_cases e : a = k
  · subst e; simp
  · have : (a == k) = false := by simpa using e
    rw [this, if_neg e]
    exact find_shift _ rs 1 0
theorem valM_append {rs : List (List SV)} (h : StrRows rs) (k a : List UInt8) (v : SV) (hk : valM rs k = none) : valM (rs ++ [[.str k, v]]) a = if a = k then some v else valM rs a := by
  induction rs with
  | nil => rw [List.nil_append, valM_cons]
  | cons r rs ih =>
    obtain ⟨k', v', rfl⟩ := h r (List.mem_cons_self ..)
    rw [valM_cons] at hk
    have hne : k ≠ k' := fun e => by rw [if_pos e] at hk; cases hk
    rw [if_neg hne] at hk
    rw [List.cons_append, valM_cons, valM_cons, ih (fun r hr => h r (List.mem_cons_of_mem _ hr)) hk]
    by_cases e : a = k'
    · subst e; rw [if_pos rfl, if_pos rfl, if_neg (fun e => hne e.symm)]
    · rw [if_neg e, if_neg e]
theorem valM_modify {k : List UInt8} {v : SV} : ∀ {rs : List (List SV)} (h : StrRows rs) {i j : Nat} {u : SV} (hf : findM KS (.str k) i rs = some (i + j, u)) (a : List UInt8), StrRows (rs.modify j (putV v)) ∧ valM (rs.modify j (putV v)) a = if a = k then some v else valM rs a
  | [], h, i, j, u, hf, a => by simp [findM] at hf
  | r :: rs, h, i, j, u, hf, a => by
    obtain ⟨k', v', rfl⟩ := h r (List.mem_cons_self ..)
    have ht : StrRows rs := fun r hr => h r (List.mem_cons_of_mem _ hr)
    unfold findM at hf
    simp only [keyIs_str] at hf
    by_cases e : k = k'
    · subst e
      simp at hf
      obtain ⟨rfl, _⟩ := hf
      rw [List.modify_zero_cons]
      refine ⟨fun r hr => ?_, ?_⟩
      · rcases List.mem_cons.1 hr with rfl | hr
        · exact ⟨k, v, rfl⟩
        · exact ht r hr
      · show valM ([.str k, v] :: rs) a = _
        rw [valM_cons, valM_cons]
        by_cases e : a = k
        · rw [if_pos e, if_pos e]
        · rw [if_neg e, if_neg e, if_neg e]
    · have hb : (k == k') = false := by simpa using e
      rw [hb] at hf
      simp only at hf
      cases j with
      | zero =>
        have hge : ∀ (rs : List (List SV)) (m n : Nat) (x : SV), findM KS (.str k) m rs = some (n, x) → m ≤ n := by
          intro rs
          induction rs with
          | nil => intro m n x hh; simp [findM] at hh
          | cons r rs ih =>
            intro m n x hh
            unfold findM at hh
            split at hh
            · split at hh
              · injection hh with hh; injection hh with h1 h2; omega
              · have := ih _ _ _ hh; omega
            · cases hh
        have := hge _ _ _ _ hf
        omega
      | succ j =>
        obtain ⟨h1, h2⟩ := valM_modify ht (i := i + 1) (j := j) (u := u) (by rw [hf, show i + 1 + j = i + (j + 1) by omega]) a
        rw [List.modify_succ_cons]
        refine ⟨fun r hr => ?_, ?_⟩
        · rcases List.mem_cons.1 hr with rfl | hr
          · exact ⟨k', v', rfl⟩
          · exact h1 r hr
        · rw [valM_cons, valM_cons, h2]
          by_cases e2 : a = k'
          · subst e2; rw [if_pos rfl, if_pos rfl, if_neg (fun e3 => e e3.symm)]
          · rw [if_neg e2, if_neg e2]
theorem valM_set {rs : List (List SV)} (h : StrRows rs) (k : List UInt8) (v : SV) (a : List UInt8) : StrRows (setM KS (.str k) v rs) ∧ valM (setM KS (.str k) v rs) a = if a = k then some v else valM rs a := by
  unfold setM
  cases hf : findM KS (.str k) 0 rs with
  | none =>
    simp only
    refine ⟨fun r hr => ?_, valM_append h k a v (by unfold valM; rw [hf]; rfl)⟩
    rcases List.mem_append.1 hr with hr | hr
    · exact h r hr
    · have := List.mem_singleton.1 hr; subst this; exact ⟨k, v, rfl⟩
  | some x =>
    obtain ⟨j, u⟩ := x
    simp only
    exact valM_modify h (i := 0) (j := j) (u := u) (by rw [hf, Nat.zero_add]) a
/-! ### The first place of each label -/
/-- From a place on, the last ones first: each key's first place. -/
def firstM (ps : List Pr) : Nat → List (List SV)
  | 0 => []
  | n + 1 => setM KS (.str (ps.getD (ps.length - (n + 1)) ([], [])).1) (.int .i64 ((ps.length - (n + 1) : Nat) : Int)) (firstM ps n)
theorem firstM_ok (ps : List Pr) : ∀ n, StrRows (firstM ps n)
  | 0 => fun r hr => by cases hr
  | n + 1 => (valM_set (firstM_ok ps n) _ _ []).1
theorem firstM_val (ps : List Pr) (a : List UInt8) : ∀ n, n ≤ ps.length → valM (firstM ps n) a = ((ps.drop (ps.length - n)).findIdx? fun p => decide (p.1 = a)).map fun i => SV.int .i64 ((ps.length - n + i : Nat) : Int)
  | 0, h => by rw [Nat.sub_zero, List.drop_length]; rfl
  | n + 1, h => by
    have hlt : ps.length - (n + 1) < ps.length := by omega
    have hd : ps.drop (ps.length - (n + 1)) = ps[ps.length - (n + 1)] :: ps.drop (ps.length - n) := by
      rw [List.drop_eq_getElem_cons hlt, show ps.length - (n + 1) + 1 = ps.length - n by omega]
    have hg : ps.getD (ps.length - (n + 1)) ([], []) = ps[ps.length - (n + 1)] := by simp [List.getD, hlt]
    unfold firstM
    rw [(valM_set (firstM_ok ps n) _ _ a).2, firstM_val ps a n (by omega), hd, hg, List.findIdx?_cons]
    by_cases e : ps[ps.length - (n + 1)].1 = a
    · rw [if_pos e.symm, decide_eq_true e]; simp
    · rw [if_neg (fun h => e h.symm), decide_eq_false e]
      simp only [Bool.false_eq_true, if_false, Option.map_map]
      congr 1
      funext i
      simp only [Function.comp]
      rw [show ps.length - (n + 1) + (i + 1) = ps.length - n + i by omega]
/-- What the map of all tells. -/
theorem first_all (ps : List Pr) (a : List UInt8) : valM (firstM ps ps.length) a = (ps.findIdx? fun p => decide (p.1 = a)).map fun (i : Nat) => SV.int .i64 (i : Int) := by
  have := firstM_val ps a ps.length (Nat.le_refl _)
  simpa using this
end Go.Our
/- Renaming: slices.Backward, term.Rename, the reference's named and Rename; walked. Conditions: none. -/
set_option linter.unusedVariables false
set_option linter.unusedSimpArgs false
set_option maxRecDepth 20000
set_option maxHeartbeats 8000000
namespace Go.Proofs.Ytillkgjdbnjnoaa
open Go.Sx Go.Our
def plRen70 : Plan := (planOf [(0, 1), (1, 1), (2, 1), (3, 1), (5, 1), (4, 2), (6, 2), (7, 1)])
def plRen71 : Plan := (planOf [(0, 1), (1, 1), (2, 1), (3, 1), (4, 1), (6, 1), (8, 1), (9, 1), (10, 1), (11, 1), (13, 1), (15, 1), (16, 1), (17, 1), (18, 1), (20, 1), (22, 1), (23, 1), (24, 1), (25, 1), (27, 1), (5, 2), (12, 2), (19, 2), (26, 2), (7, 3), (14, 3), (21, 3), (28, 3), (29, 1), (30, 3), (31, 0), (32, 1)])
def prRow (p : Pr) : List SV := [.str p.1, .str p.2]
theorem plainPrs (l : List Pr) : plainLL (l.map prRow) = true := plainLL_map _ (fun _ => rfl) l
theorem pr_get {l z : List Pr} {i k : Nat} (h : i < l.length) (e : k = i) : ((l ++ z).map prRow)[k]? = some (prRow l[i]) := by subst e; rw [List.getElem?_map, List.getElem?_append_left h, List.getElem?_eq_getElem h]; rfl
theorem toOf_drop {ps : List Pr} {s : List UInt8} {i : Nat} (h : i < ps.length) : toOf (ps.drop i) s = if ps[i].1 = s then some ps[i].2 else toOf (ps.drop (i + 1)) s := by
  unfold toOf
  rw [List.drop_eq_getElem_cons h, List.find?_cons]
  by_cases e : ps[i].1 = s
  · rw [decide_eq_true e, if_pos e]; rfl
  · rw [decide_eq_false e, if_neg e]
theorem named_does (t : Tm) (ps zp : List Pr) (lim : Option Nat) (hp : (ps ++ zp).length ≤ 1152921504606846976) : Does Try.prog tab 49 1 [.agg (tmRow t), .sl (.loc 0) 0 2 ps.length lim] [] [(0, .rows 2 ((ps ++ zp).map prRow))] (ValK 1 (.agg (tmRow (nameT ps t)))) := by
  have hp1 : (ps ++ zp).length = ps.length + zp.length := List.length_append
  refine Does.enter tabOK (g := 49) (fn := Try.f49) Try.call49 Try.func49 rfl 32 rfl rfl [.cell 4 24] rfl ?_
  intro w0 F η0 h0
  conv => whnf
  repeat' ((first | with_reducible refine IF.tt ?_ | with_reducible refine IF.ff ?_ | refine NEED.au ?_ | ((with_reducible apply GET.at); rfl) | ((with_reducible apply GETG.at); rfl) | ((with_reducible refine UNK.mk (fun h => ?_) ?_) <;> try (exfalso; omega)) | ((with_reducible refine IF.mk (fun h => ?_) (fun h => ?_)) <;> (try simp (disch := omega) only [hsB, hsC, lnB, wrap64, wrap32, simprocAttr] at h) <;> try (exfalso; omega))) <;> conv => whnf)
  · refine FIN.valueK h0 rfl ?_
    unfold nameT
    rw [if_neg (by omega)]; rfl
  · have hk : t.k = 2 := by omega
    refine LOOP.go tabOK [1, 2, 4] (X := Nat) (fun i => i ≤ ps.length ∧ toOf ps t.t = toOf (ps.drop i) t.t) (fun i => [(5, .int .i64 (i : Int))]) (fun i => [(1, .box (tmRow t)), (2, .box (tmRow zeroTm))]) 3 (fun i => ps.length - i) 0 ⟨by omega, rfl⟩ ?_
    conv => whnf
    refine ⟨by (refine GOES.cutting h0 rfl rfl rfl (by (repeat' (first | (refine belowO_cons rfl ?_ ?_) | exact belowH_rows (plainPrs _) | exact belowH_renrows (plainPrs _) | rfl))) ?_ ?_ <;> (repeat' (first | (with_reducible rfl) | exact trivial | (exact sl_eq rfl (by first | omega | (simp (disch := omega) only [lnB, wrap64, wrap32] <;> omega) | (simp; done) | (simp <;> omega))) | (exact congrArg (SV.int _) (by first | omega | (simp (disch := omega) only [lnB, wrap64, wrap32] <;> omega) | (simp; done) | (simp <;> omega))) | (exact box_int (by first | omega | (simp (disch := omega) only [lnB, wrap64, wrap32] <;> omega) | (simp; done) | (simp <;> omega))) | (exact box_sl (by first | omega | (simp (disch := omega) only [lnB, wrap64, wrap32] <;> omega) | (simp; done) | (simp <;> omega))) | (exact renH_plain _ (h := .rows _ _) (plainPrs _)) | (exact congrArg (Hp.rows _) (by rfl)) | ((conv => whnf); refine ⟨?_, ?_⟩) | rfl))), ?_⟩
    rintro i ⟨hi, ht⟩
    conv => whnf
    by_cases hil : i < ps.length
    · rw [toOf_drop hil] at ht
      repeat' ((first | with_reducible refine IF.tt ?_ | with_reducible refine IF.ff ?_ | refine DRAWN.of (id := 6) tabOK mixed plRen70 (by kernel_rfl) ?_ | with_reducible refine ADD.mk (fun _ _ => ?_) | with_reducible refine NEED.mk (Det.of rfl) ?_ | refine NEED.mk (det_pos (by omega)) ?_ | with_reducible refine FORK.mk ?_ ?_ | (refine GET.at (row := prRow (ps[i]'(by omega))) (pr_get (by omega) (by omega)) ?_; conv => whnf) | refine NEED.au ?_ | ((with_reducible apply GET.at); rfl) | ((with_reducible apply GETG.at); rfl) | ((with_reducible refine UNK.mk (fun h => ?_) ?_) <;> try (exfalso; omega)) | ((with_reducible refine IF.mk (fun h => ?_) (fun h => ?_)) <;> (try simp (disch := omega) only [hsB, hsC, lnB, wrap64, wrap32, simprocAttr] at h) <;> try (exfalso; omega))) <;> conv => whnf)
      · refine FIN.valueK h0 rfl ?_
        unfold nameT
        rw [if_pos hk, ht, if_pos h]; rfl
      · refine ⟨i + 1, ⟨by omega, by rw [ht, if_neg h]⟩, by omega, ?_⟩
        conv => whnf
        (refine GOES.cutting h0 rfl rfl rfl (by (repeat' (first | (refine belowO_cons rfl ?_ ?_) | exact belowH_rows (plainPrs _) | exact belowH_renrows (plainPrs _) | rfl))) ?_ ?_ <;> (repeat' (first | (with_reducible rfl) | exact trivial | (exact sl_eq rfl (by first | omega | (simp (disch := omega) only [lnB, wrap64, wrap32] <;> omega) | (simp; done) | (simp <;> omega))) | (exact congrArg (SV.int _) (by first | omega | (simp (disch := omega) only [lnB, wrap64, wrap32] <;> omega) | (simp; done) | (simp <;> omega))) | (exact box_int (by first | omega | (simp (disch := omega) only [lnB, wrap64, wrap32] <;> omega) | (simp; done) | (simp <;> omega))) | (exact box_sl (by first | omega | (simp (disch := omega) only [lnB, wrap64, wrap32] <;> omega) | (simp; done) | (simp <;> omega))) | (exact renH_plain _ (h := .rows _ _) (plainPrs _)) | (exact congrArg (Hp.rows _) (by rfl)) | ((conv => whnf); refine ⟨?_, ?_⟩) | rfl)))
    · have hie : i = ps.length := by omega
      have ht2 : toOf ps t.t = none := by rw [ht, hie, List.drop_length]; rfl
      repeat' ((first | with_reducible refine IF.tt ?_ | with_reducible refine IF.ff ?_ | refine NEED.au ?_ | ((with_reducible apply GET.at); rfl) | ((with_reducible apply GETG.at); rfl) | ((with_reducible refine UNK.mk (fun h => ?_) ?_) <;> try (exfalso; omega)) | ((with_reducible refine IF.mk (fun h => ?_) (fun h => ?_)) <;> (try simp (disch := omega) only [hsB, hsC, lnB, wrap64, wrap32, simprocAttr] at h) <;> try (exfalso; omega))) <;> conv => whnf)
      refine FIN.valueK h0 rfl ?_
      unfold nameT
      rw [if_pos hk, ht2]; rfl
theorem map_succ {α : Type} (f : Qd → α) {l : List Qd} {i : Nat} (h : i < l.length) : (l.take (i + 1)).map f = (l.take i).map f ++ [f l[i]] := by
  rw [List.take_succ_eq_append_getElem h, List.map_append]; rfl
theorem rsortA_does (A : List Qd) (hA : A.length * 224 ≤ 140737488351232) : Does Try.prog tab 13 1 [.sl (.loc 0) 0 16 A.length none] [] [(0, .rows 16 (A.map qdRow))] (NewList qdRow 16 1 (setL qdCmp A)) := by
  have h := rsortQ_does A hA A.length A.length 0 (Nat.le_refl _) (by omega)
  rwa [List.drop_zero, List.take_length, rsort_set triQ _ A (Nat.le_refl _)] at h
set_option maxHeartbeats 4000000 in
theorem rrename_does (l z : List Qd) (lim : Option Nat) (ps zp : List Pr) (limP : Option Nat) (hl : QdsOK l) (hz : (l ++ z).length ≤ 1152921504606846976) (hp : (ps ++ zp).length ≤ 1152921504606846976) : Does Try.prog tab 27 2 [.sl (.loc 0) 0 16 l.length lim, .sl (.loc 1) 0 2 ps.length limP] [] [(0, .rows 16 ((l ++ z).map qdRow)), (1, .rows 2 ((ps ++ zp).map prRow))]
    (NewList qdRow 16 2 (setL qdCmp (l.map (nameQ ps)))) := by
  unfold QdsOK at hl
  refine Does.enter tabOK (g := 27) (fn := Try.f27) Try.call27 Try.func27 rfl 47 rfl rfl [.tmp 4] rfl ?_
  intro w0 F η0 h0
  conv => whnf
  refine LOOP.nil 5 16 rfl ?_
  refine LOOP.go tabOK [0, 1] (X := Nat) (fun i => i ≤ l.length) (fun i => [(6, .int .i64 (i : Int)), (5, .sl (.loc 2) 0 16 ((l.take i).map (nameQ ps)).length none)]) (fun i => [(2, .rows 16 (((l.take i).map (nameQ ps)).map qdRow))]) 3 (fun i => l.length - i) 0 (by omega) ?_
  conv => whnf
  refine ⟨by (refine GOES.cutting h0 rfl rfl rfl (by first | rfl | (simp only [belowO, belowH, plainLL_below _ (plainQds _), Bool.and_self, Bool.and_true] <;> rfl)) ?_ ?_ <;> (repeat' (first | (with_reducible rfl) | (exact sl_eq rfl (by first | (simp; done) | omega | (simp; omega))) | (exact congrArg (SV.int _) (by first | omega | (simp (disch := omega) only [lnB, wrap64, wrap32] <;> omega) | (simp; done) | (simp <;> omega))) | (exact congrArg (Hp.rows _) (by rfl)) | ((conv => whnf); refine ⟨?_, ?_⟩) | exact trivial | rfl))), ?_⟩
  intro i hi
  have hli : ((l.take i).map (nameQ ps)).length = i := by simp; omega
  conv => whnf
  by_cases hil : i < l.length
  · have hs := map_succ (nameQ ps) hil
    generalize (l.take i).map (nameQ ps) = out at *
    repeat' ((first | with_reducible refine IF.tt ?_ | with_reducible refine IF.ff ?_ | refine DRAWN.of (id := 5) tabOK mixed plRen71 (by kernel_rfl) ?_ | with_reducible refine ADD.mk (fun _ _ => ?_) | with_reducible refine NEED.mk (Det.of rfl) ?_ | refine NEED.mk (det_pos (by omega)) ?_ | with_reducible refine FORK.mk ?_ ?_ | (refine GET.at (row := qdRow (l[i]'(by omega))) (qd_get (by omega) (by omega)) ?_; conv => whnf) | (refine CALL.looks [1] (named_does l[i].s ps zp limP hp) rfl rfl rfl rfl ⟨⟨rfl, congrArg some (renH_plain _ (h := .rows _ _) (plainPrs _)).symm, belowH_rows (plainPrs _)⟩, trivial⟩ ?_; conv => whnf) | (refine CALL.looks [1] (named_does l[i].p ps zp limP hp) rfl rfl rfl rfl ⟨⟨rfl, congrArg some (renH_plain _ (h := .rows _ _) (plainPrs _)).symm, belowH_rows (plainPrs _)⟩, trivial⟩ ?_; conv => whnf) | (refine CALL.looks [1] (named_does l[i].o ps zp limP hp) rfl rfl rfl rfl ⟨⟨rfl, congrArg some (renH_plain _ (h := .rows _ _) (plainPrs _)).symm, belowH_rows (plainPrs _)⟩, trivial⟩ ?_; conv => whnf) | (refine CALL.looks [1] (named_does l[i].g ps zp limP hp) rfl rfl rfl rfl ⟨⟨rfl, congrArg some (renH_plain _ (h := .rows _ _) (plainPrs _)).symm, belowH_rows (plainPrs _)⟩, trivial⟩ ?_; conv => whnf) | (refine NEED.mk (needApp 224 rfl rfl (by simp) (by simp) (by omega)) ?_; conv => whnf) | refine NEED.au ?_ | ((with_reducible apply GET.at); rfl) | ((with_reducible apply GETG.at); rfl) | ((with_reducible refine UNK.mk (fun h => ?_) ?_) <;> try (exfalso; omega)) | ((with_reducible refine IF.mk (fun h => ?_) (fun h => ?_)) <;> (try simp (disch := omega) only [hsB, hsC, lnB, wrap64, wrap32, simprocAttr] at h) <;> try (exfalso; omega))) <;> conv => whnf)
    refine ⟨i + 1, by omega, by omega, ?_⟩
    rw [hs]
    conv => whnf
    (refine GOES.keeping h0 [4] rfl rfl rfl (by first | rfl | (simp only [belowO, belowH, plainLL_below _ (plainQds _), Bool.and_self, Bool.and_true] <;> rfl)) ?_ ?_ <;> (repeat' (first | (with_reducible rfl) | (exact rows_eq (plainQds _) (renLL_plain _ (plainQds _))) | (exact rows_eq (plainQds _) (by (simp [List.take_of_length_le, ofVal, qdRow, nameQ]))) | (exact sl_eq rfl (by first | (simp; done) | omega | (simp; omega))) | (exact congrArg (SV.int _) (by first | omega | (simp (disch := omega) only [lnB, wrap64, wrap32] <;> omega) | (simp; done) | (simp <;> omega))) | ((conv => whnf); refine ⟨?_, ?_⟩) | exact trivial | (simp only [ren, renB]; done) | rfl)))
  · have hie : i = l.length := by omega
    subst hie
    rw [List.take_length] at hli ⊢
    generalize l.map (nameQ ps) = out at *
    repeat' ((first | with_reducible refine IF.tt ?_ | with_reducible refine IF.ff ?_ | refine NEED.au ?_ | ((with_reducible apply GET.at); rfl) | ((with_reducible apply GETG.at); rfl) | ((with_reducible refine UNK.mk (fun h => ?_) ?_) <;> try (exfalso; omega)) | ((with_reducible refine IF.mk (fun h => ?_) (fun h => ?_)) <;> (try simp (disch := omega) only [hsB, hsC, lnB, wrap64, wrap32, simprocAttr] at h) <;> try (exfalso; omega))) <;> conv => whnf)
    refine CALL.at [2] (rsortA_does out (by omega)) rfl rfl rfl rfl (by first | rfl | (simp only [belowO, belowH, plainLL_below _ (plainQds _), Bool.and_self, Bool.and_true] <;> rfl)) (by first | rfl | (simp only [belowO, belowH, plainLL_below _ (plainQds _), Bool.and_self, Bool.and_true] <;> rfl)) (by repeat' (first | exact trivial | exact (renH_plain _ (h := .rows _ _) (plainQds _)).symm | exact rfl | exact (renH_plain _ (h := .rows _ _) (plainQds _)).trans (renH_plain _ (h := .rows _ _) (plainQds _)).symm | ((conv => whnf); refine ⟨?_, ?_⟩))) (by repeat' (first | exact trivial | exact (renH_plain _ (h := .rows _ _) (plainQds _)).symm | exact rfl | exact (renH_plain _ (h := .rows _ _) (plainQds _)).trans (renH_plain _ (h := .rows _ _) (plainQds _)).symm | ((conv => whnf); refine ⟨?_, ?_⟩))) rfl rfl ?_
    rintro r O nx ⟨rfl, rfl, rfl⟩
    conv => whnf
    refine FIN.at h0 [3] (.sl (.loc 2) 0 16 (setL qdCmp out).length none) [(2, .rows 16 ((setL qdCmp out).map qdRow))] rfl rfl rfl (by first | rfl | (simp only [belowO, belowH, plainLL_below _ (plainQds _), Bool.and_self, Bool.and_true] <;> rfl)) (by repeat' (first | exact trivial | exact (renH_plain _ (h := .rows _ _) (plainQds _)).symm | (with_reducible rfl) | (exact (renH_plain _ (h := .rows _ _) (plainQds _)).trans (renH_plain _ (h := .rows _ _) (plainQds _)).symm) | (exact rows_eq (plainQds _) (by simp [qdRow, ofVal, List.take_of_length_le])) | exact rfl | ((conv => whnf); refine ⟨?_, ?_⟩))) rfl ?_
    exact ⟨rfl, rfl, rfl⟩
end Go.Proofs.Ytillkgjdbnjnoaa
/- term.Rename; walked. Conditions: none. -/
set_option linter.unusedVariables false
set_option linter.unusedSimpArgs false
set_option maxRecDepth 20000
set_option maxHeartbeats 8000000
namespace Go.Proofs.Ytillkgjdbnjnoaa
open Go.Sx Go.Our
def plRen80 : Plan := (planOf [(1, 1), (2, 1), (3, 1), (0, 2), (4, 2), (5, 3), (6, 1), (7, 1), (8, 1), (9, 1), (10, 1)])
theorem nameT_yes {ps : List Pr} {t : Tm} {u : List UInt8} (hk : t.k = 2) (h : toOf ps t.t = some u) : nameT ps t = ⟨t.k, u, t.y, t.l⟩ := by unfold nameT; rw [if_pos hk, h]
theorem nameT_kind {ps : List Pr} {t : Tm} (hk : ¬ t.k = 2) : nameT ps t = t := by unfold nameT; rw [if_neg hk]
theorem nameT_none {ps : List Pr} {t : Tm} (h : toOf ps t.t = none) : nameT ps t = t := by unfold nameT; rw [h]; split <;> rfl
theorem find_yes {ps : List Pr} {s : List UInt8} {idx : Nat} {v : SV} (hf : findM KS (.str s) 0 (firstM ps ps.length) = some (idx, v)) : ∃ (i0 : Nat) (h : i0 < ps.length), v = .int .i64 (i0 : Int) ∧ toOf ps s = some (ps[i0]'h).2 := by
  have h1 : valM (firstM ps ps.length) s = some v := by unfold valM; rw [hf]; rfl
  rw [first_all] at h1
  obtain ⟨i0, h2, rfl⟩ := Option.map_eq_some_iff.1 h1
  obtain ⟨h3, h4, h5⟩ := List.findIdx?_eq_some_iff_getElem.1 h2
  refine ⟨i0, h3, rfl, ?_⟩
  unfold toOf
  have : ps.find? (fun p => decide (p.1 = s)) = some ps[i0] := by
    rw [List.find?_eq_some_iff_getElem]
    exact ⟨h4, i0, h3, rfl, fun j hj => by have := h5 j hj; simpa using this⟩
  rw [this]; rfl
theorem find_no {ps : List Pr} {s : List UInt8} (hf : findM KS (.str s) 0 (firstM ps ps.length) = none) : toOf ps s = none := by
  have h1 : valM (firstM ps ps.length) s = none := by unfold valM; rw [hf]; rfl
  rw [first_all, Option.map_eq_none_iff, List.findIdx?_eq_none_iff] at h1
  unfold toOf
  rw [List.find?_eq_none.2 (fun x hx => by have := h1 x hx; simpa using this)]; rfl
theorem plainLL_iff : ∀ {rs : List (List SV)}, plainLL rs = true ↔ ∀ r ∈ rs, plainL r = true
  | [] => by simp [plainLL]
  | r :: rs => by simp [plainLL, plainLL_iff (rs := rs)]
theorem set_plain {rs : List (List SV)} (h : plainLL rs = true) (k : List UInt8) (i : Int) : plainLL (setM KS (.str k) (.int .i64 i) rs) = true := by
  rw [plainLL_iff] at h ⊢
  unfold setM
  split
  · intro r hr
    obtain ⟨j, hj, rfl⟩ := List.mem_iff_getElem.1 hr
    rw [List.getElem_modify]
    have h0 := h (rs[j]'(by simpa using hj)) (List.getElem_mem _)
    split
    · generalize rs[j]'(by simpa using hj) = r0 at h0
      unfold putV
      split
      · simp only [plainL, plain, Bool.and_true] at h0 ⊢
        simpa using (by simpa using h0 : plain _ = true ∧ plain _ = true).1
      · exact h0
    · exact h0
  · intro r hr
    rcases List.mem_append.1 hr with hr | hr
    · exact h r hr
    · have := List.mem_singleton.1 hr; subst this; rfl
theorem first_plain (ps : List Pr) : ∀ n, plainLL (firstM ps n) = true
  | 0 => rfl
  | n + 1 => set_plain (first_plain ps n) _ _
theorem belowH_mp {m : Nat} {rs : List (List SV)} (h : plainLL rs = true) : belowH m (.mp rs) = true := by simp only [belowH, plainLL_below _ h]
/-- With the first places renamed. -/
def upQ (ps : List Pr) (q : Qd) : Nat → Qd
  | 0 => q
  | 1 => ⟨nameT ps q.s, q.p, q.o, q.g⟩
  | 2 => ⟨nameT ps q.s, nameT ps q.p, q.o, q.g⟩
  | 3 => ⟨nameT ps q.s, nameT ps q.p, nameT ps q.o, q.g⟩
  | _ => nameQ ps q
theorem up0 {ps : List Pr} {q : Qd} : upQ ps q 0 = ⟨q.s, q.p, q.o, q.g⟩ := rfl
theorem up1 {ps : List Pr} {q : Qd} : upQ ps q 1 = ⟨nameT ps q.s, q.p, q.o, q.g⟩ := rfl
theorem up2 {ps : List Pr} {q : Qd} : upQ ps q 2 = ⟨nameT ps q.s, nameT ps q.p, q.o, q.g⟩ := rfl
theorem up3 {ps : List Pr} {q : Qd} : upQ ps q 3 = ⟨nameT ps q.s, nameT ps q.p, nameT ps q.o, q.g⟩ := rfl
theorem up4 {ps : List Pr} {q : Qd} : upQ ps q 4 = ⟨nameT ps q.s, nameT ps q.p, nameT ps q.o, nameT ps q.g⟩ := rfl
theorem backward_does (n : Nat) (lim : Option Nat) : Does Try.prog tab 47 1 [.sl (.loc 0) 0 2 n lim] [] []
    (fun r O nx => r = .fn (.func 67) [] [.ptr (.loc 1) 0 0 0] ∧ O = [(1, .box [.sl (.loc 0) 0 2 n lim])] ∧ nx = 2) := by
  refine Does.enter tabOK (g := 47) (fn := Try.f47) Try.call47 Try.func47 rfl 4 rfl rfl [.tmp 2] rfl ?_
  intro w0 F η0 h0
  conv => whnf
  repeat' ((first | with_reducible refine IF.tt ?_ | with_reducible refine IF.ff ?_ | refine NEED.au ?_ | ((with_reducible apply GET.at); rfl) | ((with_reducible apply GETG.at); rfl) | ((with_reducible refine UNK.mk (fun h => ?_) ?_) <;> try (exfalso; omega)) | ((with_reducible refine IF.mk (fun h => ?_) (fun h => ?_)) <;> (try simp (disch := omega) only [hsB, hsC, lnB, wrap64, wrap32, simprocAttr] at h) <;> try (exfalso; omega))) <;> conv => whnf)
  refine FIN.at h0 [1] (.fn (.func 67) [] [.ptr (.loc 1) 0 0 0]) [(1, .box [.sl (.loc 0) 0 2 n lim])] rfl rfl rfl rfl ⟨rfl, trivial⟩ rfl ⟨rfl, rfl, rfl⟩
set_option maxHeartbeats 8000000 in
theorem rename_does (l z : List Qd) (lim : Option Nat) (ps zp : List Pr) (limP : Option Nat) (hl : QdsOK l) (hz : (l ++ z).length ≤ 1152921504606846976) (hp : (ps ++ zp).length ≤ 1152921504606846976) : Does Try.prog tab 21 2 [.sl (.loc 0) 0 16 l.length lim, .sl (.loc 1) 0 2 ps.length limP] [] [(0, .rows 16 ((l ++ z).map qdRow)), (1, .rows 2 ((ps ++ zp).map prRow))]
    (NewSet qdRow 16 2 zeroQd l.length (setL qdCmp (l.map (nameQ ps)))) := by
  unfold QdsOK at hl
  have hp1 : (ps ++ zp).length = ps.length + zp.length := List.length_append
  refine Does.enter tabOK (g := 21) (fn := Try.f21) Try.call21 Try.func21 rfl 67 rfl rfl [.tmp 4] rfl ?_
  intro w0 F η0 h0
  conv => whnf
  repeat' ((first | with_reducible refine IF.tt ?_ | with_reducible refine IF.ff ?_ | refine NEED.au ?_ | ((with_reducible apply GET.at); rfl) | ((with_reducible apply GETG.at); rfl) | ((with_reducible refine UNK.mk (fun h => ?_) ?_) <;> try (exfalso; omega)) | ((with_reducible refine IF.mk (fun h => ?_) (fun h => ?_)) <;> (try simp (disch := omega) only [hsB, hsC, lnB, wrap64, wrap32, simprocAttr] at h) <;> try (exfalso; omega))) <;> conv => whnf)
  refine CALL.at [1] (backward_does ps.length limP) rfl rfl rfl rfl (by first | rfl | (simp only [belowO, belowH, plainLL_below _ (plainQds _), Bool.and_self, Bool.and_true] <;> rfl)) (by first | rfl | (simp only [belowO, belowH, plainLL_below _ (plainQds _), Bool.and_self, Bool.and_true] <;> rfl)) (by repeat' (first | exact trivial | exact (renH_plain _ (h := .rows _ _) (plainQds _)).symm | exact rfl | exact (renH_plain _ (h := .rows _ _) (plainQds _)).trans (renH_plain _ (h := .rows _ _) (plainQds _)).symm | ((conv => whnf); refine ⟨?_, ?_⟩))) (by repeat' (first | exact trivial | exact (renH_plain _ (h := .rows _ _) (plainQds _)).symm | exact rfl | exact (renH_plain _ (h := .rows _ _) (plainQds _)).trans (renH_plain _ (h := .rows _ _) (plainQds _)).symm | ((conv => whnf); refine ⟨?_, ?_⟩))) rfl rfl ?_
  rintro r O nx ⟨rfl, rfl, rfl⟩
  conv => whnf
  repeat' ((first | with_reducible refine IF.tt ?_ | with_reducible refine IF.ff ?_ | refine NEED.au ?_ | ((with_reducible apply GET.at); rfl) | ((with_reducible apply GETG.at); rfl) | ((with_reducible refine UNK.mk (fun h => ?_) ?_) <;> try (exfalso; omega)) | ((with_reducible refine IF.mk (fun h => ?_) (fun h => ?_)) <;> (try simp (disch := omega) only [hsB, hsC, lnB, wrap64, wrap32, simprocAttr] at h) <;> try (exfalso; omega))) <;> conv => whnf)
  refine RANGEF.of tabOK (gf := 67) (g := 67) (fn := Try.f67) (cap := [.ptr (.loc 4) 0 0 0]) Try.call67 Try.func67 rfl 19 rfl _ rfl rfl rfl rfl rfl ?_
  conv => whnf
  have hout := h0
  intro η1 h0
  conv => whnf
  repeat' ((first | with_reducible refine IF.tt ?_ | with_reducible refine IF.ff ?_ | refine NEED.au ?_ | ((with_reducible apply GET.at); rfl) | ((with_reducible apply GETG.at); rfl) | ((with_reducible refine UNK.mk (fun h => ?_) ?_) <;> try (exfalso; omega)) | ((with_reducible refine IF.mk (fun h => ?_) (fun h => ?_)) <;> (try simp (disch := omega) only [hsB, hsC, lnB, wrap64, wrap32, simprocAttr] at h) <;> try (exfalso; omega))) <;> conv => whnf)
  refine LOOP.gok tabOK [0, 1] [3, 4, 5, 6] (X := Nat) (fun m => m ≤ ps.length) (fun m => [(3, .int .i64 ((ps.length : Int) - 1 - (m : Int)))]) (fun m => [(2, .mp (firstM ps m))]) 7 (fun m => ps.length - m) 0 (by omega) ?_
  conv => whnf
  have hmp : firstM ps 0 = firstM ps 0 := rfl
  refine ⟨by (refine GOES.cutting h0 rfl rfl rfl (by (repeat' (first | (refine belowO_cons rfl ?_ ?_) | exact belowH_rows (plainQds _) | exact belowH_renrows (plainQds _) | exact belowH_rows (plainPrs _) | exact belowH_renrows (plainPrs _) | exact belowH_mp (first_plain _ _) | rfl))) ?_ ?_ <;> (repeat' (first | (exact congrArg Hp.mp (by first | rfl | exact hmp)) | (with_reducible rfl) | exact trivial | (exact sl_eq rfl (by first | omega | (simp (disch := omega) only [lnB, wrap64, wrap32] <;> omega) | (simp; done) | (simp <;> omega))) | (exact congrArg (SV.int _) (by first | omega | (simp (disch := omega) only [lnB, wrap64, wrap32] <;> omega) | (simp; done) | (simp <;> omega))) | (exact box_int (by first | omega | (simp (disch := omega) only [lnB, wrap64, wrap32] <;> omega) | (simp; done) | (simp <;> omega))) | (exact box_sl (by first | omega | (simp (disch := omega) only [lnB, wrap64, wrap32] <;> omega) | (simp; done) | (simp <;> omega))) | (exact renH_plain _ (h := .rows _ _) (plainQds _)) | (exact renH_plain _ (h := .rows _ _) (plainPrs _)) | (exact congrArg (Hp.rows _) (by rfl)) | ((conv => whnf); refine ⟨?_, ?_⟩) | rfl))), ?_⟩
  clear hmp
  intro m hm
  conv => whnf
  by_cases hml : m < ps.length
  · have hsub : ps.length - (m + 1) < ps.length := by omega
    have hmp : setM KS (.str (ps[ps.length - (m + 1)]'hsub).1) (.int .i64 ((ps.length : Int) - 1 - (m : Int))) (firstM ps m) = firstM ps (m + 1) := by
      conv => rhs; unfold firstM
      have hg : ps.getD (ps.length - (m + 1)) ([], []) = ps[ps.length - (m + 1)]'hsub := by simp [List.getD, hsub]
      rw [hg, show ((ps.length - (m + 1) : Nat) : Int) = (ps.length : Int) - 1 - (m : Int) by omega]
    repeat' ((first | with_reducible refine IF.tt ?_ | with_reducible refine IF.ff ?_ | (refine GET.at (row := prRow (ps[ps.length - (m + 1)]'hsub)) (pr_get (by omega) (by omega)) ?_; conv => whnf) | refine NEED.au ?_ | ((with_reducible apply GET.at); rfl) | ((with_reducible apply GETG.at); rfl) | ((with_reducible refine UNK.mk (fun h => ?_) ?_) <;> try (exfalso; omega)) | ((with_reducible refine IF.mk (fun h => ?_) (fun h => ?_)) <;> (try simp (disch := omega) only [hsB, hsC, lnB, wrap64, wrap32, simprocAttr] at h) <;> try (exfalso; omega))) <;> conv => whnf)
    refine YIELD.of tabOK rfl rfl rfl ?_
    intro η2 ro2 h2
    conv => whnf
    repeat' ((first | with_reducible refine IF.tt ?_ | with_reducible refine IF.ff ?_ | (refine NEED.mk ⟨keyOK_str _, (firstM_ok ps m).ok⟩ ?_; conv => whnf) | refine NEED.au ?_ | ((with_reducible apply GET.at); rfl) | ((with_reducible apply GETG.at); rfl) | ((with_reducible refine UNK.mk (fun h => ?_) ?_) <;> try (exfalso; omega)) | ((with_reducible refine IF.mk (fun h => ?_) (fun h => ?_)) <;> (try simp (disch := omega) only [hsB, hsC, lnB, wrap64, wrap32, simprocAttr] at h) <;> try (exfalso; omega))) <;> conv => whnf)
    refine ⟨m + 1, by omega, by omega, ?_⟩
    conv => whnf
    (refine GOES.cutting h0 rfl rfl rfl (by (repeat' (first | (refine belowO_cons rfl ?_ ?_) | exact belowH_rows (plainQds _) | exact belowH_renrows (plainQds _) | exact belowH_rows (plainPrs _) | exact belowH_renrows (plainPrs _) | exact belowH_mp (first_plain _ _) | rfl))) ?_ ?_ <;> (repeat' (first | (exact congrArg Hp.mp (by first | rfl | exact hmp)) | (with_reducible rfl) | exact trivial | (exact sl_eq rfl (by first | omega | (simp (disch := omega) only [lnB, wrap64, wrap32] <;> omega) | (simp; done) | (simp <;> omega))) | (exact congrArg (SV.int _) (by first | omega | (simp (disch := omega) only [lnB, wrap64, wrap32] <;> omega) | (simp; done) | (simp <;> omega))) | (exact box_int (by first | omega | (simp (disch := omega) only [lnB, wrap64, wrap32] <;> omega) | (simp; done) | (simp <;> omega))) | (exact box_sl (by first | omega | (simp (disch := omega) only [lnB, wrap64, wrap32] <;> omega) | (simp; done) | (simp <;> omega))) | (exact renH_plain _ (h := .rows _ _) (plainQds _)) | (exact renH_plain _ (h := .rows _ _) (plainPrs _)) | (exact congrArg (Hp.rows _) (by rfl)) | ((conv => whnf); refine ⟨?_, ?_⟩) | rfl)))
  · have hme : m = ps.length := by omega
    subst hme
    repeat' ((first | with_reducible refine IF.tt ?_ | with_reducible refine IF.ff ?_ | refine NEED.au ?_ | ((with_reducible apply GET.at); rfl) | ((with_reducible apply GETG.at); rfl) | ((with_reducible refine UNK.mk (fun h => ?_) ?_) <;> try (exfalso; omega)) | ((with_reducible refine IF.mk (fun h => ?_) (fun h => ?_)) <;> (try simp (disch := omega) only [hsB, hsC, lnB, wrap64, wrap32, simprocAttr] at h) <;> try (exfalso; omega))) <;> conv => whnf)
    have h0 := hout
    refine LOOP.nil 8 16 rfl ?_
    refine LOOP.gok tabOK [1, 5, 24, 25] [2, 3, 5] (X := Nat) (fun i => i ≤ l.length) (fun i => [(26, .int .i64 (i : Int)), (8, .sl (.loc 7) 0 16 ((l.take i).map (nameQ ps)).length none)]) (fun i => [(7, .rows 16 (((l.take i).map (nameQ ps)).map qdRow))]) 8 (fun i => l.length - i) 0 (by omega) ?_
    conv => whnf
    refine ⟨by (refine GOES.cutting h0 rfl rfl rfl (by (repeat' (first | (refine belowO_cons rfl ?_ ?_) | exact belowH_rows (plainQds _) | exact belowH_renrows (plainQds _) | exact belowH_rows (plainPrs _) | exact belowH_renrows (plainPrs _) | exact belowH_mp (first_plain _ _) | rfl))) ?_ ?_ <;> (repeat' (first | (with_reducible rfl) | exact trivial | (exact sl_eq rfl (by first | omega | (simp (disch := omega) only [lnB, wrap64, wrap32] <;> omega) | (simp; done) | (simp <;> omega))) | (exact congrArg (SV.int _) (by first | omega | (simp (disch := omega) only [lnB, wrap64, wrap32] <;> omega) | (simp; done) | (simp <;> omega))) | (exact box_int (by first | omega | (simp (disch := omega) only [lnB, wrap64, wrap32] <;> omega) | (simp; done) | (simp <;> omega))) | (exact box_sl (by first | omega | (simp (disch := omega) only [lnB, wrap64, wrap32] <;> omega) | (simp; done) | (simp <;> omega))) | (exact renH_plain _ (h := .rows _ _) (plainQds _)) | (exact renH_plain _ (h := .rows _ _) (plainPrs _)) | (exact congrArg (Hp.rows _) (by rfl)) | ((conv => whnf); refine ⟨?_, ?_⟩) | rfl))), ?_⟩
    intro i hi
    have hli : ((l.take i).map (nameQ ps)).length = i := by simp; omega
    conv => whnf
    by_cases hil : i < l.length
    · have hs := map_succ (nameQ ps) hil
      generalize (l.take i).map (nameQ ps) = out at *
      repeat' ((first | with_reducible refine IF.tt ?_ | with_reducible refine IF.ff ?_ | (refine GET.at (row := qdRow (l[i]'(by omega))) (qd_get (by omega) (by omega)) ?_; conv => whnf) | refine NEED.au ?_ | ((with_reducible apply GET.at); rfl) | ((with_reducible apply GETG.at); rfl) | ((with_reducible refine UNK.mk (fun h => ?_) ?_) <;> try (exfalso; omega)) | ((with_reducible refine IF.mk (fun h => ?_) (fun h => ?_)) <;> (try simp (disch := omega) only [hsB, hsC, lnB, wrap64, wrap32, simprocAttr] at h) <;> try (exfalso; omega))) <;> conv => whnf)
      refine CALL.at [8] (each_does (l[i]'(by omega))) rfl rfl rfl rfl (by first | rfl | (simp only [belowO, belowH, plainLL_below _ (plainQds _), Bool.and_self, Bool.and_true] <;> rfl)) (by first | rfl | (simp only [belowO, belowH, plainLL_below _ (plainQds _), Bool.and_self, Bool.and_true] <;> rfl)) (by repeat' (first | exact trivial | exact (renH_plain _ (h := .rows _ _) (plainQds _)).symm | exact rfl | exact (renH_plain _ (h := .rows _ _) (plainQds _)).trans (renH_plain _ (h := .rows _ _) (plainQds _)).symm | ((conv => whnf); refine ⟨?_, ?_⟩))) (by repeat' (first | exact trivial | exact (renH_plain _ (h := .rows _ _) (plainQds _)).symm | exact rfl | exact (renH_plain _ (h := .rows _ _) (plainQds _)).trans (renH_plain _ (h := .rows _ _) (plainQds _)).symm | ((conv => whnf); refine ⟨?_, ?_⟩))) rfl rfl ?_
      rintro r O nx ⟨rfl, rfl, rfl⟩
      conv => whnf
      obtain ⟨q, hq⟩ : ∃ q, q = l[i] := ⟨_, rfl⟩
      refine LOOP.gok tabOK [1, 5, 8, 10, 24, 25, 26, 30] [2, 3, 5, 7] (X := Nat) (fun j => j ≤ 4) (fun j => [(31, .int .i64 (j : Int))]) (fun j => [(8, .box (qdRow (upQ ps l[i] j)))]) 9 (fun j => 4 - j) 0 (by omega) ?_
      rw [← hq]
      rw [← hq] at hs
      clear hq
      conv => whnf
      refine ⟨by (refine GOES.cutting h0 rfl rfl rfl (by (repeat' (first | (refine belowO_cons rfl ?_ ?_) | exact belowH_rows (plainQds _) | exact belowH_renrows (plainQds _) | exact belowH_rows (plainPrs _) | exact belowH_renrows (plainPrs _) | exact belowH_mp (first_plain _ _) | rfl))) ?_ ?_ <;> (repeat' (first | (with_reducible rfl) | exact trivial | (exact sl_eq rfl (by first | omega | (simp (disch := omega) only [lnB, wrap64, wrap32] <;> omega) | (simp; done) | (simp <;> omega))) | (exact congrArg (SV.int _) (by first | omega | (simp (disch := omega) only [lnB, wrap64, wrap32] <;> omega) | (simp; done) | (simp <;> omega))) | (exact box_int (by first | omega | (simp (disch := omega) only [lnB, wrap64, wrap32] <;> omega) | (simp; done) | (simp <;> omega))) | (exact box_sl (by first | omega | (simp (disch := omega) only [lnB, wrap64, wrap32] <;> omega) | (simp; done) | (simp <;> omega))) | (exact renH_plain _ (h := .rows _ _) (plainQds _)) | (exact renH_plain _ (h := .rows _ _) (plainPrs _)) | (exact congrArg (Hp.rows _) (by rfl)) | ((conv => whnf); refine ⟨?_, ?_⟩) | rfl))), ?_⟩
      intro j hj
      by_cases hj4 : j < 4
      · obtain rfl | rfl | rfl | rfl : j = 0 ∨ j = 1 ∨ j = 2 ∨ j = 3 := by omega
        · -- place 0
          rw [up0]
          conv => whnf
          repeat' ((first | with_reducible refine IF.tt ?_ | with_reducible refine IF.ff ?_ | refine DRAWN.of (id := 13) tabOK mixed plRen80 (by kernel_rfl) ?_ | with_reducible refine ADD.mk (fun _ _ => ?_) | with_reducible refine NEED.mk (Det.of rfl) ?_ | refine NEED.mk (det_pos (by omega)) ?_ | with_reducible refine FORK.mk ?_ ?_ | (refine NEED.mk ⟨by decide, by decide, rfl⟩ ?_; conv => whnf) | (refine NEED.mk ⟨keyOK_str _, (firstM_ok ps ps.length).ok⟩ ?_; conv => whnf) | refine NEED.au ?_ | ((with_reducible apply GET.at); rfl) | ((with_reducible apply GETG.at); rfl) | ((with_reducible refine UNK.mk (fun h => ?_) ?_) <;> try (exfalso; omega)) | ((with_reducible refine IF.mk (fun h => ?_) (fun h => ?_)) <;> (try simp (disch := omega) only [hsB, hsC, lnB, wrap64, wrap32, simprocAttr] at h) <;> try (exfalso; omega))) <;> conv => whnf)
          refine FIND.mk (fun idx v hf => ?_) (fun hf => ?_)
          · obtain ⟨i0, hi0, rfl, hto⟩ := find_yes hf
            conv => whnf
            repeat' ((first | with_reducible refine IF.tt ?_ | with_reducible refine IF.ff ?_ | (refine GET.at (row := prRow (ps[i0]'(by omega))) (pr_get (by omega) (by omega)) ?_; conv => whnf) | (refine NEED.mk ⟨by decide, by decide, rfl⟩ ?_; conv => whnf) | refine NEED.au ?_ | ((with_reducible apply GET.at); rfl) | ((with_reducible apply GETG.at); rfl) | ((with_reducible refine UNK.mk (fun h => ?_) ?_) <;> try (exfalso; omega)) | ((with_reducible refine IF.mk (fun h => ?_) (fun h => ?_)) <;> (try simp (disch := omega) only [hsB, hsC, lnB, wrap64, wrap32, simprocAttr] at h) <;> try (exfalso; omega))) <;> conv => whnf)
            · have hn := nameT_yes (t := q.s) (by omega) hto
              refine ⟨1, by omega, by omega, ?_⟩
              rw [up1, hn]
              conv => whnf
              (refine GOES.cutting h0 rfl rfl rfl (by (repeat' (first | (refine belowO_cons rfl ?_ ?_) | exact belowH_rows (plainQds _) | exact belowH_renrows (plainQds _) | exact belowH_rows (plainPrs _) | exact belowH_renrows (plainPrs _) | exact belowH_mp (first_plain _ _) | rfl))) ?_ ?_ <;> (repeat' (first | (with_reducible rfl) | exact trivial | (exact sl_eq rfl (by first | omega | (simp (disch := omega) only [lnB, wrap64, wrap32] <;> omega) | (simp; done) | (simp <;> omega))) | (exact congrArg (SV.int _) (by first | omega | (simp (disch := omega) only [lnB, wrap64, wrap32] <;> omega) | (simp; done) | (simp <;> omega))) | (exact box_int (by first | omega | (simp (disch := omega) only [lnB, wrap64, wrap32] <;> omega) | (simp; done) | (simp <;> omega))) | (exact box_sl (by first | omega | (simp (disch := omega) only [lnB, wrap64, wrap32] <;> omega) | (simp; done) | (simp <;> omega))) | (exact renH_plain _ (h := .rows _ _) (plainQds _)) | (exact renH_plain _ (h := .rows _ _) (plainPrs _)) | (exact congrArg (Hp.rows _) (by rfl)) | ((conv => whnf); refine ⟨?_, ?_⟩) | rfl)))
            · have hn := nameT_kind (ps := ps) (t := q.s) (by omega)
              refine ⟨1, by omega, by omega, ?_⟩
              rw [up1, hn]
              conv => whnf
              (refine GOES.cutting h0 rfl rfl rfl (by (repeat' (first | (refine belowO_cons rfl ?_ ?_) | exact belowH_rows (plainQds _) | exact belowH_renrows (plainQds _) | exact belowH_rows (plainPrs _) | exact belowH_renrows (plainPrs _) | exact belowH_mp (first_plain _ _) | rfl))) ?_ ?_ <;> (repeat' (first | (with_reducible rfl) | exact trivial | (exact sl_eq rfl (by first | omega | (simp (disch := omega) only [lnB, wrap64, wrap32] <;> omega) | (simp; done) | (simp <;> omega))) | (exact congrArg (SV.int _) (by first | omega | (simp (disch := omega) only [lnB, wrap64, wrap32] <;> omega) | (simp; done) | (simp <;> omega))) | (exact box_int (by first | omega | (simp (disch := omega) only [lnB, wrap64, wrap32] <;> omega) | (simp; done) | (simp <;> omega))) | (exact box_sl (by first | omega | (simp (disch := omega) only [lnB, wrap64, wrap32] <;> omega) | (simp; done) | (simp <;> omega))) | (exact renH_plain _ (h := .rows _ _) (plainQds _)) | (exact renH_plain _ (h := .rows _ _) (plainPrs _)) | (exact congrArg (Hp.rows _) (by rfl)) | ((conv => whnf); refine ⟨?_, ?_⟩) | rfl)))
          · have hto := find_no hf
            have hn := nameT_none (t := q.s) hto
            conv => whnf
            repeat' ((first | with_reducible refine IF.tt ?_ | with_reducible refine IF.ff ?_ | (refine NEED.mk ⟨by decide, by decide, rfl⟩ ?_; conv => whnf) | refine NEED.au ?_ | ((with_reducible apply GET.at); rfl) | ((with_reducible apply GETG.at); rfl) | ((with_reducible refine UNK.mk (fun h => ?_) ?_) <;> try (exfalso; omega)) | ((with_reducible refine IF.mk (fun h => ?_) (fun h => ?_)) <;> (try simp (disch := omega) only [hsB, hsC, lnB, wrap64, wrap32, simprocAttr] at h) <;> try (exfalso; omega))) <;> conv => whnf)
            refine ⟨1, by omega, by omega, ?_⟩
            rw [up1, hn]
            conv => whnf
            (refine GOES.cutting h0 rfl rfl rfl (by (repeat' (first | (refine belowO_cons rfl ?_ ?_) | exact belowH_rows (plainQds _) | exact belowH_renrows (plainQds _) | exact belowH_rows (plainPrs _) | exact belowH_renrows (plainPrs _) | exact belowH_mp (first_plain _ _) | rfl))) ?_ ?_ <;> (repeat' (first | (with_reducible rfl) | exact trivial | (exact sl_eq rfl (by first | omega | (simp (disch := omega) only [lnB, wrap64, wrap32] <;> omega) | (simp; done) | (simp <;> omega))) | (exact congrArg (SV.int _) (by first | omega | (simp (disch := omega) only [lnB, wrap64, wrap32] <;> omega) | (simp; done) | (simp <;> omega))) | (exact box_int (by first | omega | (simp (disch := omega) only [lnB, wrap64, wrap32] <;> omega) | (simp; done) | (simp <;> omega))) | (exact box_sl (by first | omega | (simp (disch := omega) only [lnB, wrap64, wrap32] <;> omega) | (simp; done) | (simp <;> omega))) | (exact renH_plain _ (h := .rows _ _) (plainQds _)) | (exact renH_plain _ (h := .rows _ _) (plainPrs _)) | (exact congrArg (Hp.rows _) (by rfl)) | ((conv => whnf); refine ⟨?_, ?_⟩) | rfl)))
        · -- place 1
          rw [up1]
          conv => whnf
          repeat' ((first | with_reducible refine IF.tt ?_ | with_reducible refine IF.ff ?_ | refine DRAWN.of (id := 13) tabOK mixed plRen80 (by kernel_rfl) ?_ | with_reducible refine ADD.mk (fun _ _ => ?_) | with_reducible refine NEED.mk (Det.of rfl) ?_ | refine NEED.mk (det_pos (by omega)) ?_ | with_reducible refine FORK.mk ?_ ?_ | (refine NEED.mk ⟨by decide, by decide, rfl⟩ ?_; conv => whnf) | (refine NEED.mk ⟨keyOK_str _, (firstM_ok ps ps.length).ok⟩ ?_; conv => whnf) | refine NEED.au ?_ | ((with_reducible apply GET.at); rfl) | ((with_reducible apply GETG.at); rfl) | ((with_reducible refine UNK.mk (fun h => ?_) ?_) <;> try (exfalso; omega)) | ((with_reducible refine IF.mk (fun h => ?_) (fun h => ?_)) <;> (try simp (disch := omega) only [hsB, hsC, lnB, wrap64, wrap32, simprocAttr] at h) <;> try (exfalso; omega))) <;> conv => whnf)
          refine FIND.mk (fun idx v hf => ?_) (fun hf => ?_)
          · obtain ⟨i0, hi0, rfl, hto⟩ := find_yes hf
            conv => whnf
            repeat' ((first | with_reducible refine IF.tt ?_ | with_reducible refine IF.ff ?_ | (refine GET.at (row := prRow (ps[i0]'(by omega))) (pr_get (by omega) (by omega)) ?_; conv => whnf) | (refine NEED.mk ⟨by decide, by decide, rfl⟩ ?_; conv => whnf) | refine NEED.au ?_ | ((with_reducible apply GET.at); rfl) | ((with_reducible apply GETG.at); rfl) | ((with_reducible refine UNK.mk (fun h => ?_) ?_) <;> try (exfalso; omega)) | ((with_reducible refine IF.mk (fun h => ?_) (fun h => ?_)) <;> (try simp (disch := omega) only [hsB, hsC, lnB, wrap64, wrap32, simprocAttr] at h) <;> try (exfalso; omega))) <;> conv => whnf)
            · have hn := nameT_yes (t := q.p) (by omega) hto
              refine ⟨2, by omega, by omega, ?_⟩
              rw [up2, hn]
              conv => whnf
              (refine GOES.cutting h0 rfl rfl rfl (by (repeat' (first | (refine belowO_cons rfl ?_ ?_) | exact belowH_rows (plainQds _) | exact belowH_renrows (plainQds _) | exact belowH_rows (plainPrs _) | exact belowH_renrows (plainPrs _) | exact belowH_mp (first_plain _ _) | rfl))) ?_ ?_ <;> (repeat' (first | (with_reducible rfl) | exact trivial | (exact sl_eq rfl (by first | omega | (simp (disch := omega) only [lnB, wrap64, wrap32] <;> omega) | (simp; done) | (simp <;> omega))) | (exact congrArg (SV.int _) (by first | omega | (simp (disch := omega) only [lnB, wrap64, wrap32] <;> omega) | (simp; done) | (simp <;> omega))) | (exact box_int (by first | omega | (simp (disch := omega) only [lnB, wrap64, wrap32] <;> omega) | (simp; done) | (simp <;> omega))) | (exact box_sl (by first | omega | (simp (disch := omega) only [lnB, wrap64, wrap32] <;> omega) | (simp; done) | (simp <;> omega))) | (exact renH_plain _ (h := .rows _ _) (plainQds _)) | (exact renH_plain _ (h := .rows _ _) (plainPrs _)) | (exact congrArg (Hp.rows _) (by rfl)) | ((conv => whnf); refine ⟨?_, ?_⟩) | rfl)))
            · have hn := nameT_kind (ps := ps) (t := q.p) (by omega)
              refine ⟨2, by omega, by omega, ?_⟩
              rw [up2, hn]
              conv => whnf
              (refine GOES.cutting h0 rfl rfl rfl (by (repeat' (first | (refine belowO_cons rfl ?_ ?_) | exact belowH_rows (plainQds _) | exact belowH_renrows (plainQds _) | exact belowH_rows (plainPrs _) | exact belowH_renrows (plainPrs _) | exact belowH_mp (first_plain _ _) | rfl))) ?_ ?_ <;> (repeat' (first | (with_reducible rfl) | exact trivial | (exact sl_eq rfl (by first | omega | (simp (disch := omega) only [lnB, wrap64, wrap32] <;> omega) | (simp; done) | (simp <;> omega))) | (exact congrArg (SV.int _) (by first | omega | (simp (disch := omega) only [lnB, wrap64, wrap32] <;> omega) | (simp; done) | (simp <;> omega))) | (exact box_int (by first | omega | (simp (disch := omega) only [lnB, wrap64, wrap32] <;> omega) | (simp; done) | (simp <;> omega))) | (exact box_sl (by first | omega | (simp (disch := omega) only [lnB, wrap64, wrap32] <;> omega) | (simp; done) | (simp <;> omega))) | (exact renH_plain _ (h := .rows _ _) (plainQds _)) | (exact renH_plain _ (h := .rows _ _) (plainPrs _)) | (exact congrArg (Hp.rows _) (by rfl)) | ((conv => whnf); refine ⟨?_, ?_⟩) | rfl)))
          · have hto := find_no hf
            have hn := nameT_none (t := q.p) hto
            conv => whnf
            repeat' ((first | with_reducible refine IF.tt ?_ | with_reducible refine IF.ff ?_ | (refine NEED.mk ⟨by decide, by decide, rfl⟩ ?_; conv => whnf) | refine NEED.au ?_ | ((with_reducible apply GET.at); rfl) | ((with_reducible apply GETG.at); rfl) | ((with_reducible refine UNK.mk (fun h => ?_) ?_) <;> try (exfalso; omega)) | ((with_reducible refine IF.mk (fun h => ?_) (fun h => ?_)) <;> (try simp (disch := omega) only [hsB, hsC, lnB, wrap64, wrap32, simprocAttr] at h) <;> try (exfalso; omega))) <;> conv => whnf)
            refine ⟨2, by omega, by omega, ?_⟩
            rw [up2, hn]
            conv => whnf
            (refine GOES.cutting h0 rfl rfl rfl (by (repeat' (first | (refine belowO_cons rfl ?_ ?_) | exact belowH_rows (plainQds _) | exact belowH_renrows (plainQds _) | exact belowH_rows (plainPrs _) | exact belowH_renrows (plainPrs _) | exact belowH_mp (first_plain _ _) | rfl))) ?_ ?_ <;> (repeat' (first | (with_reducible rfl) | exact trivial | (exact sl_eq rfl (by first | omega | (simp (disch := omega) only [lnB, wrap64, wrap32] <;> omega) | (simp; done) | (simp <;> omega))) | (exact congrArg (SV.int _) (by first | omega | (simp (disch := omega) only [lnB, wrap64, wrap32] <;> omega) | (simp; done) | (simp <;> omega))) | (exact box_int (by first | omega | (simp (disch := omega) only [lnB, wrap64, wrap32] <;> omega) | (simp; done) | (simp <;> omega))) | (exact box_sl (by first | omega | (simp (disch := omega) only [lnB, wrap64, wrap32] <;> omega) | (simp; done) | (simp <;> omega))) | (exact renH_plain _ (h := .rows _ _) (plainQds _)) | (exact renH_plain _ (h := .rows _ _) (plainPrs _)) | (exact congrArg (Hp.rows _) (by rfl)) | ((conv => whnf); refine ⟨?_, ?_⟩) | rfl)))
        · -- place 2
          rw [up2]
          conv => whnf
          repeat' ((first | with_reducible refine IF.tt ?_ | with_reducible refine IF.ff ?_ | refine DRAWN.of (id := 13) tabOK mixed plRen80 (by kernel_rfl) ?_ | with_reducible refine ADD.mk (fun _ _ => ?_) | with_reducible refine NEED.mk (Det.of rfl) ?_ | refine NEED.mk (det_pos (by omega)) ?_ | with_reducible refine FORK.mk ?_ ?_ | (refine NEED.mk ⟨by decide, by decide, rfl⟩ ?_; conv => whnf) | (refine NEED.mk ⟨keyOK_str _, (firstM_ok ps ps.length).ok⟩ ?_; conv => whnf) | refine NEED.au ?_ | ((with_reducible apply GET.at); rfl) | ((with_reducible apply GETG.at); rfl) | ((with_reducible refine UNK.mk (fun h => ?_) ?_) <;> try (exfalso; omega)) | ((with_reducible refine IF.mk (fun h => ?_) (fun h => ?_)) <;> (try simp (disch := omega) only [hsB, hsC, lnB, wrap64, wrap32, simprocAttr] at h) <;> try (exfalso; omega))) <;> conv => whnf)
          refine FIND.mk (fun idx v hf => ?_) (fun hf => ?_)
          · obtain ⟨i0, hi0, rfl, hto⟩ := find_yes hf
            conv => whnf
            repeat' ((first | with_reducible refine IF.tt ?_ | with_reducible refine IF.ff ?_ | (refine GET.at (row := prRow (ps[i0]'(by omega))) (pr_get (by omega) (by omega)) ?_; conv => whnf) | (refine NEED.mk ⟨by decide, by decide, rfl⟩ ?_; conv => whnf) | refine NEED.au ?_ | ((with_reducible apply GET.at); rfl) | ((with_reducible apply GETG.at); rfl) | ((with_reducible refine UNK.mk (fun h => ?_) ?_) <;> try (exfalso; omega)) | ((with_reducible refine IF.mk (fun h => ?_) (fun h => ?_)) <;> (try simp (disch := omega) only [hsB, hsC, lnB, wrap64, wrap32, simprocAttr] at h) <;> try (exfalso; omega))) <;> conv => whnf)
            · have hn := nameT_yes (t := q.o) (by omega) hto
              refine ⟨3, by omega, by omega, ?_⟩
              rw [up3, hn]
              conv => whnf
              (refine GOES.cutting h0 rfl rfl rfl (by (repeat' (first | (refine belowO_cons rfl ?_ ?_) | exact belowH_rows (plainQds _) | exact belowH_renrows (plainQds _) | exact belowH_rows (plainPrs _) | exact belowH_renrows (plainPrs _) | exact belowH_mp (first_plain _ _) | rfl))) ?_ ?_ <;> (repeat' (first | (with_reducible rfl) | exact trivial | (exact sl_eq rfl (by first | omega | (simp (disch := omega) only [lnB, wrap64, wrap32] <;> omega) | (simp; done) | (simp <;> omega))) | (exact congrArg (SV.int _) (by first | omega | (simp (disch := omega) only [lnB, wrap64, wrap32] <;> omega) | (simp; done) | (simp <;> omega))) | (exact box_int (by first | omega | (simp (disch := omega) only [lnB, wrap64, wrap32] <;> omega) | (simp; done) | (simp <;> omega))) | (exact box_sl (by first | omega | (simp (disch := omega) only [lnB, wrap64, wrap32] <;> omega) | (simp; done) | (simp <;> omega))) | (exact renH_plain _ (h := .rows _ _) (plainQds _)) | (exact renH_plain _ (h := .rows _ _) (plainPrs _)) | (exact congrArg (Hp.rows _) (by rfl)) | ((conv => whnf); refine ⟨?_, ?_⟩) | rfl)))
            · have hn := nameT_kind (ps := ps) (t := q.o) (by omega)
              refine ⟨3, by omega, by omega, ?_⟩
              rw [up3, hn]
              conv => whnf
              (refine GOES.cutting h0 rfl rfl rfl (by (repeat' (first | (refine belowO_cons rfl ?_ ?_) | exact belowH_rows (plainQds _) | exact belowH_renrows (plainQds _) | exact belowH_rows (plainPrs _) | exact belowH_renrows (plainPrs _) | exact belowH_mp (first_plain _ _) | rfl))) ?_ ?_ <;> (repeat' (first | (with_reducible rfl) | exact trivial | (exact sl_eq rfl (by first | omega | (simp (disch := omega) only [lnB, wrap64, wrap32] <;> omega) | (simp; done) | (simp <;> omega))) | (exact congrArg (SV.int _) (by first | omega | (simp (disch := omega) only [lnB, wrap64, wrap32] <;> omega) | (simp; done) | (simp <;> omega))) | (exact box_int (by first | omega | (simp (disch := omega) only [lnB, wrap64, wrap32] <;> omega) | (simp; done) | (simp <;> omega))) | (exact box_sl (by first | omega | (simp (disch := omega) only [lnB, wrap64, wrap32] <;> omega) | (simp; done) | (simp <;> omega))) | (exact renH_plain _ (h := .rows _ _) (plainQds _)) | (exact renH_plain _ (h := .rows _ _) (plainPrs _)) | (exact congrArg (Hp.rows _) (by rfl)) | ((conv => whnf); refine ⟨?_, ?_⟩) | rfl)))
          · have hto := find_no hf
            have hn := nameT_none (t := q.o) hto
            conv => whnf
            repeat' ((first | with_reducible refine IF.tt ?_ | with_reducible refine IF.ff ?_ | (refine NEED.mk ⟨by decide, by decide, rfl⟩ ?_; conv => whnf) | refine NEED.au ?_ | ((with_reducible apply GET.at); rfl) | ((with_reducible apply GETG.at); rfl) | ((with_reducible refine UNK.mk (fun h => ?_) ?_) <;> try (exfalso; omega)) | ((with_reducible refine IF.mk (fun h => ?_) (fun h => ?_)) <;> (try simp (disch := omega) only [hsB, hsC, lnB, wrap64, wrap32, simprocAttr] at h) <;> try (exfalso; omega))) <;> conv => whnf)
            refine ⟨3, by omega, by omega, ?_⟩
            rw [up3, hn]
            conv => whnf
            (refine GOES.cutting h0 rfl rfl rfl (by (repeat' (first | (refine belowO_cons rfl ?_ ?_) | exact belowH_rows (plainQds _) | exact belowH_renrows (plainQds _) | exact belowH_rows (plainPrs _) | exact belowH_renrows (plainPrs _) | exact belowH_mp (first_plain _ _) | rfl))) ?_ ?_ <;> (repeat' (first | (with_reducible rfl) | exact trivial | (exact sl_eq rfl (by first | omega | (simp (disch := omega) only [lnB, wrap64, wrap32] <;> omega) | (simp; done) | (simp <;> omega))) | (exact congrArg (SV.int _) (by first | omega | (simp (disch := omega) only [lnB, wrap64, wrap32] <;> omega) | (simp; done) | (simp <;> omega))) | (exact box_int (by first | omega | (simp (disch := omega) only [lnB, wrap64, wrap32] <;> omega) | (simp; done) | (simp <;> omega))) | (exact box_sl (by first | omega | (simp (disch := omega) only [lnB, wrap64, wrap32] <;> omega) | (simp; done) | (simp <;> omega))) | (exact renH_plain _ (h := .rows _ _) (plainQds _)) | (exact renH_plain _ (h := .rows _ _) (plainPrs _)) | (exact congrArg (Hp.rows _) (by rfl)) | ((conv => whnf); refine ⟨?_, ?_⟩) | rfl)))
        · -- place 3
          rw [up3]
          conv => whnf
          repeat' ((first | with_reducible refine IF.tt ?_ | with_reducible refine IF.ff ?_ | refine DRAWN.of (id := 13) tabOK mixed plRen80 (by kernel_rfl) ?_ | with_reducible refine ADD.mk (fun _ _ => ?_) | with_reducible refine NEED.mk (Det.of rfl) ?_ | refine NEED.mk (det_pos (by omega)) ?_ | with_reducible refine FORK.mk ?_ ?_ | (refine NEED.mk ⟨by decide, by decide, rfl⟩ ?_; conv => whnf) | (refine NEED.mk ⟨keyOK_str _, (firstM_ok ps ps.length).ok⟩ ?_; conv => whnf) | refine NEED.au ?_ | ((with_reducible apply GET.at); rfl) | ((with_reducible apply GETG.at); rfl) | ((with_reducible refine UNK.mk (fun h => ?_) ?_) <;> try (exfalso; omega)) | ((with_reducible refine IF.mk (fun h => ?_) (fun h => ?_)) <;> (try simp (disch := omega) only [hsB, hsC, lnB, wrap64, wrap32, simprocAttr] at h) <;> try (exfalso; omega))) <;> conv => whnf)
          refine FIND.mk (fun idx v hf => ?_) (fun hf => ?_)
          · obtain ⟨i0, hi0, rfl, hto⟩ := find_yes hf
            conv => whnf
            repeat' ((first | with_reducible refine IF.tt ?_ | with_reducible refine IF.ff ?_ | (refine GET.at (row := prRow (ps[i0]'(by omega))) (pr_get (by omega) (by omega)) ?_; conv => whnf) | (refine NEED.mk ⟨by decide, by decide, rfl⟩ ?_; conv => whnf) | refine NEED.au ?_ | ((with_reducible apply GET.at); rfl) | ((with_reducible apply GETG.at); rfl) | ((with_reducible refine UNK.mk (fun h => ?_) ?_) <;> try (exfalso; omega)) | ((with_reducible refine IF.mk (fun h => ?_) (fun h => ?_)) <;> (try simp (disch := omega) only [hsB, hsC, lnB, wrap64, wrap32, simprocAttr] at h) <;> try (exfalso; omega))) <;> conv => whnf)
            · have hn := nameT_yes (t := q.g) (by omega) hto
              refine ⟨4, by omega, by omega, ?_⟩
              rw [up4, hn]
              conv => whnf
              (refine GOES.cutting h0 rfl rfl rfl (by (repeat' (first | (refine belowO_cons rfl ?_ ?_) | exact belowH_rows (plainQds _) | exact belowH_renrows (plainQds _) | exact belowH_rows (plainPrs _) | exact belowH_renrows (plainPrs _) | exact belowH_mp (first_plain _ _) | rfl))) ?_ ?_ <;> (repeat' (first | (with_reducible rfl) | exact trivial | (exact sl_eq rfl (by first | omega | (simp (disch := omega) only [lnB, wrap64, wrap32] <;> omega) | (simp; done) | (simp <;> omega))) | (exact congrArg (SV.int _) (by first | omega | (simp (disch := omega) only [lnB, wrap64, wrap32] <;> omega) | (simp; done) | (simp <;> omega))) | (exact box_int (by first | omega | (simp (disch := omega) only [lnB, wrap64, wrap32] <;> omega) | (simp; done) | (simp <;> omega))) | (exact box_sl (by first | omega | (simp (disch := omega) only [lnB, wrap64, wrap32] <;> omega) | (simp; done) | (simp <;> omega))) | (exact renH_plain _ (h := .rows _ _) (plainQds _)) | (exact renH_plain _ (h := .rows _ _) (plainPrs _)) | (exact congrArg (Hp.rows _) (by rfl)) | ((conv => whnf); refine ⟨?_, ?_⟩) | rfl)))
            · have hn := nameT_kind (ps := ps) (t := q.g) (by omega)
              refine ⟨4, by omega, by omega, ?_⟩
              rw [up4, hn]
              conv => whnf
              (refine GOES.cutting h0 rfl rfl rfl (by (repeat' (first | (refine belowO_cons rfl ?_ ?_) | exact belowH_rows (plainQds _) | exact belowH_renrows (plainQds _) | exact belowH_rows (plainPrs _) | exact belowH_renrows (plainPrs _) | exact belowH_mp (first_plain _ _) | rfl))) ?_ ?_ <;> (repeat' (first | (with_reducible rfl) | exact trivial | (exact sl_eq rfl (by first | omega | (simp (disch := omega) only [lnB, wrap64, wrap32] <;> omega) | (simp; done) | (simp <;> omega))) | (exact congrArg (SV.int _) (by first | omega | (simp (disch := omega) only [lnB, wrap64, wrap32] <;> omega) | (simp; done) | (simp <;> omega))) | (exact box_int (by first | omega | (simp (disch := omega) only [lnB, wrap64, wrap32] <;> omega) | (simp; done) | (simp <;> omega))) | (exact box_sl (by first | omega | (simp (disch := omega) only [lnB, wrap64, wrap32] <;> omega) | (simp; done) | (simp <;> omega))) | (exact renH_plain _ (h := .rows _ _) (plainQds _)) | (exact renH_plain _ (h := .rows _ _) (plainPrs _)) | (exact congrArg (Hp.rows _) (by rfl)) | ((conv => whnf); refine ⟨?_, ?_⟩) | rfl)))
          · have hto := find_no hf
            have hn := nameT_none (t := q.g) hto
            conv => whnf
            repeat' ((first | with_reducible refine IF.tt ?_ | with_reducible refine IF.ff ?_ | (refine NEED.mk ⟨by decide, by decide, rfl⟩ ?_; conv => whnf) | refine NEED.au ?_ | ((with_reducible apply GET.at); rfl) | ((with_reducible apply GETG.at); rfl) | ((with_reducible refine UNK.mk (fun h => ?_) ?_) <;> try (exfalso; omega)) | ((with_reducible refine IF.mk (fun h => ?_) (fun h => ?_)) <;> (try simp (disch := omega) only [hsB, hsC, lnB, wrap64, wrap32, simprocAttr] at h) <;> try (exfalso; omega))) <;> conv => whnf)
            refine ⟨4, by omega, by omega, ?_⟩
            rw [up4, hn]
            conv => whnf
            (refine GOES.cutting h0 rfl rfl rfl (by (repeat' (first | (refine belowO_cons rfl ?_ ?_) | exact belowH_rows (plainQds _) | exact belowH_renrows (plainQds _) | exact belowH_rows (plainPrs _) | exact belowH_renrows (plainPrs _) | exact belowH_mp (first_plain _ _) | rfl))) ?_ ?_ <;> (repeat' (first | (with_reducible rfl) | exact trivial | (exact sl_eq rfl (by first | omega | (simp (disch := omega) only [lnB, wrap64, wrap32] <;> omega) | (simp; done) | (simp <;> omega))) | (exact congrArg (SV.int _) (by first | omega | (simp (disch := omega) only [lnB, wrap64, wrap32] <;> omega) | (simp; done) | (simp <;> omega))) | (exact box_int (by first | omega | (simp (disch := omega) only [lnB, wrap64, wrap32] <;> omega) | (simp; done) | (simp <;> omega))) | (exact box_sl (by first | omega | (simp (disch := omega) only [lnB, wrap64, wrap32] <;> omega) | (simp; done) | (simp <;> omega))) | (exact renH_plain _ (h := .rows _ _) (plainQds _)) | (exact renH_plain _ (h := .rows _ _) (plainPrs _)) | (exact congrArg (Hp.rows _) (by rfl)) | ((conv => whnf); refine ⟨?_, ?_⟩) | rfl)))
      · obtain rfl : j = 4 := by omega
        rw [up4]
        conv => whnf
        repeat' ((first | with_reducible refine IF.tt ?_ | with_reducible refine IF.ff ?_ | (refine NEED.mk (needApp 224 rfl rfl (by simp) (by simp) (by omega)) ?_; conv => whnf) | refine NEED.au ?_ | ((with_reducible apply GET.at); rfl) | ((with_reducible apply GETG.at); rfl) | ((with_reducible refine UNK.mk (fun h => ?_) ?_) <;> try (exfalso; omega)) | ((with_reducible refine IF.mk (fun h => ?_) (fun h => ?_)) <;> (try simp (disch := omega) only [hsB, hsC, lnB, wrap64, wrap32, simprocAttr] at h) <;> try (exfalso; omega))) <;> conv => whnf)
        refine ⟨i + 1, by omega, by omega, ?_⟩
        rw [hs]
        conv => whnf
        (refine GOES.keeping h0 [2, 3, 4, 5, 6, 10] rfl rfl rfl (by (repeat' (first | (refine belowO_cons rfl ?_ ?_) | exact belowH_rows (plainQds _) | exact belowH_renrows (plainQds _) | exact belowH_mp (first_plain _ _) | rfl))) ?_ ?_ <;> (repeat' (first | (exact (renH_plain _ (h := .mp _) (first_plain _ _)).symm) | (with_reducible rfl) | exact trivial | (exact sl_eq rfl (by first | omega | (simp (disch := omega) only [lnB, wrap64, wrap32] <;> omega) | (simp; done) | (simp <;> omega))) | (exact congrArg (SV.int _) (by first | omega | (simp (disch := omega) only [lnB, wrap64, wrap32] <;> omega) | (simp; done) | (simp <;> omega))) | (exact box_int (by first | omega | (simp (disch := omega) only [lnB, wrap64, wrap32] <;> omega) | (simp; done) | (simp <;> omega))) | (exact box_sl (by first | omega | (simp (disch := omega) only [lnB, wrap64, wrap32] <;> omega) | (simp; done) | (simp <;> omega))) | (exact (renH_plain _ (h := .rows _ _) (plainQds _)).symm) | (exact (renH_plain _ (h := .rows _ _) (plainQds _)).trans (renH_plain _ (h := .rows _ _) (plainQds _)).symm) | (exact rows_eq (plainQds _) (by (simp [List.take_of_length_le, ofVal, qdRow, nameQ]))) | ((conv => whnf); refine ⟨?_, ?_⟩) | (simp only [ren, renB]; done) | rfl)))
    · have hie : i = l.length := by omega
      subst hie
      rw [List.take_length] at hli ⊢
      generalize l.map (nameQ ps) = out at *
      have hT := tsort_does out [] none (by unfold QdsOK; omega)
      rw [List.append_nil] at hT
      repeat' ((first | with_reducible refine IF.tt ?_ | with_reducible refine IF.ff ?_ | refine NEED.au ?_ | ((with_reducible apply GET.at); rfl) | ((with_reducible apply GETG.at); rfl) | ((with_reducible refine UNK.mk (fun h => ?_) ?_) <;> try (exfalso; omega)) | ((with_reducible refine IF.mk (fun h => ?_) (fun h => ?_)) <;> (try simp (disch := omega) only [hsB, hsC, lnB, wrap64, wrap32, simprocAttr] at h) <;> try (exfalso; omega))) <;> conv => whnf)
      refine CALL.at [7] (hT) rfl rfl rfl rfl (by first | rfl | (simp only [belowO, belowH, plainLL_below _ (plainQds _), Bool.and_self, Bool.and_true] <;> rfl)) (by first | rfl | (simp only [belowO, belowH, plainLL_below _ (plainQds _), Bool.and_self, Bool.and_true] <;> rfl)) (by repeat' (first | exact trivial | exact (renH_plain _ (h := .rows _ _) (plainQds _)).symm | exact rfl | exact (renH_plain _ (h := .rows _ _) (plainQds _)).trans (renH_plain _ (h := .rows _ _) (plainQds _)).symm | ((conv => whnf); refine ⟨?_, ?_⟩))) (by repeat' (first | exact trivial | exact (renH_plain _ (h := .rows _ _) (plainQds _)).symm | exact rfl | exact (renH_plain _ (h := .rows _ _) (plainQds _)).trans (renH_plain _ (h := .rows _ _) (plainQds _)).symm | ((conv => whnf); refine ⟨?_, ?_⟩))) rfl rfl ?_
      rintro r O nx ⟨j, hj, rfl, rfl, rfl⟩
      conv => whnf
      refine FIN.at h0 [8] (.sl (.loc 2) 0 16 (setL qdCmp out).length (some (setL qdCmp out).length)) [(2, .rows 16 ((setL qdCmp out ++ List.replicate j zeroQd).map qdRow))] rfl rfl rfl (by first | rfl | (simp only [belowO, belowH, plainLL_below _ (plainQds _), Bool.and_self, Bool.and_true] <;> rfl)) (by repeat' (first | exact trivial | exact (renH_plain _ (h := .rows _ _) (plainQds _)).symm | (with_reducible rfl) | (exact (renH_plain _ (h := .rows _ _) (plainQds _)).trans (renH_plain _ (h := .rows _ _) (plainQds _)).symm) | (exact rows_eq (plainQds _) (by simp [qdRow, ofVal, List.take_of_length_le])) | exact rfl | ((conv => whnf); refine ⟨?_, ?_⟩))) rfl ?_
      exact ⟨j, by omega, rfl, rfl, rfl⟩
end Go.Proofs.Ytillkgjdbnjnoaa
/- Chapter 7's law of Terms, Graphs, Blanks and Rename; walked. Conditions: as many quads and pairs as memory bears. -/
set_option linter.unusedVariables false
set_option linter.unusedSimpArgs false
set_option maxRecDepth 20000
set_option maxHeartbeats 8000000
namespace Go.Proofs.Ytillkgjdbnjnoaa
open Go.Sx Go.Our
def plLawLists0 : Plan := (planOf [(0, 1), (1, 1), (2, 1), (4, 1), (5, 1), (6, 1), (3, 2), (7, 2), (8, 1)])
def ovT : Tm := ⟨-3, [], [], []⟩
def ovG : Tm := ⟨-4, [], [], []⟩
def markPr : Pr := ([109, 97, 114, 107], [])
theorem mid_setZ {C L : List Tm} (x : Tm) (h : C.length < L.length) : ((C ++ L.drop C.length).map tmRow).set (0 + (C.length : Int).toNat) (tmRow x) = ((C ++ [x]) ++ L.drop (C ++ [x]).length).map tmRow := by rw [Nat.zero_add, Int.toNat_natCast]; exact mid_set tmRow x h
theorem sameT_self (X z : List Tm) (lA lB : Option Nat) (h : (X ++ z).length ≤ 1152921504606846976) : Does Try.prog tab 22 2 [.sl (.loc 0) 0 4 X.length lA, .sl (.loc 1) 0 4 X.length lB] [] [(0, .rows 4 ((X ++ z).map tmRow)), (1, .rows 4 (X.map tmRow))] (ValK 2 (.bool true)) := by
  have hh := sameT_does (X ++ z) X 0 X.length 0 X.length lA lB (by simp) (by simp) h (by rw [List.length_append] at h; omega)
  rwa [decide_eq_true (by simp)] at hh
theorem sameS_self (X z : List (List UInt8)) (lA lB : Option Nat) (h : (X ++ z).length ≤ 1152921504606846976) : Does Try.prog tab 25 2 [.sl (.loc 0) 0 1 X.length lA, .sl (.loc 1) 0 1 X.length lB] [] [(0, .rows 1 ((X ++ z).map strRowS)), (1, .rows 1 (X.map strRowS))] (ValK 2 (.bool true)) := by
  have hh := sameS_does (X ++ z) X 0 X.length 0 X.length lA lB (by simp) (by simp) h (by rw [List.length_append] at h; omega)
  rwa [decide_eq_true (by simp)] at hh
theorem sameQ_self (X z : List Qd) (lA lB : Option Nat) (h : (X ++ z).length ≤ 1152921504606846976) : Does Try.prog tab 12 2 [.sl (.loc 0) 0 16 X.length lA, .sl (.loc 1) 0 16 X.length lB] [] [(0, .rows 16 ((X ++ z).map qdRow)), (1, .rows 16 (X.map qdRow))] (ValK 2 (.bool true)) := by
  have hh := sameQuadsL_does (X ++ z) X 0 X.length 0 X.length lA lB (by simp) (by simp) h (by rw [List.length_append] at h; omega)
  rwa [decide_eq_true (by simp)] at hh
set_option maxHeartbeats 8000000 in
theorem lawLists_does (l : List Qd) (ps : List Pr) (hl : QdsOK l) (hp : ps.length * 32 ≤ 140737488351232) : Does Try.prog tab 5 2 [.sl (.loc 0) 0 16 l.length none, .sl (.loc 1) 0 2 ps.length none] [] [(0, .rows 16 (l.map qdRow)), (1, .rows 2 (ps.map prRow))] (ValK 2 (.bool true)) := by
  have hq := hl
  unfold QdsOK at hq
  have hm : (l ++ [markQd, markQd]).length ≤ 1152921504606846976 := by simp; omega
  have hl0 : (l ++ ([] : List Qd)).length ≤ 1152921504606846976 := by simp; omega
  have dT := terms_does l [markQd, markQd] none hl hm
  have dG := graphs_does l [markQd, markQd] none hl hm
  have dB := blanks_does l [markQd, markQd] none hl hm
  have dR := rename_does l [markQd, markQd] none ps [markPr] none hl hm (by simp; omega)
  have eT := rterms7_does l [] none hl hl0
  have eG := rgraphs7_does l [] none hl hl0
  have eB := rblanks_does l [] none hl hl0
  have eR := rrename_does l [] none ps [] none hl hl0 (by simp; omega)
  rw [List.append_nil] at eT eG eB eR
  rw [List.append_nil] at eR
  have nT := flat_len termsQ termsQ_len l
  have nG := flat_len (fun q => [q.g]) (k := 4) (fun q => by simp) l
  have nB : (allBlanks l).length ≤ l.length * 4 := flat_len blanksQ blanksQ_len l
  generalize setL tmCmp (l.flatMap termsQ) = T at *
  generalize setL tmCmp (l.flatMap fun q => [q.g]) = G at *
  generalize setL cmpL (allBlanks l) = B at *
  generalize setL qdCmp (l.map (nameQ ps)) = R at *
  have kept := keptZ_does l [] none hl hl0
  rw [List.append_nil] at kept
  refine Does.enter tabOK (g := 5) (fn := Try.f5) Try.call5 Try.func5 rfl 124 rfl rfl [.tmp 4] rfl ?_
  intro w0 F η0 h0
  conv => whnf
  refine CALL.at [0] (roomy_does l hl) rfl rfl rfl rfl (by first | rfl | (simp only [belowO, belowH, plainLL_below _ (plainQds _), Bool.and_self, Bool.and_true] <;> rfl)) (by first | rfl | (simp only [belowO, belowH, plainLL_below _ (plainQds _), Bool.and_self, Bool.and_true] <;> rfl)) (by repeat' (first | exact trivial | exact (renH_plain _ (h := .rows _ _) (plainQds _)).symm | exact rfl | exact (renH_plain _ (h := .rows _ _) (plainQds _)).trans (renH_plain _ (h := .rows _ _) (plainQds _)).symm | ((conv => whnf); refine ⟨?_, ?_⟩))) (by repeat' (first | exact trivial | exact (renH_plain _ (h := .rows _ _) (plainQds _)).symm | exact rfl | exact (renH_plain _ (h := .rows _ _) (plainQds _)).trans (renH_plain _ (h := .rows _ _) (plainQds _)).symm | ((conv => whnf); refine ⟨?_, ?_⟩))) rfl rfl ?_
  rintro r O nx ⟨rfl, rfl, rfl⟩
  conv => whnf
  repeat' ((first | with_reducible refine IF.tt ?_ | with_reducible refine IF.ff ?_ | (refine NEED.mk (needApp 32 rfl rfl (by simp) (by simp) (by simp; omega)) ?_; conv => whnf) | (refine NEED.mk (needApp 32 rfl rfl rfl (by simp) (by omega)) ?_; conv => whnf) | refine NEED.au ?_ | ((with_reducible apply GET.at); rfl) | ((with_reducible apply GETG.at); rfl) | ((with_reducible refine UNK.mk (fun h => ?_) ?_) <;> try (exfalso; omega)) | ((with_reducible refine IF.mk (fun h => ?_) (fun h => ?_)) <;> (try simp (disch := omega) only [hsB, hsC, lnB, wrap64, wrap32, simprocAttr] at h) <;> try (exfalso; omega))) <;> conv => whnf)
  have hpr : (List.take (0 + ps.length) (List.take 0 ([] : List (List SV)) ++ List.take ps.length (List.drop 0 (List.map prRow ps))) ++ List.take 1 (List.drop 0 [[SV.str ({ data := #[109, 97, 114, 107] } : ByteArray).data.toList, SV.str []]])) = (ps ++ [markPr]).map prRow := by simp [List.take_of_length_le, markPr, prRow]
  rw [hpr]
  refine CALL.at [2] (dT) rfl rfl rfl rfl (by first | rfl | (simp only [belowO, belowH, plainLL_below _ (plainQds _), Bool.and_self, Bool.and_true] <;> rfl)) (by first | rfl | (simp only [belowO, belowH, plainLL_below _ (plainQds _), Bool.and_self, Bool.and_true] <;> rfl)) (by repeat' (first | exact trivial | exact (renH_plain _ (h := .rows _ _) (plainQds _)).symm | exact rfl | exact (renH_plain _ (h := .rows _ _) (plainQds _)).trans (renH_plain _ (h := .rows _ _) (plainQds _)).symm | ((conv => whnf); refine ⟨?_, ?_⟩))) (by repeat' (first | exact trivial | exact (renH_plain _ (h := .rows _ _) (plainQds _)).symm | exact rfl | exact (renH_plain _ (h := .rows _ _) (plainQds _)).trans (renH_plain _ (h := .rows _ _) (plainQds _)).symm | ((conv => whnf); refine ⟨?_, ?_⟩))) rfl rfl ?_
  rintro r O nx ⟨j1, hj1, rfl, rfl, rfl⟩
  conv => whnf
  repeat' ((first | with_reducible refine IF.tt ?_ | with_reducible refine IF.ff ?_ | refine NEED.au ?_ | ((with_reducible apply GET.at); rfl) | ((with_reducible apply GETG.at); rfl) | ((with_reducible refine UNK.mk (fun h => ?_) ?_) <;> try (exfalso; omega)) | ((with_reducible refine IF.mk (fun h => ?_) (fun h => ?_)) <;> (try simp (disch := omega) only [hsB, hsC, lnB, wrap64, wrap32, simprocAttr] at h) <;> try (exfalso; omega))) <;> conv => whnf)
  refine CALL.at [2] (dG) rfl rfl rfl rfl (by first | rfl | (simp only [belowO, belowH, plainLL_below _ (plainQds _), Bool.and_self, Bool.and_true] <;> rfl)) (by first | rfl | (simp only [belowO, belowH, plainLL_below _ (plainQds _), Bool.and_self, Bool.and_true] <;> rfl)) (by repeat' (first | exact trivial | exact (renH_plain _ (h := .rows _ _) (plainQds _)).symm | exact rfl | exact (renH_plain _ (h := .rows _ _) (plainQds _)).trans (renH_plain _ (h := .rows _ _) (plainQds _)).symm | ((conv => whnf); refine ⟨?_, ?_⟩))) (by repeat' (first | exact trivial | exact (renH_plain _ (h := .rows _ _) (plainQds _)).symm | exact rfl | exact (renH_plain _ (h := .rows _ _) (plainQds _)).trans (renH_plain _ (h := .rows _ _) (plainQds _)).symm | ((conv => whnf); refine ⟨?_, ?_⟩))) rfl rfl ?_
  rintro r O nx ⟨j2, hj2, rfl, rfl, rfl⟩
  conv => whnf
  repeat' ((first | with_reducible refine IF.tt ?_ | with_reducible refine IF.ff ?_ | refine NEED.au ?_ | ((with_reducible apply GET.at); rfl) | ((with_reducible apply GETG.at); rfl) | ((with_reducible refine UNK.mk (fun h => ?_) ?_) <;> try (exfalso; omega)) | ((with_reducible refine IF.mk (fun h => ?_) (fun h => ?_)) <;> (try simp (disch := omega) only [hsB, hsC, lnB, wrap64, wrap32, simprocAttr] at h) <;> try (exfalso; omega))) <;> conv => whnf)
  refine CALL.at [2] (dB) rfl rfl rfl rfl (by first | rfl | (simp only [belowO, belowH, plainLL_below _ (plainQds _), Bool.and_self, Bool.and_true] <;> rfl)) (by first | rfl | (simp only [belowO, belowH, plainLL_below _ (plainQds _), Bool.and_self, Bool.and_true] <;> rfl)) (by repeat' (first | exact trivial | exact (renH_plain _ (h := .rows _ _) (plainQds _)).symm | exact rfl | exact (renH_plain _ (h := .rows _ _) (plainQds _)).trans (renH_plain _ (h := .rows _ _) (plainQds _)).symm | ((conv => whnf); refine ⟨?_, ?_⟩))) (by repeat' (first | exact trivial | exact (renH_plain _ (h := .rows _ _) (plainQds _)).symm | exact rfl | exact (renH_plain _ (h := .rows _ _) (plainQds _)).trans (renH_plain _ (h := .rows _ _) (plainQds _)).symm | ((conv => whnf); refine ⟨?_, ?_⟩))) rfl rfl ?_
  rintro r O nx ⟨j3, hj3, rfl, rfl, rfl⟩
  conv => whnf
  repeat' ((first | with_reducible refine IF.tt ?_ | with_reducible refine IF.ff ?_ | (refine NEED.mk ⟨by omega, by show _ ≤ ((max (0 + ps.length + 1) (_ - 0) : Nat) : Int); omega⟩ ?_; conv => whnf) | refine NEED.au ?_ | ((with_reducible apply GET.at); rfl) | ((with_reducible apply GETG.at); rfl) | ((with_reducible refine UNK.mk (fun h => ?_) ?_) <;> try (exfalso; omega)) | ((with_reducible refine IF.mk (fun h => ?_) (fun h => ?_)) <;> (try simp (disch := omega) only [hsB, hsC, lnB, wrap64, wrap32, simprocAttr] at h) <;> try (exfalso; omega))) <;> conv => whnf)
  rw [Int.toNat_natCast]
  have h1 : (T ++ List.replicate j1 zeroTm).length ≤ 1152921504606846976 := by simp; omega
  have h2 : (G ++ List.replicate j2 zeroTm).length ≤ 1152921504606846976 := by simp; omega
  have h3 : (B ++ List.replicate j3 ([] : List UInt8)).length ≤ 1152921504606846976 := by simp; omega
  refine CALL.at [2, 6] (dR) rfl rfl rfl rfl (by (repeat' (first | (refine belowO_cons rfl ?_ ?_) | exact belowH_rows (plainQds _) | exact belowH_rows (plainPrs _) | rfl))) (by (repeat' (first | (refine belowO_cons rfl ?_ ?_) | exact belowH_rows (plainQds _) | exact belowH_rows (plainPrs _) | rfl))) (by repeat' (first | exact trivial | exact (renH_plain _ (h := .rows _ _) (plainQds _)).symm | exact (renH_plain _ (h := .rows _ _) (plainPrs _)).symm | exact rfl | exact (renH_plain _ (h := .rows _ _) (plainQds _)).trans (renH_plain _ (h := .rows _ _) (plainQds _)).symm | exact (renH_plain _ (h := .rows _ _) (plainPrs _)).trans (renH_plain _ (h := .rows _ _) (plainPrs _)).symm | ((conv => whnf); refine ⟨?_, ?_⟩))) (by repeat' (first | exact trivial | exact (renH_plain _ (h := .rows _ _) (plainQds _)).symm | exact (renH_plain _ (h := .rows _ _) (plainPrs _)).symm | exact rfl | exact (renH_plain _ (h := .rows _ _) (plainQds _)).trans (renH_plain _ (h := .rows _ _) (plainQds _)).symm | exact (renH_plain _ (h := .rows _ _) (plainPrs _)).trans (renH_plain _ (h := .rows _ _) (plainPrs _)).symm | ((conv => whnf); refine ⟨?_, ?_⟩))) rfl rfl ?_
  rintro r O nx ⟨j4, hj4, rfl, rfl, rfl⟩
  have h5 : R.length ≤ (R ++ List.replicate j4 zeroQd).length := by simp
  have h6 : R.length * 224 ≤ 140737488351232 := by omega
  have h4 : (R ++ List.replicate j4 zeroQd).length ≤ 1152921504606846976 := by simp; omega
  conv => whnf
  repeat' ((first | with_reducible refine IF.tt ?_ | with_reducible refine IF.ff ?_ | refine NEED.au ?_ | ((with_reducible apply GET.at); rfl) | ((with_reducible apply GETG.at); rfl) | ((with_reducible refine UNK.mk (fun h => ?_) ?_) <;> try (exfalso; omega)) | ((with_reducible refine IF.mk (fun h => ?_) (fun h => ?_)) <;> (try simp (disch := omega) only [hsB, hsC, lnB, wrap64, wrap32, simprocAttr] at h) <;> try (exfalso; omega))) <;> conv => whnf)
  refine CALL.at [0] (eT) rfl rfl rfl rfl (by first | rfl | (simp only [belowO, belowH, plainLL_below _ (plainQds _), Bool.and_self, Bool.and_true] <;> rfl)) (by first | rfl | (simp only [belowO, belowH, plainLL_below _ (plainQds _), Bool.and_self, Bool.and_true] <;> rfl)) (by repeat' (first | exact trivial | exact (renH_plain _ (h := .rows _ _) (plainQds _)).symm | exact rfl | exact (renH_plain _ (h := .rows _ _) (plainQds _)).trans (renH_plain _ (h := .rows _ _) (plainQds _)).symm | ((conv => whnf); refine ⟨?_, ?_⟩))) (by repeat' (first | exact trivial | exact (renH_plain _ (h := .rows _ _) (plainQds _)).symm | exact rfl | exact (renH_plain _ (h := .rows _ _) (plainQds _)).trans (renH_plain _ (h := .rows _ _) (plainQds _)).symm | ((conv => whnf); refine ⟨?_, ?_⟩))) rfl rfl ?_
  rintro r O nx ⟨rfl, rfl, rfl⟩
  conv => whnf
  repeat' ((first | with_reducible refine IF.tt ?_ | with_reducible refine IF.ff ?_ | refine NEED.au ?_ | ((with_reducible apply GET.at); rfl) | ((with_reducible apply GETG.at); rfl) | ((with_reducible refine UNK.mk (fun h => ?_) ?_) <;> try (exfalso; omega)) | ((with_reducible refine IF.mk (fun h => ?_) (fun h => ?_)) <;> (try simp (disch := omega) only [hsB, hsC, lnB, wrap64, wrap32, simprocAttr] at h) <;> try (exfalso; omega))) <;> conv => whnf)
  refine CALL.at [7, 11] (sameT_self T (List.replicate j1 zeroTm) (some T.length) none h1) rfl rfl rfl rfl (by first | rfl | (simp only [belowO, belowH, plainLL_below _ (plainTms _), Bool.and_self, Bool.and_true] <;> rfl)) (by first | rfl | (simp only [belowO, belowH, plainLL_below _ (plainTms _), Bool.and_self, Bool.and_true] <;> rfl)) (by repeat' (first | exact trivial | exact (renH_plain _ (h := .rows _ _) (plainTms _)).symm | exact rfl | exact (renH_plain _ (h := .rows _ _) (plainTms _)).trans (renH_plain _ (h := .rows _ _) (plainTms _)).symm | ((conv => whnf); refine ⟨?_, ?_⟩))) (by repeat' (first | exact trivial | exact (renH_plain _ (h := .rows _ _) (plainTms _)).symm | exact rfl | exact (renH_plain _ (h := .rows _ _) (plainTms _)).trans (renH_plain _ (h := .rows _ _) (plainTms _)).symm | ((conv => whnf); refine ⟨?_, ?_⟩))) rfl rfl ?_
  rintro r O nx ⟨rfl, rfl, rfl⟩
  conv => whnf
  repeat' ((first | with_reducible refine IF.tt ?_ | with_reducible refine IF.ff ?_ | refine NEED.au ?_ | ((with_reducible apply GET.at); rfl) | ((with_reducible apply GETG.at); rfl) | ((with_reducible refine UNK.mk (fun h => ?_) ?_) <;> try (exfalso; omega)) | ((with_reducible refine IF.mk (fun h => ?_) (fun h => ?_)) <;> (try simp (disch := omega) only [hsB, hsC, lnB, wrap64, wrap32, simprocAttr] at h) <;> try (exfalso; omega))) <;> conv => whnf)
  refine CALL.at [0] (eG) rfl rfl rfl rfl (by first | rfl | (simp only [belowO, belowH, plainLL_below _ (plainQds _), Bool.and_self, Bool.and_true] <;> rfl)) (by first | rfl | (simp only [belowO, belowH, plainLL_below _ (plainQds _), Bool.and_self, Bool.and_true] <;> rfl)) (by repeat' (first | exact trivial | exact (renH_plain _ (h := .rows _ _) (plainQds _)).symm | exact rfl | exact (renH_plain _ (h := .rows _ _) (plainQds _)).trans (renH_plain _ (h := .rows _ _) (plainQds _)).symm | ((conv => whnf); refine ⟨?_, ?_⟩))) (by repeat' (first | exact trivial | exact (renH_plain _ (h := .rows _ _) (plainQds _)).symm | exact rfl | exact (renH_plain _ (h := .rows _ _) (plainQds _)).trans (renH_plain _ (h := .rows _ _) (plainQds _)).symm | ((conv => whnf); refine ⟨?_, ?_⟩))) rfl rfl ?_
  rintro r O nx ⟨rfl, rfl, rfl⟩
  conv => whnf
  repeat' ((first | with_reducible refine IF.tt ?_ | with_reducible refine IF.ff ?_ | refine NEED.au ?_ | ((with_reducible apply GET.at); rfl) | ((with_reducible apply GETG.at); rfl) | ((with_reducible refine UNK.mk (fun h => ?_) ?_) <;> try (exfalso; omega)) | ((with_reducible refine IF.mk (fun h => ?_) (fun h => ?_)) <;> (try simp (disch := omega) only [hsB, hsC, lnB, wrap64, wrap32, simprocAttr] at h) <;> try (exfalso; omega))) <;> conv => whnf)
  refine CALL.at [8, 12] (sameT_self G (List.replicate j2 zeroTm) (some G.length) none h2) rfl rfl rfl rfl (by first | rfl | (simp only [belowO, belowH, plainLL_below _ (plainTms _), Bool.and_self, Bool.and_true] <;> rfl)) (by first | rfl | (simp only [belowO, belowH, plainLL_below _ (plainTms _), Bool.and_self, Bool.and_true] <;> rfl)) (by repeat' (first | exact trivial | exact (renH_plain _ (h := .rows _ _) (plainTms _)).symm | exact rfl | exact (renH_plain _ (h := .rows _ _) (plainTms _)).trans (renH_plain _ (h := .rows _ _) (plainTms _)).symm | ((conv => whnf); refine ⟨?_, ?_⟩))) (by repeat' (first | exact trivial | exact (renH_plain _ (h := .rows _ _) (plainTms _)).symm | exact rfl | exact (renH_plain _ (h := .rows _ _) (plainTms _)).trans (renH_plain _ (h := .rows _ _) (plainTms _)).symm | ((conv => whnf); refine ⟨?_, ?_⟩))) rfl rfl ?_
  rintro r O nx ⟨rfl, rfl, rfl⟩
  conv => whnf
  repeat' ((first | with_reducible refine IF.tt ?_ | with_reducible refine IF.ff ?_ | refine NEED.au ?_ | ((with_reducible apply GET.at); rfl) | ((with_reducible apply GETG.at); rfl) | ((with_reducible refine UNK.mk (fun h => ?_) ?_) <;> try (exfalso; omega)) | ((with_reducible refine IF.mk (fun h => ?_) (fun h => ?_)) <;> (try simp (disch := omega) only [hsB, hsC, lnB, wrap64, wrap32, simprocAttr] at h) <;> try (exfalso; omega))) <;> conv => whnf)
  refine CALL.at [0] (eB) rfl rfl rfl rfl (by first | rfl | (simp only [belowO, belowH, plainLL_below _ (plainQds _), Bool.and_self, Bool.and_true] <;> rfl)) (by first | rfl | (simp only [belowO, belowH, plainLL_below _ (plainQds _), Bool.and_self, Bool.and_true] <;> rfl)) (by repeat' (first | exact trivial | exact (renH_plain _ (h := .rows _ _) (plainQds _)).symm | exact rfl | exact (renH_plain _ (h := .rows _ _) (plainQds _)).trans (renH_plain _ (h := .rows _ _) (plainQds _)).symm | ((conv => whnf); refine ⟨?_, ?_⟩))) (by repeat' (first | exact trivial | exact (renH_plain _ (h := .rows _ _) (plainQds _)).symm | exact rfl | exact (renH_plain _ (h := .rows _ _) (plainQds _)).trans (renH_plain _ (h := .rows _ _) (plainQds _)).symm | ((conv => whnf); refine ⟨?_, ?_⟩))) rfl rfl ?_
  rintro r O nx ⟨rfl, rfl, rfl⟩
  conv => whnf
  repeat' ((first | with_reducible refine IF.tt ?_ | with_reducible refine IF.ff ?_ | refine NEED.au ?_ | ((with_reducible apply GET.at); rfl) | ((with_reducible apply GETG.at); rfl) | ((with_reducible refine UNK.mk (fun h => ?_) ?_) <;> try (exfalso; omega)) | ((with_reducible refine IF.mk (fun h => ?_) (fun h => ?_)) <;> (try simp (disch := omega) only [hsB, hsC, lnB, wrap64, wrap32, simprocAttr] at h) <;> try (exfalso; omega))) <;> conv => whnf)
  refine CALL.at [9, 13] (sameS_self B (List.replicate j3 ([] : List UInt8)) (some B.length) none h3) rfl rfl rfl rfl (by first | rfl | (simp only [belowO, belowH, plainLL_below _ (plainStrsS _), Bool.and_self, Bool.and_true] <;> rfl)) (by first | rfl | (simp only [belowO, belowH, plainLL_below _ (plainStrsS _), Bool.and_self, Bool.and_true] <;> rfl)) (by repeat' (first | exact trivial | exact (renH_plain _ (h := .rows _ _) (plainStrsS _)).symm | exact rfl | exact (renH_plain _ (h := .rows _ _) (plainStrsS _)).trans (renH_plain _ (h := .rows _ _) (plainStrsS _)).symm | ((conv => whnf); refine ⟨?_, ?_⟩))) (by repeat' (first | exact trivial | exact (renH_plain _ (h := .rows _ _) (plainStrsS _)).symm | exact rfl | exact (renH_plain _ (h := .rows _ _) (plainStrsS _)).trans (renH_plain _ (h := .rows _ _) (plainStrsS _)).symm | ((conv => whnf); refine ⟨?_, ?_⟩))) rfl rfl ?_
  rintro r O nx ⟨rfl, rfl, rfl⟩
  conv => whnf
  repeat' ((first | with_reducible refine IF.tt ?_ | with_reducible refine IF.ff ?_ | refine NEED.au ?_ | ((with_reducible apply GET.at); rfl) | ((with_reducible apply GETG.at); rfl) | ((with_reducible refine UNK.mk (fun h => ?_) ?_) <;> try (exfalso; omega)) | ((with_reducible refine IF.mk (fun h => ?_) (fun h => ?_)) <;> (try simp (disch := omega) only [hsB, hsC, lnB, wrap64, wrap32, simprocAttr] at h) <;> try (exfalso; omega))) <;> conv => whnf)
  refine CALL.at [0, 1] (eR) rfl rfl rfl rfl (by (repeat' (first | (refine belowO_cons rfl ?_ ?_) | exact belowH_rows (plainQds _) | exact belowH_rows (plainPrs _) | rfl))) (by (repeat' (first | (refine belowO_cons rfl ?_ ?_) | exact belowH_rows (plainQds _) | exact belowH_rows (plainPrs _) | rfl))) (by repeat' (first | exact trivial | exact (renH_plain _ (h := .rows _ _) (plainQds _)).symm | exact (renH_plain _ (h := .rows _ _) (plainPrs _)).symm | exact rfl | exact (renH_plain _ (h := .rows _ _) (plainQds _)).trans (renH_plain _ (h := .rows _ _) (plainQds _)).symm | exact (renH_plain _ (h := .rows _ _) (plainPrs _)).trans (renH_plain _ (h := .rows _ _) (plainPrs _)).symm | ((conv => whnf); refine ⟨?_, ?_⟩))) (by repeat' (first | exact trivial | exact (renH_plain _ (h := .rows _ _) (plainQds _)).symm | exact (renH_plain _ (h := .rows _ _) (plainPrs _)).symm | exact rfl | exact (renH_plain _ (h := .rows _ _) (plainQds _)).trans (renH_plain _ (h := .rows _ _) (plainQds _)).symm | exact (renH_plain _ (h := .rows _ _) (plainPrs _)).trans (renH_plain _ (h := .rows _ _) (plainPrs _)).symm | ((conv => whnf); refine ⟨?_, ?_⟩))) rfl rfl ?_
  rintro r O nx ⟨rfl, rfl, rfl⟩
  conv => whnf
  repeat' ((first | with_reducible refine IF.tt ?_ | with_reducible refine IF.ff ?_ | refine NEED.au ?_ | ((with_reducible apply GET.at); rfl) | ((with_reducible apply GETG.at); rfl) | ((with_reducible refine UNK.mk (fun h => ?_) ?_) <;> try (exfalso; omega)) | ((with_reducible refine IF.mk (fun h => ?_) (fun h => ?_)) <;> (try simp (disch := omega) only [hsB, hsC, lnB, wrap64, wrap32, simprocAttr] at h) <;> try (exfalso; omega))) <;> conv => whnf)
  refine CALL.at [10, 14] (sameQ_self R (List.replicate j4 zeroQd) (some R.length) none h4) rfl rfl rfl rfl (by first | rfl | (simp only [belowO, belowH, plainLL_below _ (plainQds _), Bool.and_self, Bool.and_true] <;> rfl)) (by first | rfl | (simp only [belowO, belowH, plainLL_below _ (plainQds _), Bool.and_self, Bool.and_true] <;> rfl)) (by repeat' (first | exact trivial | exact (renH_plain _ (h := .rows _ _) (plainQds _)).symm | exact rfl | exact (renH_plain _ (h := .rows _ _) (plainQds _)).trans (renH_plain _ (h := .rows _ _) (plainQds _)).symm | ((conv => whnf); refine ⟨?_, ?_⟩))) (by repeat' (first | exact trivial | exact (renH_plain _ (h := .rows _ _) (plainQds _)).symm | exact rfl | exact (renH_plain _ (h := .rows _ _) (plainQds _)).trans (renH_plain _ (h := .rows _ _) (plainQds _)).symm | ((conv => whnf); refine ⟨?_, ?_⟩))) rfl rfl ?_
  rintro r O nx ⟨rfl, rfl, rfl⟩
  conv => whnf
  repeat' ((first | with_reducible refine IF.tt ?_ | with_reducible refine IF.ff ?_ | refine NEED.au ?_ | ((with_reducible apply GET.at); rfl) | ((with_reducible apply GETG.at); rfl) | ((with_reducible refine UNK.mk (fun h => ?_) ?_) <;> try (exfalso; omega)) | ((with_reducible refine IF.mk (fun h => ?_) (fun h => ?_)) <;> (try simp (disch := omega) only [hsB, hsC, lnB, wrap64, wrap32, simprocAttr] at h) <;> try (exfalso; omega))) <;> conv => whnf)
  obtain ⟨LT, hLT⟩ : ∃ L, L = T ++ List.replicate j1 zeroTm := ⟨_, rfl⟩
  obtain ⟨LG, hLG⟩ : ∃ L, L = G ++ List.replicate j2 zeroTm := ⟨_, rfl⟩
  have hLTl : T.length ≤ LT.length := by rw [hLT]; simp
  have hLGl : G.length ≤ LG.length := by rw [hLG]; simp
  rw [← hLT, ← hLG]
  refine LOOP.gok tabOK [0, 1, 5, 6, 7, 8, 10] [2, 6, 7, 8, 10] (X := Nat) (fun i => i ≤ ps.length) (fun i => [(11, .int .i64 (i : Int))]) (fun i => []) 15 (fun i => ps.length - i) 0 (by omega) ?_
  conv => whnf
  refine ⟨by (refine GOES.cutting h0 rfl rfl rfl (by (repeat' (first | (refine belowO_cons rfl ?_ ?_) | exact belowH_rows (plainQds _) | exact belowH_renrows (plainQds _) | exact belowH_rows (plainPrs _) | exact belowH_renrows (plainPrs _) | exact belowH_rows (plainTms _) | exact belowH_renrows (plainTms _) | rfl))) ?_ ?_ <;> (repeat' (first | (with_reducible rfl) | exact trivial | (exact sl_eq rfl (by first | omega | (simp (disch := omega) only [lnB, wrap64, wrap32] <;> omega) | (simp; done) | (simp <;> omega))) | (exact congrArg (SV.int _) (by first | omega | (simp (disch := omega) only [lnB, wrap64, wrap32] <;> omega) | (simp; done) | (simp <;> omega))) | (exact box_int (by first | omega | (simp (disch := omega) only [lnB, wrap64, wrap32] <;> omega) | (simp; done) | (simp <;> omega))) | (exact box_sl (by first | omega | (simp (disch := omega) only [lnB, wrap64, wrap32] <;> omega) | (simp; done) | (simp <;> omega))) | (exact renH_plain _ (h := .rows _ _) (plainQds _)) | (exact renH_plain _ (h := .rows _ _) (plainPrs _)) | (exact renH_plain _ (h := .rows _ _) (plainTms _)) | (exact congrArg (Hp.rows _) (by rfl)) | ((conv => whnf); refine ⟨?_, ?_⟩) | rfl))), ?_⟩
  intro i hi
  conv => whnf
  by_cases hil : i < ps.length
  · have g1 : ((ps ++ [markPr]).map prRow)[0 + (i : Int).toNat]? = some (prRow ps[i]) := pr_get hil (by omega)
    have g2 : (ps.map prRow)[0 + (i : Int).toNat]? = some (prRow ps[i]) := by rw [List.getElem?_map, show 0 + (i : Int).toNat = i by omega, List.getElem?_eq_getElem hil]; rfl
    repeat' ((first | with_reducible refine IF.tt ?_ | with_reducible refine IF.ff ?_ | refine DRAWN.of (id := 10) tabOK mixed plLawLists0 (by kernel_rfl) ?_ | with_reducible refine ADD.mk (fun _ _ => ?_) | with_reducible refine NEED.mk (Det.of rfl) ?_ | refine NEED.mk (det_pos (by omega)) ?_ | with_reducible refine FORK.mk ?_ ?_ | (refine GET.at (row := prRow (ps[i]'(by omega))) g1 ?_; conv => whnf) | (refine GET.at (row := prRow (ps[i]'(by omega))) g2 ?_; conv => whnf) | refine NEED.au ?_ | ((with_reducible apply GET.at); rfl) | ((with_reducible apply GETG.at); rfl) | ((with_reducible refine UNK.mk (fun h => ?_) ?_) <;> try (exfalso; omega)) | ((with_reducible refine IF.mk (fun h => ?_) (fun h => ?_)) <;> (try simp (disch := omega) only [hsB, hsC, lnB, wrap64, wrap32, simprocAttr] at h) <;> try (exfalso; omega))) <;> conv => whnf)
    all_goals first
      | (exfalso; simp at h; done)
      | (refine ⟨i + 1, by omega, by omega, ?_⟩; (conv => whnf); (refine GOES.cutting h0 rfl rfl rfl (by (repeat' (first | (refine belowO_cons rfl ?_ ?_) | exact belowH_rows (plainQds _) | exact belowH_renrows (plainQds _) | exact belowH_rows (plainPrs _) | exact belowH_renrows (plainPrs _) | exact belowH_rows (plainTms _) | exact belowH_renrows (plainTms _) | rfl))) ?_ ?_ <;> (repeat' (first | (with_reducible rfl) | exact trivial | (exact sl_eq rfl (by first | omega | (simp (disch := omega) only [lnB, wrap64, wrap32] <;> omega) | (simp; done) | (simp <;> omega))) | (exact congrArg (SV.int _) (by first | omega | (simp (disch := omega) only [lnB, wrap64, wrap32] <;> omega) | (simp; done) | (simp <;> omega))) | (exact box_int (by first | omega | (simp (disch := omega) only [lnB, wrap64, wrap32] <;> omega) | (simp; done) | (simp <;> omega))) | (exact box_sl (by first | omega | (simp (disch := omega) only [lnB, wrap64, wrap32] <;> omega) | (simp; done) | (simp <;> omega))) | (exact renH_plain _ (h := .rows _ _) (plainQds _)) | (exact renH_plain _ (h := .rows _ _) (plainPrs _)) | (exact renH_plain _ (h := .rows _ _) (plainTms _)) | (exact congrArg (Hp.rows _) (by rfl)) | ((conv => whnf); refine ⟨?_, ?_⟩) | rfl))); done)
      | trace_state
  have hie : i = ps.length := by omega
  subst hie
  repeat' ((first | with_reducible refine IF.tt ?_ | with_reducible refine IF.ff ?_ | refine NEED.au ?_ | ((with_reducible apply GET.at); rfl) | ((with_reducible apply GETG.at); rfl) | ((with_reducible refine UNK.mk (fun h => ?_) ?_) <;> try (exfalso; omega)) | ((with_reducible refine IF.mk (fun h => ?_) (fun h => ?_)) <;> (try simp (disch := omega) only [hsB, hsC, lnB, wrap64, wrap32, simprocAttr] at h) <;> try (exfalso; omega))) <;> conv => whnf)
  refine CALL.at [10] (overL_does (R ++ List.replicate j4 zeroQd) R.length h5 (some R.length) h6 h4 (.inr rfl)) rfl rfl rfl rfl (by first | rfl | (simp only [belowO, belowH, plainLL_below _ (plainQds _), Bool.and_self, Bool.and_true] <;> rfl)) (by first | rfl | (simp only [belowO, belowH, plainLL_below _ (plainQds _), Bool.and_self, Bool.and_true] <;> rfl)) (by repeat' (first | exact trivial | exact (renH_plain _ (h := .rows _ _) (plainQds _)).symm | exact rfl | exact (renH_plain _ (h := .rows _ _) (plainQds _)).trans (renH_plain _ (h := .rows _ _) (plainQds _)).symm | ((conv => whnf); refine ⟨?_, ?_⟩))) (by repeat' (first | exact trivial | exact (renH_plain _ (h := .rows _ _) (plainQds _)).symm | exact rfl | exact (renH_plain _ (h := .rows _ _) (plainQds _)).trans (renH_plain _ (h := .rows _ _) (plainQds _)).symm | ((conv => whnf); refine ⟨?_, ?_⟩))) rfl rfl ?_
  rintro r O nx ⟨rfl, rfl, rfl⟩
  conv => whnf
  repeat' ((first | with_reducible refine IF.tt ?_ | with_reducible refine IF.ff ?_ | refine NEED.au ?_ | ((with_reducible apply GET.at); rfl) | ((with_reducible apply GETG.at); rfl) | ((with_reducible refine UNK.mk (fun h => ?_) ?_) <;> try (exfalso; omega)) | ((with_reducible refine IF.mk (fun h => ?_) (fun h => ?_)) <;> (try simp (disch := omega) only [hsB, hsC, lnB, wrap64, wrap32, simprocAttr] at h) <;> try (exfalso; omega))) <;> conv => whnf)
  refine LOOP.gok tabOK [0, 1, 5, 6, 7, 8] [2, 6, 8] (X := List Tm) (fun C => C.length ≤ T.length) (fun C => [(12, .int .i64 (C.length : Int))]) (fun C => [(7, .rows 4 ((C ++ LT.drop C.length).map tmRow))]) 15 (fun C => T.length - C.length) [] (by simp) ?_
  conv => whnf
  refine ⟨by (refine GOES.cutting h0 rfl rfl rfl (by (repeat' (first | (refine belowO_cons rfl ?_ ?_) | exact belowH_rows (plainQds _) | exact belowH_renrows (plainQds _) | exact belowH_rows (plainPrs _) | exact belowH_renrows (plainPrs _) | exact belowH_rows (plainTms _) | exact belowH_renrows (plainTms _) | rfl))) ?_ ?_ <;> (repeat' (first | (with_reducible rfl) | exact trivial | (exact sl_eq rfl (by first | omega | (simp (disch := omega) only [lnB, wrap64, wrap32] <;> omega) | (simp; done) | (simp <;> omega))) | (exact congrArg (SV.int _) (by first | omega | (simp (disch := omega) only [lnB, wrap64, wrap32] <;> omega) | (simp; done) | (simp <;> omega))) | (exact box_int (by first | omega | (simp (disch := omega) only [lnB, wrap64, wrap32] <;> omega) | (simp; done) | (simp <;> omega))) | (exact box_sl (by first | omega | (simp (disch := omega) only [lnB, wrap64, wrap32] <;> omega) | (simp; done) | (simp <;> omega))) | (exact renH_plain _ (h := .rows _ _) (plainQds _)) | (exact renH_plain _ (h := .rows _ _) (plainPrs _)) | (exact renH_plain _ (h := .rows _ _) (plainTms _)) | (exact congrArg (Hp.rows _) (by rfl)) | ((conv => whnf); refine ⟨?_, ?_⟩) | rfl))), ?_⟩
  intro C hC
  conv => whnf
  by_cases hCl : C.length < T.length
  · have hg : ((C ++ LT.drop C.length).map tmRow)[0 + (C.length : Int).toNat]? = some (tmRow (LT[C.length]'(by omega))) := by
      rw [Nat.zero_add, Int.toNat_natCast]; exact mid_at tmRow (Nat.le_refl _) (by omega)
    repeat' ((first | with_reducible refine IF.tt ?_ | with_reducible refine IF.ff ?_ | (refine GET.at (row := tmRow (LT[C.length]'(by omega))) hg ?_; conv => whnf) | refine NEED.au ?_ | ((with_reducible apply GET.at); rfl) | ((with_reducible apply GETG.at); rfl) | ((with_reducible refine UNK.mk (fun h => ?_) ?_) <;> try (exfalso; omega)) | ((with_reducible refine IF.mk (fun h => ?_) (fun h => ?_)) <;> (try simp (disch := omega) only [hsB, hsC, lnB, wrap64, wrap32, simprocAttr] at h) <;> try (exfalso; omega))) <;> conv => whnf)
    refine ⟨C ++ [ovT], by simp; omega, by simp; omega, ?_⟩
    conv => whnf
    (refine GOES.cutting h0 rfl rfl rfl (by (repeat' (first | (refine belowO_cons rfl ?_ ?_) | exact belowH_rows (plainQds _) | exact belowH_renrows (plainQds _) | exact belowH_rows (plainPrs _) | exact belowH_renrows (plainPrs _) | exact belowH_rows (plainTms _) | exact belowH_renrows (plainTms _) | rfl))) ?_ ?_ <;> (repeat' (first | (with_reducible rfl) | exact trivial | (exact sl_eq rfl (by first | omega | (simp (disch := omega) only [lnB, wrap64, wrap32] <;> omega) | (simp; done) | (simp <;> omega))) | (exact congrArg (SV.int _) (by first | omega | (simp (disch := omega) only [lnB, wrap64, wrap32] <;> omega) | (simp; done) | (simp <;> omega))) | (exact box_int (by first | omega | (simp (disch := omega) only [lnB, wrap64, wrap32] <;> omega) | (simp; done) | (simp <;> omega))) | (exact box_sl (by first | omega | (simp (disch := omega) only [lnB, wrap64, wrap32] <;> omega) | (simp; done) | (simp <;> omega))) | (exact renH_plain _ (h := .rows _ _) (plainQds _)) | (exact renH_plain _ (h := .rows _ _) (plainPrs _)) | (exact renH_plain _ (h := .rows _ _) (plainTms _)) | (exact congrArg (Hp.rows _) (by first | exact mid_setZ ovT (by omega) | rfl)) | ((conv => whnf); refine ⟨?_, ?_⟩) | rfl)))
  have hCe : C.length = T.length := by omega
  repeat' ((first | with_reducible refine IF.tt ?_ | with_reducible refine IF.ff ?_ | refine NEED.au ?_ | ((with_reducible apply GET.at); rfl) | ((with_reducible apply GETG.at); rfl) | ((with_reducible refine UNK.mk (fun h => ?_) ?_) <;> try (exfalso; omega)) | ((with_reducible refine IF.mk (fun h => ?_) (fun h => ?_)) <;> (try simp (disch := omega) only [hsB, hsC, lnB, wrap64, wrap32, simprocAttr] at h) <;> try (exfalso; omega))) <;> conv => whnf)
  refine LOOP.gok tabOK [0, 1, 5, 6, 8] [2, 6] (X := List Tm) (fun C => C.length ≤ G.length) (fun C => [(13, .int .i64 (C.length : Int))]) (fun C => [(8, .rows 4 ((C ++ LG.drop C.length).map tmRow))]) 15 (fun C => G.length - C.length) [] (by simp) ?_
  conv => whnf
  refine ⟨by (refine GOES.cutting h0 rfl rfl rfl (by (repeat' (first | (refine belowO_cons rfl ?_ ?_) | exact belowH_rows (plainQds _) | exact belowH_renrows (plainQds _) | exact belowH_rows (plainPrs _) | exact belowH_renrows (plainPrs _) | exact belowH_rows (plainTms _) | exact belowH_renrows (plainTms _) | rfl))) ?_ ?_ <;> (repeat' (first | (with_reducible rfl) | exact trivial | (exact sl_eq rfl (by first | omega | (simp (disch := omega) only [lnB, wrap64, wrap32] <;> omega) | (simp; done) | (simp <;> omega))) | (exact congrArg (SV.int _) (by first | omega | (simp (disch := omega) only [lnB, wrap64, wrap32] <;> omega) | (simp; done) | (simp <;> omega))) | (exact box_int (by first | omega | (simp (disch := omega) only [lnB, wrap64, wrap32] <;> omega) | (simp; done) | (simp <;> omega))) | (exact box_sl (by first | omega | (simp (disch := omega) only [lnB, wrap64, wrap32] <;> omega) | (simp; done) | (simp <;> omega))) | (exact renH_plain _ (h := .rows _ _) (plainQds _)) | (exact renH_plain _ (h := .rows _ _) (plainPrs _)) | (exact renH_plain _ (h := .rows _ _) (plainTms _)) | (exact congrArg (Hp.rows _) (by rfl)) | ((conv => whnf); refine ⟨?_, ?_⟩) | rfl))), ?_⟩
  intro D hD
  conv => whnf
  by_cases hDl : D.length < G.length
  · have hg : ((D ++ LG.drop D.length).map tmRow)[0 + (D.length : Int).toNat]? = some (tmRow (LG[D.length]'(by omega))) := by
      rw [Nat.zero_add, Int.toNat_natCast]; exact mid_at tmRow (Nat.le_refl _) (by omega)
    repeat' ((first | with_reducible refine IF.tt ?_ | with_reducible refine IF.ff ?_ | (refine GET.at (row := tmRow (LG[D.length]'(by omega))) hg ?_; conv => whnf) | refine NEED.au ?_ | ((with_reducible apply GET.at); rfl) | ((with_reducible apply GETG.at); rfl) | ((with_reducible refine UNK.mk (fun h => ?_) ?_) <;> try (exfalso; omega)) | ((with_reducible refine IF.mk (fun h => ?_) (fun h => ?_)) <;> (try simp (disch := omega) only [hsB, hsC, lnB, wrap64, wrap32, simprocAttr] at h) <;> try (exfalso; omega))) <;> conv => whnf)
    refine ⟨D ++ [ovG], by simp; omega, by simp; omega, ?_⟩
    conv => whnf
    (refine GOES.cutting h0 rfl rfl rfl (by (repeat' (first | (refine belowO_cons rfl ?_ ?_) | exact belowH_rows (plainQds _) | exact belowH_renrows (plainQds _) | exact belowH_rows (plainPrs _) | exact belowH_renrows (plainPrs _) | exact belowH_rows (plainTms _) | exact belowH_renrows (plainTms _) | rfl))) ?_ ?_ <;> (repeat' (first | (with_reducible rfl) | exact trivial | (exact sl_eq rfl (by first | omega | (simp (disch := omega) only [lnB, wrap64, wrap32] <;> omega) | (simp; done) | (simp <;> omega))) | (exact congrArg (SV.int _) (by first | omega | (simp (disch := omega) only [lnB, wrap64, wrap32] <;> omega) | (simp; done) | (simp <;> omega))) | (exact box_int (by first | omega | (simp (disch := omega) only [lnB, wrap64, wrap32] <;> omega) | (simp; done) | (simp <;> omega))) | (exact box_sl (by first | omega | (simp (disch := omega) only [lnB, wrap64, wrap32] <;> omega) | (simp; done) | (simp <;> omega))) | (exact renH_plain _ (h := .rows _ _) (plainQds _)) | (exact renH_plain _ (h := .rows _ _) (plainPrs _)) | (exact renH_plain _ (h := .rows _ _) (plainTms _)) | (exact congrArg (Hp.rows _) (by first | exact mid_setZ ovG (by omega) | rfl)) | ((conv => whnf); refine ⟨?_, ?_⟩) | rfl)))
  repeat' ((first | with_reducible refine IF.tt ?_ | with_reducible refine IF.ff ?_ | refine NEED.au ?_ | ((with_reducible apply GET.at); rfl) | ((with_reducible apply GETG.at); rfl) | ((with_reducible refine UNK.mk (fun h => ?_) ?_) <;> try (exfalso; omega)) | ((with_reducible refine IF.mk (fun h => ?_) (fun h => ?_)) <;> (try simp (disch := omega) only [hsB, hsC, lnB, wrap64, wrap32, simprocAttr] at h) <;> try (exfalso; omega))) <;> conv => whnf)
  have gM : ((ps ++ [markPr]).map prRow)[0 + (ps.length : Int).toNat]? = some (prRow markPr) := by simp
  have LTz : (T ++ List.replicate j1 zeroTm).length ≤ 1152921504606846976 := h1
  refine CALL.at [0, 2] (kept) rfl rfl rfl rfl (by first | rfl | (simp only [belowO, belowH, plainLL_below _ (plainQds _), Bool.and_self, Bool.and_true] <;> rfl)) (by first | rfl | (simp only [belowO, belowH, plainLL_below _ (plainQds _), Bool.and_self, Bool.and_true] <;> rfl)) (by repeat' (first | exact trivial | exact (renH_plain _ (h := .rows _ _) (plainQds _)).symm | exact rfl | exact (renH_plain _ (h := .rows _ _) (plainQds _)).trans (renH_plain _ (h := .rows _ _) (plainQds _)).symm | ((conv => whnf); refine ⟨?_, ?_⟩))) (by repeat' (first | exact trivial | exact (renH_plain _ (h := .rows _ _) (plainQds _)).symm | exact rfl | exact (renH_plain _ (h := .rows _ _) (plainQds _)).trans (renH_plain _ (h := .rows _ _) (plainQds _)).symm | ((conv => whnf); refine ⟨?_, ?_⟩))) rfl rfl ?_
  rintro r O nx ⟨rfl, rfl, rfl⟩
  conv => whnf
  repeat' ((first | with_reducible refine IF.tt ?_ | with_reducible refine IF.ff ?_ | (refine GET.at (row := prRow markPr) gM ?_; conv => whnf) | refine NEED.au ?_ | ((with_reducible apply GET.at); rfl) | ((with_reducible apply GETG.at); rfl) | ((with_reducible refine UNK.mk (fun h => ?_) ?_) <;> try (exfalso; omega)) | ((with_reducible refine IF.mk (fun h => ?_) (fun h => ?_)) <;> (try simp (disch := omega) only [hsB, hsC, lnB, wrap64, wrap32, simprocAttr] at h) <;> try (exfalso; omega))) <;> conv => whnf)
  refine CALL.at [2] (dT) rfl rfl rfl rfl (by first | rfl | (simp only [belowO, belowH, plainLL_below _ (plainQds _), Bool.and_self, Bool.and_true] <;> rfl)) (by first | rfl | (simp only [belowO, belowH, plainLL_below _ (plainQds _), Bool.and_self, Bool.and_true] <;> rfl)) (by repeat' (first | exact trivial | exact (renH_plain _ (h := .rows _ _) (plainQds _)).symm | exact rfl | exact (renH_plain _ (h := .rows _ _) (plainQds _)).trans (renH_plain _ (h := .rows _ _) (plainQds _)).symm | ((conv => whnf); refine ⟨?_, ?_⟩))) (by repeat' (first | exact trivial | exact (renH_plain _ (h := .rows _ _) (plainQds _)).symm | exact rfl | exact (renH_plain _ (h := .rows _ _) (plainQds _)).trans (renH_plain _ (h := .rows _ _) (plainQds _)).symm | ((conv => whnf); refine ⟨?_, ?_⟩))) rfl rfl ?_
  rintro r O nx ⟨j5, hj5, rfl, rfl, rfl⟩
  have h7 : (T ++ List.replicate j5 zeroTm).length ≤ 1152921504606846976 := by simp; omega
  conv => whnf
  repeat' ((first | with_reducible refine IF.tt ?_ | with_reducible refine IF.ff ?_ | refine NEED.au ?_ | ((with_reducible apply GET.at); rfl) | ((with_reducible apply GETG.at); rfl) | ((with_reducible refine UNK.mk (fun h => ?_) ?_) <;> try (exfalso; omega)) | ((with_reducible refine IF.mk (fun h => ?_) (fun h => ?_)) <;> (try simp (disch := omega) only [hsB, hsC, lnB, wrap64, wrap32, simprocAttr] at h) <;> try (exfalso; omega))) <;> conv => whnf)
  refine CALL.at [0] (eT) rfl rfl rfl rfl (by first | rfl | (simp only [belowO, belowH, plainLL_below _ (plainQds _), Bool.and_self, Bool.and_true] <;> rfl)) (by first | rfl | (simp only [belowO, belowH, plainLL_below _ (plainQds _), Bool.and_self, Bool.and_true] <;> rfl)) (by repeat' (first | exact trivial | exact (renH_plain _ (h := .rows _ _) (plainQds _)).symm | exact rfl | exact (renH_plain _ (h := .rows _ _) (plainQds _)).trans (renH_plain _ (h := .rows _ _) (plainQds _)).symm | ((conv => whnf); refine ⟨?_, ?_⟩))) (by repeat' (first | exact trivial | exact (renH_plain _ (h := .rows _ _) (plainQds _)).symm | exact rfl | exact (renH_plain _ (h := .rows _ _) (plainQds _)).trans (renH_plain _ (h := .rows _ _) (plainQds _)).symm | ((conv => whnf); refine ⟨?_, ?_⟩))) rfl rfl ?_
  rintro r O nx ⟨rfl, rfl, rfl⟩
  conv => whnf
  repeat' ((first | with_reducible refine IF.tt ?_ | with_reducible refine IF.ff ?_ | refine NEED.au ?_ | ((with_reducible apply GET.at); rfl) | ((with_reducible apply GETG.at); rfl) | ((with_reducible refine UNK.mk (fun h => ?_) ?_) <;> try (exfalso; omega)) | ((with_reducible refine IF.mk (fun h => ?_) (fun h => ?_)) <;> (try simp (disch := omega) only [hsB, hsC, lnB, wrap64, wrap32, simprocAttr] at h) <;> try (exfalso; omega))) <;> conv => whnf)
  refine CALL.at [15, 16] (sameT_self T (List.replicate j5 zeroTm) (some T.length) none h7) rfl rfl rfl rfl (by first | rfl | (simp only [belowO, belowH, plainLL_below _ (plainTms _), Bool.and_self, Bool.and_true] <;> rfl)) (by first | rfl | (simp only [belowO, belowH, plainLL_below _ (plainTms _), Bool.and_self, Bool.and_true] <;> rfl)) (by repeat' (first | exact trivial | exact (renH_plain _ (h := .rows _ _) (plainTms _)).symm | exact rfl | exact (renH_plain _ (h := .rows _ _) (plainTms _)).trans (renH_plain _ (h := .rows _ _) (plainTms _)).symm | ((conv => whnf); refine ⟨?_, ?_⟩))) (by repeat' (first | exact trivial | exact (renH_plain _ (h := .rows _ _) (plainTms _)).symm | exact rfl | exact (renH_plain _ (h := .rows _ _) (plainTms _)).trans (renH_plain _ (h := .rows _ _) (plainTms _)).symm | ((conv => whnf); refine ⟨?_, ?_⟩))) rfl rfl ?_
  rintro r O nx ⟨rfl, rfl, rfl⟩
  conv => whnf
  repeat' ((first | with_reducible refine IF.tt ?_ | with_reducible refine IF.ff ?_ | refine NEED.au ?_ | ((with_reducible apply GET.at); rfl) | ((with_reducible apply GETG.at); rfl) | ((with_reducible refine UNK.mk (fun h => ?_) ?_) <;> try (exfalso; omega)) | ((with_reducible refine IF.mk (fun h => ?_) (fun h => ?_)) <;> (try simp (disch := omega) only [hsB, hsC, lnB, wrap64, wrap32, simprocAttr] at h) <;> try (exfalso; omega))) <;> conv => whnf)
  refine CALL.at [2] (dG) rfl rfl rfl rfl (by first | rfl | (simp only [belowO, belowH, plainLL_below _ (plainQds _), Bool.and_self, Bool.and_true] <;> rfl)) (by first | rfl | (simp only [belowO, belowH, plainLL_below _ (plainQds _), Bool.and_self, Bool.and_true] <;> rfl)) (by repeat' (first | exact trivial | exact (renH_plain _ (h := .rows _ _) (plainQds _)).symm | exact rfl | exact (renH_plain _ (h := .rows _ _) (plainQds _)).trans (renH_plain _ (h := .rows _ _) (plainQds _)).symm | ((conv => whnf); refine ⟨?_, ?_⟩))) (by repeat' (first | exact trivial | exact (renH_plain _ (h := .rows _ _) (plainQds _)).symm | exact rfl | exact (renH_plain _ (h := .rows _ _) (plainQds _)).trans (renH_plain _ (h := .rows _ _) (plainQds _)).symm | ((conv => whnf); refine ⟨?_, ?_⟩))) rfl rfl ?_
  rintro r O nx ⟨j6, hj6, rfl, rfl, rfl⟩
  have h8 : (G ++ List.replicate j6 zeroTm).length ≤ 1152921504606846976 := by simp; omega
  conv => whnf
  repeat' ((first | with_reducible refine IF.tt ?_ | with_reducible refine IF.ff ?_ | refine NEED.au ?_ | ((with_reducible apply GET.at); rfl) | ((with_reducible apply GETG.at); rfl) | ((with_reducible refine UNK.mk (fun h => ?_) ?_) <;> try (exfalso; omega)) | ((with_reducible refine IF.mk (fun h => ?_) (fun h => ?_)) <;> (try simp (disch := omega) only [hsB, hsC, lnB, wrap64, wrap32, simprocAttr] at h) <;> try (exfalso; omega))) <;> conv => whnf)
  refine CALL.at [0] (eG) rfl rfl rfl rfl (by first | rfl | (simp only [belowO, belowH, plainLL_below _ (plainQds _), Bool.and_self, Bool.and_true] <;> rfl)) (by first | rfl | (simp only [belowO, belowH, plainLL_below _ (plainQds _), Bool.and_self, Bool.and_true] <;> rfl)) (by repeat' (first | exact trivial | exact (renH_plain _ (h := .rows _ _) (plainQds _)).symm | exact rfl | exact (renH_plain _ (h := .rows _ _) (plainQds _)).trans (renH_plain _ (h := .rows _ _) (plainQds _)).symm | ((conv => whnf); refine ⟨?_, ?_⟩))) (by repeat' (first | exact trivial | exact (renH_plain _ (h := .rows _ _) (plainQds _)).symm | exact rfl | exact (renH_plain _ (h := .rows _ _) (plainQds _)).trans (renH_plain _ (h := .rows _ _) (plainQds _)).symm | ((conv => whnf); refine ⟨?_, ?_⟩))) rfl rfl ?_
  rintro r O nx ⟨rfl, rfl, rfl⟩
  conv => whnf
  repeat' ((first | with_reducible refine IF.tt ?_ | with_reducible refine IF.ff ?_ | refine NEED.au ?_ | ((with_reducible apply GET.at); rfl) | ((with_reducible apply GETG.at); rfl) | ((with_reducible refine UNK.mk (fun h => ?_) ?_) <;> try (exfalso; omega)) | ((with_reducible refine IF.mk (fun h => ?_) (fun h => ?_)) <;> (try simp (disch := omega) only [hsB, hsC, lnB, wrap64, wrap32, simprocAttr] at h) <;> try (exfalso; omega))) <;> conv => whnf)
  refine CALL.at [17, 18] (sameT_self G (List.replicate j6 zeroTm) (some G.length) none h8) rfl rfl rfl rfl (by first | rfl | (simp only [belowO, belowH, plainLL_below _ (plainTms _), Bool.and_self, Bool.and_true] <;> rfl)) (by first | rfl | (simp only [belowO, belowH, plainLL_below _ (plainTms _), Bool.and_self, Bool.and_true] <;> rfl)) (by repeat' (first | exact trivial | exact (renH_plain _ (h := .rows _ _) (plainTms _)).symm | exact rfl | exact (renH_plain _ (h := .rows _ _) (plainTms _)).trans (renH_plain _ (h := .rows _ _) (plainTms _)).symm | ((conv => whnf); refine ⟨?_, ?_⟩))) (by repeat' (first | exact trivial | exact (renH_plain _ (h := .rows _ _) (plainTms _)).symm | exact rfl | exact (renH_plain _ (h := .rows _ _) (plainTms _)).trans (renH_plain _ (h := .rows _ _) (plainTms _)).symm | ((conv => whnf); refine ⟨?_, ?_⟩))) rfl rfl ?_
  rintro r O nx ⟨rfl, rfl, rfl⟩
  conv => whnf
  repeat' ((first | with_reducible refine IF.tt ?_ | with_reducible refine IF.ff ?_ | refine NEED.au ?_ | ((with_reducible apply GET.at); rfl) | ((with_reducible apply GETG.at); rfl) | ((with_reducible refine UNK.mk (fun h => ?_) ?_) <;> try (exfalso; omega)) | ((with_reducible refine IF.mk (fun h => ?_) (fun h => ?_)) <;> (try simp (disch := omega) only [hsB, hsC, lnB, wrap64, wrap32, simprocAttr] at h) <;> try (exfalso; omega))) <;> conv => whnf)
  exact FIN.valueK h0 rfl rfl
  all_goals exact absurd rfl h
end Go.Proofs.Ytillkgjdbnjnoaa
/- Pairs of texts that come in, alone and in slices. Conditions: none. -/
set_option linter.unusedVariables false
set_option linter.unusedSimpArgs false
namespace Go.Proofs.Ytillkgjdbnjnoaa
open Go.RowKit Go.Our Go.ChangeShapes Go.WideShapes Go.ChangeAt Go.Sx
section
variable {H : Type} {enc : TypeId × Value → H} {w : World} {base : Nat} {sp : Nat → Bool} {held : Bool}
abbrev prL (x : Pr) : List Value := [strV x.1, strV x.2]
def prD (x : Pr) : DataW H := .agg [.lit (.string x.1), .lit (.string x.2)]
theorem cellsOfP : Try.prog.cellsOf 42 = 2 := by kernel_rfl
set_option maxRecDepth 100000 in
theorem trod_pr {fuel : Nat} {cs : List Value} {x : DataW H × List MemPlace} (h : DataW.trod enc Try.prog w base sp held fuel 42 cs = some x) :
    ∃ t : Pr, cs = prL t ∧ x = (prD t, []) := by
  cases fuel with
  | zero => simp [DataW.trod] at h
  | succ fuel =>
    simp only [DataW.trod, Try.underlying42, cellsOfP] at h
    split at h
    · rename_i hl
      match cs, hl with
      | [c0, c1], _ =>
        simp only [List.mapM_cons, List.mapM_nil, cellsOfS, List.drop_zero, List.drop_succ_cons, List.take_succ_cons, List.take_zero] at h
        simp only [Option.map_eq_some_iff, Option.bind_eq_bind, Option.bind_eq_some_iff, Option.pure_def, Option.some.injEq] at h
        obtain ⟨xs, ⟨y0, h0, r1, ⟨y1, h1, r2, rfl, rfl⟩, rfl⟩, hx⟩ := h
        obtain ⟨s1, hs1, rfl, w1⟩ := DataW.trod_string Try.underlying9 h0
        obtain ⟨s2, hs2, rfl, w2⟩ := DataW.trod_string Try.underlying9 h1
        injection hs1 with hs1 _; injection hs2 with hs2 _
        subst hs1 hs2
        exact ⟨(s1.data.toList, s2.data.toList), by show [_, _] = [strV _, strV _]; rw [strV_of, strV_of], by rw [← hx]; rfl⟩
    · cases h
theorem prRow_den (η : Env) (q : Pr) (j : Nat) (sv : SV) (h : (prRow q)[j]? = some sv) : ∃ u, (prL q)[j]? = some u ∧ u.oneCell' = true ∧ Den η sv u := by
  have hlt := (List.getElem?_eq_some_iff.1 h).1
  have hl : (prRow q).length = 2 := rfl
  rw [hl] at hlt
  match j, hlt with
  | 0, _ | 1, _ => injection h with h; subst h; exact ⟨_, rfl, rfl, by simp only [Den]⟩
set_option maxRecDepth 100000 in
theorem read_prs {v : Value} {d : DataW H} {p : List MemPlace} {r : Reach} {b0 : Nat} (ho : Value.okWide Try.prog w r b0 40 v) (h : DataW.Trod enc Try.prog w 0 (fun _ => true) true 40 v d p) :
    ∃ (l : List Pr) (en : Option Ent), SliceIn w v 2 (l.map prRow) en ∧ ((l = [] ∧ d = .nil) ∨ ∃ z : List Pr, d = .slice (l.map prD) (z.map prD)) :=
  slice_in prL prD prRow (by omega) (fun a => ⟨rfl, rfl⟩) prRow_den Try.underlying40 cellsOfP (fun fuel cs x hx => trod_pr hx) ho h
theorem bytesOfP : Try.prog.bytesOf 42 = 32 := by kernel_rfl
theorem prs_small {l : List Pr} {d : DataW H} (hd : (l = [] ∧ d = .nil) ∨ ∃ z : List Pr, d = .slice (l.map prD) (z.map prD)) (h : (d.weights Try.prog 40).all (fun n => decide (n ≤ reachBytes)) = true) : l.length * 32 ≤ 140737488351232 := by
  rcases hd with ⟨rfl, rfl⟩ | ⟨z, rfl⟩
  · simp
  · simp only [DataW.weights, Try.underlying40, bytesOfP, List.length_map, List.all_cons, List.all_append, Bool.and_eq_true, decide_eq_true_eq] at h
    obtain ⟨h1, h2, _⟩ := h
    unfold reachBytes at h1
    rw [Nat.add_mul] at h1
    omega
end
end Go.Proofs.Ytillkgjdbnjnoaa
/- TermLists: the row out of the walk. Conditions: none beyond the statement's own. -/
set_option linter.unusedVariables false
namespace Go.Proofs.Ytillkgjdbnjnoaa.termLists
open Go.ChangeShapes Go.WideShapes Go.ChangeAt Go.RowKit Go.Our
open Go.ChangeMaps (open_string shut_string)
theorem own : ownKnob Try.prog.godebug = none := by kernel_rfl
theorem laidOut : laidOutB Try.prog = true := by kernel_rfl
theorem readable : ∀ t ∈ Try.f5.params.toList, Try.prog.readableRec t = true ∧ t < Try.prog.types.size := by
  have h : (Try.f5.params.toList.all fun t => Try.prog.readableRec t && decide (t < Try.prog.types.size)) = true := by kernel_rfl
  intro t ht
  have := List.all_eq_true.1 h t ht
  simpa using this
theorem globOf0 {W : World} : GlobOK W := fun g h hg => by simp [Go.Proofs.Ytillkgjdbnjnoaa.tab, Go.Sx.lkp] at hg
set_option maxRecDepth 100000 in
theorem contract (H : Type) (enc : TypeId × Value → H) (W : World) (base : Nat) (args : Array Value) (ds gs : List (DataW H)) (before : List MemPlace)
    (hval : ∀ (j : Nat) t v, Try.f5.params[j]? = some t → args[j]? = some v → Value.okWide Try.prog W .any base t v)
    (hW : DataW.Whole enc Try.prog Try.f5.params.toList Rows.termListsSpec.vars false W args.toList ds gs before)
    (hsz : (DataW.weightsEach Try.prog (Try.f5.params.toList ++ (OpenSpec.ofChange Rows.termListsSpec).bare.plain.varTypes Try.prog) (ds ++ gs)).all (fun x => decide (x ≤ reachBytes)) = true)
    : Calls Try.prog 5 args W fun e W' => ∃ v, e = .returned v ∧ Rows.termListsSpec.post enc Try.prog Try.f5 false true false false W args v W' := by
  have hW' := hW
  have hlt := hW.lt
  obtain ⟨p, q, hA0, hV, rfl, hfz, hnd⟩ := hW
  have hA : DataW.TrodAll enc Try.prog W 0 (fun _ => true) true Try.f5.params.toList args.toList ds p := hA0
  rw [Try.params5] at hA hval
  obtain ⟨v0, vs0, d0, ds0, p0, q0, hargs, rfl, rfl, h0, r0⟩ := trodAll_cons hA
  obtain ⟨v1, vs1, d1, ds1, p1, q1, rfl, rfl, rfl, h1, r1⟩ := trodAll_cons r0
  obtain ⟨rfl, rfl, rfl⟩ := trodAll_nil r1
  obtain rfl : args = #[v0, v1] := by cases args; simp_all
  obtain ⟨rfl, rfl⟩ := trodVars_none hV
  have hlt' : ∀ x ∈ p0 ++ p1, x.block < W.heap.size := fun x hx => hlt x (by simpa using hx)
  have hsz' : (DataW.weightsEach Try.prog [22, 40] [d0, d1]).all (fun x => decide (x ≤ reachBytes)) = true := hsz
  simp only [DataW.weightsEach] at hsz'
  have sz0 := all_left hsz'
  have rs0 := all_right hsz'
  obtain ⟨l0, en0, sl0, dd0⟩ := read_qds (hval 0 22 v0 rfl rfl) h0
  have sm0 := qds_small dd0 sz0
  have sz1 := all_left rs0
  obtain ⟨l1, en1, sl1, dd1⟩ := read_prs (hval 1 40 v1 rfl rfl) h1
  have sm1 := prs_small dd1 sz1
  refine (law_calls2 sl0 sl1 (lawLists_does l0 l1 sm0.1 sm1) Try.call5 ⟨_, _, rfl, sl0.den rfl, _, _, rfl, sl1.den rfl, rfl⟩ globOf0).mono fun e W' ⟨he, hb⟩ => ?_
  subst he
  exact ⟨_, rfl, law_post laidOut readable rfl Try.underlying4 hW' rfl rfl rfl rfl hb⟩
/-- A world for the witness: the settled one, each listed variable holding what its initialiser lays. -/
noncomputable def laidWorld (os : Os) : World :=
  World.holding Try.prog os ⟨#[], #[], []⟩
theorem laid_met (os : Os) : laidMet Try.prog Rows.termListsRow.laid ((laidWorld os).forCall (fun _ _ => 0) ⟨#[], #[Value.slice none 0 0, Value.slice none 0 0], []⟩).memory :=
  laidMet_of_run' 8 (by kernel_rfl) (by kernel_rfl)
theorem reads (os : Os) {H : Type} (enc : TypeId × Value → H) : ∃ places, DataW.whole enc Try.prog ((laidWorld os).forCall (fun _ _ => 0) ⟨#[], #[Value.slice none 0 0, Value.slice none 0 0], []⟩).memory Try.f5.params.toList Rows.termListsSpec.vars false #[Value.slice none 0 0, Value.slice none 0 0].toList 8 = some ([.nil, .nil], [], places) :=
  ⟨[], by kernel_rfl⟩
set_option maxRecDepth 100000 in
theorem lifted (os : Os) (started : os.Started) (H : Type) (enc : TypeId × Value → H) (F : Stop.Interp) :
    ReturnsInHanded {} Try.checked os 5 .any ((OpenSpec.ofChange Rows.termListsSpec).preRow enc Try.prog Try.f5 Rows.termListsRow.domain false Rows.termListsRow.laid) (((OpenSpec.ofChange Rows.termListsSpec).at F).post enc Try.prog Try.f5 false true false false) := by
  obtain ⟨places, hx⟩ := reads os enc
  refine returnsInHanded_of_row (C := Try.checked) (s := (OpenSpec.ofChange Rows.termListsSpec)) own started (by kernel_rfl) Try.func5
    (witness_row_at (enc := enc) (C := Try.checked) false (laidWorld os) #[.slice none 0 0, .slice none 0 0] rfl (by kernel_rfl) (by kernel_rfl) (by kernel_rfl)
      (OpenSpec.preRow_of_cond 8 hx (by kernel_rfl) (fun k hk => by cases hk) (by kernel_rfl) (laid_met os))) ?_
  intro W base args ds gs before hval hW _ hcond hsz hL _ _
  exact contract H enc W base args ds gs before hval hW hsz
theorem said : Rows.TermListsSaid :=
  OpenClaim.holds_of_cond 5 Try.f5 rfl rfl rfl rfl rfl rfl rfl ⟨rfl, rfl, rfl, rfl, rfl⟩ rfl rfl rfl rfl rfl (by kernel_rfl) Try.func5 (by kernel_rfl)
    (of_decide_eq_true (by kernel_rfl)) (by unfold Func.isWrapper; first | (rw [if_pos (by decide +kernel)]; kernel_rfl) | (rw [if_neg (by decide +kernel)]; exact ⟨rfl, rfl⟩))
    (fun os started H enc _ F => by rw [OpenClaim.pre_eq_preRow]; exact lifted os started H enc F)
end Go.Proofs.Ytillkgjdbnjnoaa.termLists
