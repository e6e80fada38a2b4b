/- TermSetLaws: the row and its card out of the walk. Conditions: none beyond the statement's own (its bound on the bulk of what is read). -/
import Derived.Test.YtillkgjdbnjnoaaGreatDoorCards
import Derived.Test.YtillkgjdbnjnoaaGreatDoorTie
import Derived.Test.YtillkgjdbnjnoaaGreatDoorStl5
/- Chapter 7's laws of sets: sets are sets; walked. Conditions: lists of at most 2^20 quads. -/
set_option linter.unusedVariables false
set_option linter.unusedSimpArgs false
set_option maxRecDepth 20000
set_option maxHeartbeats 8000000
namespace Go.Proofs.YtillkgjdbnjnoaaGreatDoor
open Go.Sx Go.Our
def plLawSetLaws0 : Plan := (planOf [(0, 1), (1, 1), (2, 1), (3, 2), (4, 2), (5, 1)])
def plLawSetLaws1 : Plan := (.take 1 1 (.take 3 1 (.fork 0 3 5 3 (.fork 2 0 5 3 (.fork 4 0 5 3 (planOf [(5, 2), (6, 3), (7, 0), (8, 1)]) (.fork 4 0 6 3 (planOf [(6, 3), (7, 0), (8, 1)]) (planOf [(4, 0), (7, 0), (8, 1)]))) (.fork 2 0 6 3 (.fork 4 0 6 3 (planOf [(6, 3), (7, 0), (8, 1)]) (planOf [(4, 0), (7, 0), (8, 1)])) (planOf [(2, 0), (4, 0), (7, 0), (8, 1)]))) (.fork 0 3 6 3 (.fork 2 0 6 3 (.fork 4 0 6 3 (planOf [(6, 3), (7, 0), (8, 1)]) (planOf [(4, 0), (7, 0), (8, 1)])) (planOf [(2, 0), (4, 0), (7, 0), (8, 1)])) (planOf [(0, 3), (2, 0), (4, 0), (7, 0), (8, 1)])))))
def plLawSetLaws2 : Plan := (planOf [(0, 1), (1, 1), (2, 1), (3, 1), (6, 1), (7, 1), (8, 1), (9, 1), (4, 2), (10, 2), (5, 3), (11, 3), (12, 1), (13, 1)])
theorem in_does (l : List Qd) (q : Qd) (lim : Option Nat) (hz : l.length ≤ 1152921504606846976) : Does Tryz.prog tab 10 1 [.sl (.loc 0) 0 16 l.length lim, .agg (qdRow q)] [] [(0, .rows 16 (l.map qdRow))]
    (ValK 1 (.bool (decide (q ∈ l)))) := by
  refine Does.enter tabOK (g := 10) (fn := Tryz.f10) Tryz.call10 Tryz.func10 rfl 18 rfl rfl [.tmp 4] rfl ?_
  intro w0 F η0 h0
  conv => whnf
  repeat' ((first | with_reducible refine IF.tt ?_ | with_reducible refine IF.ff ?_ | refine NEED.au ?_ | ((with_reducible apply GET.at); rfl) | ((with_reducible apply GETG.at); rfl) | ((with_reducible refine UNK.mk (fun h => ?_) ?_) <;> try (exfalso; omega)) | ((with_reducible refine IF.mk (fun h => ?_) (fun h => ?_)) <;> (try simp (disch := omega) only [hsB, hsC, lnB, wrap64, wrap32, simprocAttr] at h) <;> try (exfalso; omega))) <;> conv => whnf)
  refine LOOP.go tabOK [0, 3] (X := Nat) (fun n => n ≤ l.length ∧ ∀ k (hk : k < l.length), k < n → l[k] ≠ q) (fun n => [(5, .int .i64 (n : Int))]) (fun n => [(1, .box (qdRow q))]) 2 (fun n => l.length - n) 0 ⟨by omega, fun k _ h => by omega⟩ ?_
  conv => whnf
  refine ⟨by (refine GOES.cutting h0 rfl rfl rfl (by first | rfl | (simp only [belowO, belowH, plainLL_below _ (plainQds _), Bool.and_self, Bool.and_true] <;> rfl)) ?_ ?_ <;> (repeat' (first | (with_reducible rfl) | (exact sl_eq rfl (by first | (simp; done) | omega | (simp; omega))) | (exact congrArg (SV.int _) (by first | omega | (simp (disch := omega) only [lnB, wrap64, wrap32] <;> omega) | (simp; done) | (simp <;> omega))) | (exact congrArg (Hp.rows _) (by rfl)) | ((conv => whnf); refine ⟨?_, ?_⟩) | exact trivial | rfl))), ?_⟩
  rintro n ⟨hn, hno⟩
  conv => whnf
  by_cases hnl : n < l.length
  · repeat' ((first | with_reducible refine IF.tt ?_ | with_reducible refine IF.ff ?_ | refine DRAWN.of (id := 4) tabOK mixed plLawSetLaws0 (by kernel_rfl) ?_ | with_reducible refine ADD.mk (fun _ _ => ?_) | with_reducible refine NEED.mk (Det.of rfl) ?_ | refine NEED.mk (det_pos (by omega)) ?_ | with_reducible refine FORK.mk ?_ ?_ | (refine GET.at (row := qdRow (l[n]'(by omega))) (row_at0 (by omega) (by omega)) ?_; conv => whnf) | refine NEED.au ?_ | ((with_reducible apply GET.at); rfl) | ((with_reducible apply GETG.at); rfl) | ((with_reducible refine UNK.mk (fun h => ?_) ?_) <;> try (exfalso; omega)) | ((with_reducible refine IF.mk (fun h => ?_) (fun h => ?_)) <;> (try simp (disch := omega) only [hsB, hsC, lnB, wrap64, wrap32, simprocAttr] at h) <;> try (exfalso; omega))) <;> conv => whnf)
    all_goals by_cases he : l[n] = q
    all_goals first
      | (exfalso; rw [he] at h; simp at h; done)
      | (exfalso; (try simp only [Classical.not_imp, Classical.not_not] at h); exact he (Qd.ext' (by simp only [qdRow, Qd.row, List.cons.injEq, SV.int.injEq, SV.str.injEq, true_and, and_true]; exact h)))
      | skip
    · refine FIN.valueK h0 rfl (congrArg SV.bool (decide_eq_true ?_).symm)
      rw [← he]; exact List.getElem_mem _
    · refine ⟨n + 1, ⟨by omega, fun k hk hkn => ?_⟩, by omega, ?_⟩
      · rcases Nat.lt_or_eq_of_le (Nat.le_of_lt_succ hkn) with h1 | rfl
        · exact hno k hk h1
        · exact he
      · conv => whnf
        (refine GOES.cutting h0 rfl rfl rfl (by first | rfl | (simp only [belowO, belowH, plainLL_below _ (plainQds _), Bool.and_self, Bool.and_true] <;> rfl)) ?_ ?_ <;> (repeat' (first | (with_reducible rfl) | (exact sl_eq rfl (by first | (simp; done) | omega | (simp; omega))) | (exact congrArg (SV.int _) (by first | omega | (simp (disch := omega) only [lnB, wrap64, wrap32] <;> omega) | (simp; done) | (simp <;> omega))) | (exact congrArg (Hp.rows _) (by rfl)) | ((conv => whnf); refine ⟨?_, ?_⟩) | exact trivial | rfl)))
  · repeat' ((first | with_reducible refine IF.tt ?_ | with_reducible refine IF.ff ?_ | refine NEED.au ?_ | ((with_reducible apply GET.at); rfl) | ((with_reducible apply GETG.at); rfl) | ((with_reducible refine UNK.mk (fun h => ?_) ?_) <;> try (exfalso; omega)) | ((with_reducible refine IF.mk (fun h => ?_) (fun h => ?_)) <;> (try simp (disch := omega) only [hsB, hsC, lnB, wrap64, wrap32, simprocAttr] at h) <;> try (exfalso; omega))) <;> conv => whnf)
    refine FIN.valueK h0 rfl (congrArg SV.bool (decide_eq_false fun hm => ?_).symm)
    obtain ⟨k, hk, rfl⟩ := List.mem_iff_getElem.1 hm
    exact hno k hk (by omega) rfl
abbrev Sm20 (l : List Qd) : Prop := l.length ≤ 1048576
set_option maxHeartbeats 8000000 in
theorem lawSetLaws_does (a b : List Qd) (q : Qd) (ha : Sm20 a) (hb : Sm20 b) : Does Tryz.prog tab 3 2 [.sl (.loc 0) 0 16 a.length none, .sl (.loc 1) 0 16 b.length none, .agg (qdRow q)] [] [(0, .rows 16 (a.map qdRow)), (1, .rows 16 (b.map qdRow))] (ValK 2 (.bool true)) := by
  have qa : QdsOK a := by unfold QdsOK; omega
  have qb : QdsOK b := by unfold QdsOK; omega
  have lS := set_len (c := qdCmp) a
  have lT := set_len (c := qdCmp) b
  have rS := set_rise triQ a
  have rT := set_rise triQ b
  have mS := fun x => set_mem (c := qdCmp) a x
  have mT := fun x => set_mem (c := qdCmp) b x
  have dS := tsort_does a [] none qa
  have dT := tsort_does b [] none qb
  rw [List.append_nil] at dS dT
  generalize setL qdCmp a = s at *
  generalize setL qdCmp b = t at *
  have oS := Rise_rises (l := s) (Nat.le_refl 1) rS
  have oT := Rise_rises (l := t) (Nat.le_refl 1) rT
  obtain ⟨rU, mU⟩ := pmerge_spec triQ true true true _ s t (Nat.le_refl _) rS rT
  obtain ⟨rM, mM⟩ := pmerge_spec triQ false true false _ s t (Nat.le_refl _) rS rT
  obtain ⟨rN, mN⟩ := pmerge_spec triQ true false false _ s t (Nat.le_refl _) rS rT
  have nU := pmerge_len (c := qdCmp) true true true _ s t (Nat.le_refl _)
  have nM := pmerge_len (c := qdCmp) false true false _ s t (Nat.le_refl _)
  have nN := pmerge_len (c := qdCmp) true false false _ s t (Nat.le_refl _)
  have hsum := pmerge_sum (c := qdCmp) _ s t (Nat.le_refl _)
  have cU := fun z z' (hz : ((s ++ z).length + (t ++ z').length) * 224 ≤ 281474976710656) => tUnion_does s z t z' (some s.length) (some t.length) hz (by unfold TwoOK; omega)
  have cM := fun z z' (hz : ((s ++ z).length + (t ++ z').length) * 224 ≤ 281474976710656) => tMeet_does s z t z' (some s.length) (some t.length) hz (by unfold TwoOK; omega)
  have cN := fun z z' (hz : ((s ++ z).length + (t ++ z').length) * 224 ≤ 281474976710656) => tMinus_does s z t z' (some s.length) (some t.length) hz (by unfold TwoOK; omega)
  rw [two_yes ⟨oS, oT⟩] at cU cM cN
  generalize pmerge qdCmp true true true s t = u at *
  generalize pmerge qdCmp false true false s t = m at *
  generalize pmerge qdCmp true false false s t = n at *
  refine Does.enter tabOK (g := 3) (fn := Tryz.f3) Tryz.call3 Tryz.func3 rfl 197 rfl rfl [.tmp 6] rfl ?_
  intro w0 F η0 h0
  conv => whnf
  repeat' ((first | with_reducible refine IF.tt ?_ | with_reducible refine IF.ff ?_ | refine CALL.value (awake_does) rfl rfl ?_ | refine NEED.au ?_ | ((with_reducible apply GET.at); rfl) | ((with_reducible apply GETG.at); rfl) | ((with_reducible refine UNK.mk (fun h => ?_) ?_) <;> try (exfalso; omega)) | ((with_reducible refine IF.mk (fun h => ?_) (fun h => ?_)) <;> (try simp (disch := omega) only [hsB, hsC, lnB, wrap64, wrap32, simprocAttr] at h) <;> try (exfalso; omega))) <;> conv => whnf)
  refine CALL.at [0] (dS) rfl rfl rfl rfl (by first | rfl | (simp only [belowO, belowH, plainLL_below _ (plainQds _), Bool.and_self, Bool.and_true] <;> rfl)) (by first | rfl | (simp only [belowO, belowH, plainLL_below _ (plainQds _), Bool.and_self, Bool.and_true] <;> rfl)) (by repeat' (first | exact trivial | exact (renH_plain _ (h := .rows _ _) (plainQds _)).symm | exact rfl | exact (renH_plain _ (h := .rows _ _) (plainQds _)).trans (renH_plain _ (h := .rows _ _) (plainQds _)).symm | ((conv => whnf); refine ⟨?_, ?_⟩))) (by repeat' (first | exact trivial | exact (renH_plain _ (h := .rows _ _) (plainQds _)).symm | exact rfl | exact (renH_plain _ (h := .rows _ _) (plainQds _)).trans (renH_plain _ (h := .rows _ _) (plainQds _)).symm | ((conv => whnf); refine ⟨?_, ?_⟩))) rfl rfl ?_
  rintro r O nx ⟨j, hj, rfl, rfl, rfl⟩
  conv => whnf
  refine CALL.at [1] (dT) rfl rfl rfl rfl (by first | rfl | (simp only [belowO, belowH, plainLL_below _ (plainQds _), Bool.and_self, Bool.and_true] <;> rfl)) (by first | rfl | (simp only [belowO, belowH, plainLL_below _ (plainQds _), Bool.and_self, Bool.and_true] <;> rfl)) (by repeat' (first | exact trivial | exact (renH_plain _ (h := .rows _ _) (plainQds _)).symm | exact rfl | exact (renH_plain _ (h := .rows _ _) (plainQds _)).trans (renH_plain _ (h := .rows _ _) (plainQds _)).symm | ((conv => whnf); refine ⟨?_, ?_⟩))) (by repeat' (first | exact trivial | exact (renH_plain _ (h := .rows _ _) (plainQds _)).symm | exact rfl | exact (renH_plain _ (h := .rows _ _) (plainQds _)).trans (renH_plain _ (h := .rows _ _) (plainQds _)).symm | ((conv => whnf); refine ⟨?_, ?_⟩))) rfl rfl ?_
  rintro r O nx ⟨k, hk, rfl, rfl, rfl⟩
  have hz : ((s ++ List.replicate j zeroQd).length + (t ++ List.replicate k zeroQd).length) * 224 ≤ 281474976710656 := by simp; omega
  conv => whnf
  refine CALL.at [3, 4] (cU _ _ hz) rfl rfl rfl rfl (by first | rfl | (simp only [belowO, belowH, plainLL_below _ (plainQds _), Bool.and_self, Bool.and_true] <;> rfl)) (by first | rfl | (simp only [belowO, belowH, plainLL_below _ (plainQds _), Bool.and_self, Bool.and_true] <;> rfl)) (by repeat' (first | exact trivial | exact (renH_plain _ (h := .rows _ _) (plainQds _)).symm | exact rfl | exact (renH_plain _ (h := .rows _ _) (plainQds _)).trans (renH_plain _ (h := .rows _ _) (plainQds _)).symm | ((conv => whnf); refine ⟨?_, ?_⟩))) (by repeat' (first | exact trivial | exact (renH_plain _ (h := .rows _ _) (plainQds _)).symm | exact rfl | exact (renH_plain _ (h := .rows _ _) (plainQds _)).trans (renH_plain _ (h := .rows _ _) (plainQds _)).symm | ((conv => whnf); refine ⟨?_, ?_⟩))) rfl rfl ?_
  rintro r O nx ⟨rfl, rfl, rfl⟩
  conv => whnf
  refine CALL.at [3, 4] (cM _ _ hz) rfl rfl rfl rfl (by first | rfl | (simp only [belowO, belowH, plainLL_below _ (plainQds _), Bool.and_self, Bool.and_true] <;> rfl)) (by first | rfl | (simp only [belowO, belowH, plainLL_below _ (plainQds _), Bool.and_self, Bool.and_true] <;> rfl)) (by repeat' (first | exact trivial | exact (renH_plain _ (h := .rows _ _) (plainQds _)).symm | exact rfl | exact (renH_plain _ (h := .rows _ _) (plainQds _)).trans (renH_plain _ (h := .rows _ _) (plainQds _)).symm | ((conv => whnf); refine ⟨?_, ?_⟩))) (by repeat' (first | exact trivial | exact (renH_plain _ (h := .rows _ _) (plainQds _)).symm | exact rfl | exact (renH_plain _ (h := .rows _ _) (plainQds _)).trans (renH_plain _ (h := .rows _ _) (plainQds _)).symm | ((conv => whnf); refine ⟨?_, ?_⟩))) rfl rfl ?_
  rintro r O nx ⟨rfl, rfl, rfl⟩
  conv => whnf
  refine CALL.at [3, 4] (cN _ _ hz) rfl rfl rfl rfl (by first | rfl | (simp only [belowO, belowH, plainLL_below _ (plainQds _), Bool.and_self, Bool.and_true] <;> rfl)) (by first | rfl | (simp only [belowO, belowH, plainLL_below _ (plainQds _), Bool.and_self, Bool.and_true] <;> rfl)) (by repeat' (first | exact trivial | exact (renH_plain _ (h := .rows _ _) (plainQds _)).symm | exact rfl | exact (renH_plain _ (h := .rows _ _) (plainQds _)).trans (renH_plain _ (h := .rows _ _) (plainQds _)).symm | ((conv => whnf); refine ⟨?_, ?_⟩))) (by repeat' (first | exact trivial | exact (renH_plain _ (h := .rows _ _) (plainQds _)).symm | exact rfl | exact (renH_plain _ (h := .rows _ _) (plainQds _)).trans (renH_plain _ (h := .rows _ _) (plainQds _)).symm | ((conv => whnf); refine ⟨?_, ?_⟩))) rfl rfl ?_
  rintro r O nx ⟨rfl, rfl, rfl⟩
  conv => whnf
  repeat' ((first | with_reducible refine IF.tt ?_ | with_reducible refine IF.ff ?_ | refine NEED.au ?_ | ((with_reducible apply GET.at); rfl) | ((with_reducible apply GETG.at); rfl) | ((with_reducible refine UNK.mk (fun h => ?_) ?_) <;> try (exfalso; omega)) | ((with_reducible refine IF.mk (fun h => ?_) (fun h => ?_)) <;> (try simp (disch := omega) only [hsB, hsC, lnB, wrap64, wrap32, simprocAttr] at h) <;> try (exfalso; omega))) <;> conv => whnf)
  have qs : QdsOK s := by unfold QdsOK; omega
  have qt : QdsOK t := by unfold QdsOK; omega
  have qu : QdsOK u := by unfold QdsOK; omega
  have qm : QdsOK m := by unfold QdsOK; omega
  have qn : QdsOK n := by unfold QdsOK; omega
  have eS := rises_does s (List.replicate j zeroQd) (lim := some s.length) qs
  have eT := rises_does t (List.replicate k zeroQd) (lim := some t.length) qt
  have eU := rises_does u [] (lim := none) qu
  have eM := rises_does m [] (lim := none) qm
  have eN := rises_does n [] (lim := none) qn
  rw [List.append_nil] at eU eM eN
  rw [oS] at eS
  rw [oT] at eT
  rw [Rise_rises (Nat.le_refl 1) rU] at eU
  rw [Rise_rises (Nat.le_refl 1) rM] at eM
  rw [Rise_rises (Nat.le_refl 1) rN] at eN
  refine CALL.at [3] (eS) rfl rfl rfl rfl (by first | rfl | (simp only [belowO, belowH, plainLL_below _ (plainQds _), Bool.and_self, Bool.and_true] <;> rfl)) (by first | rfl | (simp only [belowO, belowH, plainLL_below _ (plainQds _), Bool.and_self, Bool.and_true] <;> rfl)) (by repeat' (first | exact trivial | exact (renH_plain _ (h := .rows _ _) (plainQds _)).symm | exact rfl | exact (renH_plain _ (h := .rows _ _) (plainQds _)).trans (renH_plain _ (h := .rows _ _) (plainQds _)).symm | ((conv => whnf); refine ⟨?_, ?_⟩))) (by repeat' (first | exact trivial | exact (renH_plain _ (h := .rows _ _) (plainQds _)).symm | exact rfl | exact (renH_plain _ (h := .rows _ _) (plainQds _)).trans (renH_plain _ (h := .rows _ _) (plainQds _)).symm | ((conv => whnf); refine ⟨?_, ?_⟩))) rfl rfl ?_
  rintro r O nx ⟨rfl, rfl, rfl⟩
  conv => whnf
  repeat' ((first | with_reducible refine IF.tt ?_ | with_reducible refine IF.ff ?_ | refine NEED.au ?_ | ((with_reducible apply GET.at); rfl) | ((with_reducible apply GETG.at); rfl) | ((with_reducible refine UNK.mk (fun h => ?_) ?_) <;> try (exfalso; omega)) | ((with_reducible refine IF.mk (fun h => ?_) (fun h => ?_)) <;> (try simp (disch := omega) only [hsB, hsC, lnB, wrap64, wrap32, simprocAttr] at h) <;> try (exfalso; omega))) <;> conv => whnf)
  refine CALL.at [4] (eT) rfl rfl rfl rfl (by first | rfl | (simp only [belowO, belowH, plainLL_below _ (plainQds _), Bool.and_self, Bool.and_true] <;> rfl)) (by first | rfl | (simp only [belowO, belowH, plainLL_below _ (plainQds _), Bool.and_self, Bool.and_true] <;> rfl)) (by repeat' (first | exact trivial | exact (renH_plain _ (h := .rows _ _) (plainQds _)).symm | exact rfl | exact (renH_plain _ (h := .rows _ _) (plainQds _)).trans (renH_plain _ (h := .rows _ _) (plainQds _)).symm | ((conv => whnf); refine ⟨?_, ?_⟩))) (by repeat' (first | exact trivial | exact (renH_plain _ (h := .rows _ _) (plainQds _)).symm | exact rfl | exact (renH_plain _ (h := .rows _ _) (plainQds _)).trans (renH_plain _ (h := .rows _ _) (plainQds _)).symm | ((conv => whnf); refine ⟨?_, ?_⟩))) rfl rfl ?_
  rintro r O nx ⟨rfl, rfl, rfl⟩
  conv => whnf
  repeat' ((first | with_reducible refine IF.tt ?_ | with_reducible refine IF.ff ?_ | refine NEED.au ?_ | ((with_reducible apply GET.at); rfl) | ((with_reducible apply GETG.at); rfl) | ((with_reducible refine UNK.mk (fun h => ?_) ?_) <;> try (exfalso; omega)) | ((with_reducible refine IF.mk (fun h => ?_) (fun h => ?_)) <;> (try simp (disch := omega) only [hsB, hsC, lnB, wrap64, wrap32, simprocAttr] at h) <;> try (exfalso; omega))) <;> conv => whnf)
  refine CALL.at [5] (eU) rfl rfl rfl rfl (by first | rfl | (simp only [belowO, belowH, plainLL_below _ (plainQds _), Bool.and_self, Bool.and_true] <;> rfl)) (by first | rfl | (simp only [belowO, belowH, plainLL_below _ (plainQds _), Bool.and_self, Bool.and_true] <;> rfl)) (by repeat' (first | exact trivial | exact (renH_plain _ (h := .rows _ _) (plainQds _)).symm | exact rfl | exact (renH_plain _ (h := .rows _ _) (plainQds _)).trans (renH_plain _ (h := .rows _ _) (plainQds _)).symm | ((conv => whnf); refine ⟨?_, ?_⟩))) (by repeat' (first | exact trivial | exact (renH_plain _ (h := .rows _ _) (plainQds _)).symm | exact rfl | exact (renH_plain _ (h := .rows _ _) (plainQds _)).trans (renH_plain _ (h := .rows _ _) (plainQds _)).symm | ((conv => whnf); refine ⟨?_, ?_⟩))) rfl rfl ?_
  rintro r O nx ⟨rfl, rfl, rfl⟩
  conv => whnf
  repeat' ((first | with_reducible refine IF.tt ?_ | with_reducible refine IF.ff ?_ | refine NEED.au ?_ | ((with_reducible apply GET.at); rfl) | ((with_reducible apply GETG.at); rfl) | ((with_reducible refine UNK.mk (fun h => ?_) ?_) <;> try (exfalso; omega)) | ((with_reducible refine IF.mk (fun h => ?_) (fun h => ?_)) <;> (try simp (disch := omega) only [hsB, hsC, lnB, wrap64, wrap32, simprocAttr] at h) <;> try (exfalso; omega))) <;> conv => whnf)
  refine CALL.at [6] (eM) rfl rfl rfl rfl (by first | rfl | (simp only [belowO, belowH, plainLL_below _ (plainQds _), Bool.and_self, Bool.and_true] <;> rfl)) (by first | rfl | (simp only [belowO, belowH, plainLL_below _ (plainQds _), Bool.and_self, Bool.and_true] <;> rfl)) (by repeat' (first | exact trivial | exact (renH_plain _ (h := .rows _ _) (plainQds _)).symm | exact rfl | exact (renH_plain _ (h := .rows _ _) (plainQds _)).trans (renH_plain _ (h := .rows _ _) (plainQds _)).symm | ((conv => whnf); refine ⟨?_, ?_⟩))) (by repeat' (first | exact trivial | exact (renH_plain _ (h := .rows _ _) (plainQds _)).symm | exact rfl | exact (renH_plain _ (h := .rows _ _) (plainQds _)).trans (renH_plain _ (h := .rows _ _) (plainQds _)).symm | ((conv => whnf); refine ⟨?_, ?_⟩))) rfl rfl ?_
  rintro r O nx ⟨rfl, rfl, rfl⟩
  conv => whnf
  repeat' ((first | with_reducible refine IF.tt ?_ | with_reducible refine IF.ff ?_ | refine NEED.au ?_ | ((with_reducible apply GET.at); rfl) | ((with_reducible apply GETG.at); rfl) | ((with_reducible refine UNK.mk (fun h => ?_) ?_) <;> try (exfalso; omega)) | ((with_reducible refine IF.mk (fun h => ?_) (fun h => ?_)) <;> (try simp (disch := omega) only [hsB, hsC, lnB, wrap64, wrap32, simprocAttr] at h) <;> try (exfalso; omega))) <;> conv => whnf)
  apply loopOnce (X := Unit) (n := 13) (fun _ => True) (fun _ => [(0, .sl (.loc 0) 0 16 a.length none), (1, .sl (.loc 1) 0 16 b.length none), (7, .sl (.loc 3) 0 16 s.length (some s.length)), (8, .sl (.loc 4) 0 16 t.length (some t.length)), (9, .sl (.loc 5) 0 16 u.length none), (11, .sl (.loc 6) 0 16 m.length none), (13, .sl (.loc 7) 0 16 n.length none), (15, .sl (.loc 12) 0 16 (a ++ b ++ [q]).length none), (16, .int .i64 0)]) (fun _ => [(3, .rows 16 ((s ++ List.replicate j zeroQd).map qdRow)), (5, .rows 16 (u.map qdRow)), (6, .rows 16 (m.map qdRow)), (7, .rows 16 (n.map qdRow)), (12, .rows 16 ((a ++ b ++ [q]).map qdRow))])
  · intro hk
    have hrows : List.take (0 + a.length + b.length) (List.take (0 + a.length) (List.take 0 [] ++ List.take a.length (List.drop 0 (List.map qdRow a))) ++ List.take b.length (List.drop 0 (List.map qdRow b))) ++ List.take 1 (List.drop 0 [qdRow q]) = (a ++ b ++ [q]).map qdRow := by simp [List.take_of_length_le]
    refine CALL.at [7] (eN) rfl rfl rfl rfl (by first | rfl | (simp only [belowO, belowH, plainLL_below _ (plainQds _), Bool.and_self, Bool.and_true] <;> rfl)) (by first | rfl | (simp only [belowO, belowH, plainLL_below _ (plainQds _), Bool.and_self, Bool.and_true] <;> rfl)) (by repeat' (first | exact trivial | exact (renH_plain _ (h := .rows _ _) (plainQds _)).symm | exact rfl | exact (renH_plain _ (h := .rows _ _) (plainQds _)).trans (renH_plain _ (h := .rows _ _) (plainQds _)).symm | ((conv => whnf); refine ⟨?_, ?_⟩))) (by repeat' (first | exact trivial | exact (renH_plain _ (h := .rows _ _) (plainQds _)).symm | exact rfl | exact (renH_plain _ (h := .rows _ _) (plainQds _)).trans (renH_plain _ (h := .rows _ _) (plainQds _)).symm | ((conv => whnf); refine ⟨?_, ?_⟩))) rfl rfl ?_
    rintro r O nx ⟨rfl, rfl, rfl⟩
    conv => whnf
    repeat' ((first | with_reducible refine IF.tt ?_ | with_reducible refine IF.ff ?_ | refine DRAWN.of (id := 9) tabOK mixed plLawSetLaws1 (by kernel_rfl) ?_ | refine DRAWN.of (id := 13) tabOK mixed plLawSetLaws2 (by kernel_rfl) ?_ | with_reducible refine ADD.mk (fun _ _ => ?_) | with_reducible refine NEED.mk (Det.of rfl) ?_ | refine NEED.mk (det_pos (by omega)) ?_ | with_reducible refine FORK.mk ?_ ?_ | (refine NEED.mk (needApp 224 rfl rfl (by simp) (by simp) (by simp; omega)) ?_; conv => whnf) | refine NEED.au ?_ | ((with_reducible apply GET.at); rfl) | ((with_reducible apply GETG.at); rfl) | ((with_reducible refine UNK.mk (fun h => ?_) ?_) <;> try (exfalso; omega)) | ((with_reducible refine IF.mk (fun h => ?_) (fun h => ?_)) <;> (try simp (disch := omega) only [hsB, hsC, lnB, wrap64, wrap32, simprocAttr] at h) <;> try (exfalso; omega))) <;> conv => whnf)
    all_goals
      refine LOOP.goes ?_ (hk () trivial)
      refine GOES.cutting h0 rfl rfl rfl (by (repeat' (first | (refine belowO_cons rfl ?_ ?_) | exact belowH_rows (plainQds _) | exact belowH_renrows (plainQds _) | rfl))) ?_ ?_ <;> (repeat' (first | (with_reducible rfl) | exact trivial | (exact sl_eq rfl (by first | (simp; done) | (simp; omega))) | (refine congrArg (Hp.rows 16) (Eq.trans ?_ hrows); rfl) | (exact renH_plain _ (h := .rows _ _) (plainQds _)) | ((conv => whnf); refine ⟨?_, ?_⟩) | rfl))
    all_goals (refine congrArg (Hp.rows 16) ?_; exact hrows)
  · intro _ _
    have hz1 : ∀ z : List Qd, z.length ≤ 1048576 → (s ++ z).length * 224 ≤ 281474976710656 := fun z hz => by rw [List.length_append]; omega
    have fS := fun x => find_does s (List.replicate j zeroQd) x (some s.length) (hz1 _ (by simp; omega)) rS
    have fU := fun x => find_does u [] x none (by simp; omega) rU
    have fM := fun x => find_does m [] x none (by simp; omega) rM
    have fN := fun x => find_does n [] x none (by simp; omega) rN
    simp only [List.append_nil, there_mem triQ rS, there_mem triQ rU, there_mem triQ rM, there_mem triQ rN] at fS fU fM fN
    have eS : ∀ x, decide (x ∈ s) = decide (x ∈ a) := fun x => by rw [Bool.eq_iff_iff, decide_eq_true_iff, decide_eq_true_iff, mS]
    have eU : ∀ x, decide (x ∈ u) = (decide (x ∈ a) || decide (x ∈ b)) := fun x => by rw [Bool.eq_iff_iff, decide_eq_true_iff, mU, mS, mT]; by_cases h1 : x ∈ a <;> by_cases h2 : x ∈ b <;> simp [h1, h2]
    have eM : ∀ x, decide (x ∈ m) = (decide (x ∈ a) && decide (x ∈ b)) := fun x => by rw [Bool.eq_iff_iff, decide_eq_true_iff, mM, mS, mT]; by_cases h1 : x ∈ a <;> by_cases h2 : x ∈ b <;> simp [h1, h2]
    have eN : ∀ x, decide (x ∈ n) = (decide (x ∈ a) && !decide (x ∈ b)) := fun x => by rw [Bool.eq_iff_iff, decide_eq_true_iff, mN, mS, mT]; by_cases h1 : x ∈ a <;> by_cases h2 : x ∈ b <;> simp [h1, h2]
    simp only [eS, eU, eM, eN] at fS fU fM fN
    clear eS eU eM eN dS dT cU cM cN mU mM mN mS mT
    refine LOOP.gok tabOK [0, 1, 7, 8, 9, 11, 13, 15] [3, 5, 6, 7, 12] (X := Nat) (fun i => i ≤ (a ++ b ++ [q]).length) (fun i => [(16, .int .i64 (i : Int))]) (fun i => []) 13 (fun i => (a ++ b ++ [q]).length - i) 0 (by omega) ?_
    generalize hall : a ++ b ++ [q] = all at *
    have hal : all.length ≤ 2097153 := by rw [← hall]; simp; omega
    conv => whnf
    refine ⟨by (refine GOES.cutting h0 rfl rfl rfl (by (repeat' (first | (refine belowO_cons rfl ?_ ?_) | exact belowH_rows (plainQds _) | exact belowH_renrows (plainQds _) | rfl))) ?_ ?_ <;> (repeat' (first | (with_reducible rfl) | exact trivial | (exact sl_eq rfl (by first | omega | (simp (disch := omega) only [lnB, wrap64, wrap32] <;> omega) | (simp; done) | (simp <;> omega))) | (exact congrArg (SV.int _) (by first | omega | (simp (disch := omega) only [lnB, wrap64, wrap32] <;> omega) | (simp; done) | (simp <;> omega))) | (exact box_int (by first | omega | (simp (disch := omega) only [lnB, wrap64, wrap32] <;> omega) | (simp; done) | (simp <;> omega))) | (exact box_sl (by first | omega | (simp (disch := omega) only [lnB, wrap64, wrap32] <;> omega) | (simp; done) | (simp <;> omega))) | (exact renH_plain _ (h := .rows _ _) (plainQds _)) | (exact congrArg (Hp.rows _) (by rfl)) | ((conv => whnf); refine ⟨?_, ?_⟩) | rfl))), ?_⟩
    intro i hi
    conv => whnf
    by_cases hil : i < all.length
    · have gA : (all.map qdRow)[0 + (i : Int).toNat]? = some (qdRow all[i]) := row_at0 hil (by omega)
      have fS := fS all[i]
      have fU := fU all[i]
      have fM := fM all[i]
      have fN := fN all[i]
      have iA := in_does a all[i] none (by omega)
      have iB := in_does b all[i] none (by omega)
      generalize decide (all[i] ∈ a) = A at *
      generalize decide (all[i] ∈ b) = B at *
      cases A <;> cases B
      all_goals
        repeat' ((first | with_reducible refine IF.tt ?_ | with_reducible refine IF.ff ?_ | refine DRAWN.of (id := 9) tabOK mixed plLawSetLaws1 (by kernel_rfl) ?_ | refine DRAWN.of (id := 13) tabOK mixed plLawSetLaws2 (by kernel_rfl) ?_ | with_reducible refine ADD.mk (fun _ _ => ?_) | with_reducible refine NEED.mk (Det.of rfl) ?_ | refine NEED.mk (det_pos (by omega)) ?_ | with_reducible refine FORK.mk ?_ ?_ | (refine GET.at (row := qdRow (all[i]'(by omega))) gA ?_; conv => whnf) | refine NEED.au ?_ | ((with_reducible apply GET.at); rfl) | ((with_reducible apply GETG.at); rfl) | ((with_reducible refine UNK.mk (fun h => ?_) ?_) <;> try (exfalso; omega)) | ((with_reducible refine IF.mk (fun h => ?_) (fun h => ?_)) <;> (try simp (disch := omega) only [hsB, hsC, lnB, wrap64, wrap32, simprocAttr] at h) <;> try (exfalso; omega))) <;> conv => whnf)
        refine CALL.at [0] (iA) rfl rfl rfl rfl (by first | rfl | (simp only [belowO, belowH, plainLL_below _ (plainQds _), Bool.and_self, Bool.and_true] <;> rfl)) (by first | rfl | (simp only [belowO, belowH, plainLL_below _ (plainQds _), Bool.and_self, Bool.and_true] <;> rfl)) (by repeat' (first | exact trivial | exact (renH_plain _ (h := .rows _ _) (plainQds _)).symm | exact rfl | exact (renH_plain _ (h := .rows _ _) (plainQds _)).trans (renH_plain _ (h := .rows _ _) (plainQds _)).symm | ((conv => whnf); refine ⟨?_, ?_⟩))) (by repeat' (first | exact trivial | exact (renH_plain _ (h := .rows _ _) (plainQds _)).symm | exact rfl | exact (renH_plain _ (h := .rows _ _) (plainQds _)).trans (renH_plain _ (h := .rows _ _) (plainQds _)).symm | ((conv => whnf); refine ⟨?_, ?_⟩))) rfl rfl ?_
        rintro r O nx ⟨rfl, rfl, rfl⟩
        conv => whnf
        repeat' ((first | with_reducible refine IF.tt ?_ | with_reducible refine IF.ff ?_ | refine DRAWN.of (id := 9) tabOK mixed plLawSetLaws1 (by kernel_rfl) ?_ | refine DRAWN.of (id := 13) tabOK mixed plLawSetLaws2 (by kernel_rfl) ?_ | with_reducible refine ADD.mk (fun _ _ => ?_) | with_reducible refine NEED.mk (Det.of rfl) ?_ | refine NEED.mk (det_pos (by omega)) ?_ | with_reducible refine FORK.mk ?_ ?_ | (refine GET.at (row := qdRow (all[i]'(by omega))) gA ?_; conv => whnf) | refine NEED.au ?_ | ((with_reducible apply GET.at); rfl) | ((with_reducible apply GETG.at); rfl) | ((with_reducible refine UNK.mk (fun h => ?_) ?_) <;> try (exfalso; omega)) | ((with_reducible refine IF.mk (fun h => ?_) (fun h => ?_)) <;> (try simp (disch := omega) only [hsB, hsC, lnB, wrap64, wrap32, simprocAttr] at h) <;> try (exfalso; omega))) <;> conv => whnf)
        refine CALL.at [1] (iB) rfl rfl rfl rfl (by first | rfl | (simp only [belowO, belowH, plainLL_below _ (plainQds _), Bool.and_self, Bool.and_true] <;> rfl)) (by first | rfl | (simp only [belowO, belowH, plainLL_below _ (plainQds _), Bool.and_self, Bool.and_true] <;> rfl)) (by repeat' (first | exact trivial | exact (renH_plain _ (h := .rows _ _) (plainQds _)).symm | exact rfl | exact (renH_plain _ (h := .rows _ _) (plainQds _)).trans (renH_plain _ (h := .rows _ _) (plainQds _)).symm | ((conv => whnf); refine ⟨?_, ?_⟩))) (by repeat' (first | exact trivial | exact (renH_plain _ (h := .rows _ _) (plainQds _)).symm | exact rfl | exact (renH_plain _ (h := .rows _ _) (plainQds _)).trans (renH_plain _ (h := .rows _ _) (plainQds _)).symm | ((conv => whnf); refine ⟨?_, ?_⟩))) rfl rfl ?_
        rintro r O nx ⟨rfl, rfl, rfl⟩
        conv => whnf
        repeat' ((first | with_reducible refine IF.tt ?_ | with_reducible refine IF.ff ?_ | refine DRAWN.of (id := 9) tabOK mixed plLawSetLaws1 (by kernel_rfl) ?_ | refine DRAWN.of (id := 13) tabOK mixed plLawSetLaws2 (by kernel_rfl) ?_ | with_reducible refine ADD.mk (fun _ _ => ?_) | with_reducible refine NEED.mk (Det.of rfl) ?_ | refine NEED.mk (det_pos (by omega)) ?_ | with_reducible refine FORK.mk ?_ ?_ | (refine GET.at (row := qdRow (all[i]'(by omega))) gA ?_; conv => whnf) | refine NEED.au ?_ | ((with_reducible apply GET.at); rfl) | ((with_reducible apply GETG.at); rfl) | ((with_reducible refine UNK.mk (fun h => ?_) ?_) <;> try (exfalso; omega)) | ((with_reducible refine IF.mk (fun h => ?_) (fun h => ?_)) <;> (try simp (disch := omega) only [hsB, hsC, lnB, wrap64, wrap32, simprocAttr] at h) <;> try (exfalso; omega))) <;> conv => whnf)
        refine CALL.at [3] (fS) rfl rfl rfl rfl (by first | rfl | (simp only [belowO, belowH, plainLL_below _ (plainQds _), Bool.and_self, Bool.and_true] <;> rfl)) (by first | rfl | (simp only [belowO, belowH, plainLL_below _ (plainQds _), Bool.and_self, Bool.and_true] <;> rfl)) (by repeat' (first | exact trivial | exact (renH_plain _ (h := .rows _ _) (plainQds _)).symm | exact rfl | exact (renH_plain _ (h := .rows _ _) (plainQds _)).trans (renH_plain _ (h := .rows _ _) (plainQds _)).symm | ((conv => whnf); refine ⟨?_, ?_⟩))) (by repeat' (first | exact trivial | exact (renH_plain _ (h := .rows _ _) (plainQds _)).symm | exact rfl | exact (renH_plain _ (h := .rows _ _) (plainQds _)).trans (renH_plain _ (h := .rows _ _) (plainQds _)).symm | ((conv => whnf); refine ⟨?_, ?_⟩))) rfl rfl ?_
        rintro r O nx ⟨rfl, rfl, rfl⟩
        conv => whnf
        repeat' ((first | with_reducible refine IF.tt ?_ | with_reducible refine IF.ff ?_ | refine DRAWN.of (id := 9) tabOK mixed plLawSetLaws1 (by kernel_rfl) ?_ | refine DRAWN.of (id := 13) tabOK mixed plLawSetLaws2 (by kernel_rfl) ?_ | with_reducible refine ADD.mk (fun _ _ => ?_) | with_reducible refine NEED.mk (Det.of rfl) ?_ | refine NEED.mk (det_pos (by omega)) ?_ | with_reducible refine FORK.mk ?_ ?_ | (refine GET.at (row := qdRow (all[i]'(by omega))) gA ?_; conv => whnf) | refine NEED.au ?_ | ((with_reducible apply GET.at); rfl) | ((with_reducible apply GETG.at); rfl) | ((with_reducible refine UNK.mk (fun h => ?_) ?_) <;> try (exfalso; omega)) | ((with_reducible refine IF.mk (fun h => ?_) (fun h => ?_)) <;> (try simp (disch := omega) only [hsB, hsC, lnB, wrap64, wrap32, simprocAttr] at h) <;> try (exfalso; omega))) <;> conv => whnf)
        refine CALL.at [5] (fU) rfl rfl rfl rfl (by first | rfl | (simp only [belowO, belowH, plainLL_below _ (plainQds _), Bool.and_self, Bool.and_true] <;> rfl)) (by first | rfl | (simp only [belowO, belowH, plainLL_below _ (plainQds _), Bool.and_self, Bool.and_true] <;> rfl)) (by repeat' (first | exact trivial | exact (renH_plain _ (h := .rows _ _) (plainQds _)).symm | exact rfl | exact (renH_plain _ (h := .rows _ _) (plainQds _)).trans (renH_plain _ (h := .rows _ _) (plainQds _)).symm | ((conv => whnf); refine ⟨?_, ?_⟩))) (by repeat' (first | exact trivial | exact (renH_plain _ (h := .rows _ _) (plainQds _)).symm | exact rfl | exact (renH_plain _ (h := .rows _ _) (plainQds _)).trans (renH_plain _ (h := .rows _ _) (plainQds _)).symm | ((conv => whnf); refine ⟨?_, ?_⟩))) rfl rfl ?_
        rintro r O nx ⟨rfl, rfl, rfl⟩
        conv => whnf
        repeat' ((first | with_reducible refine IF.tt ?_ | with_reducible refine IF.ff ?_ | refine DRAWN.of (id := 9) tabOK mixed plLawSetLaws1 (by kernel_rfl) ?_ | refine DRAWN.of (id := 13) tabOK mixed plLawSetLaws2 (by kernel_rfl) ?_ | with_reducible refine ADD.mk (fun _ _ => ?_) | with_reducible refine NEED.mk (Det.of rfl) ?_ | refine NEED.mk (det_pos (by omega)) ?_ | with_reducible refine FORK.mk ?_ ?_ | (refine GET.at (row := qdRow (all[i]'(by omega))) gA ?_; conv => whnf) | refine NEED.au ?_ | ((with_reducible apply GET.at); rfl) | ((with_reducible apply GETG.at); rfl) | ((with_reducible refine UNK.mk (fun h => ?_) ?_) <;> try (exfalso; omega)) | ((with_reducible refine IF.mk (fun h => ?_) (fun h => ?_)) <;> (try simp (disch := omega) only [hsB, hsC, lnB, wrap64, wrap32, simprocAttr] at h) <;> try (exfalso; omega))) <;> conv => whnf)
        refine CALL.at [6] (fM) rfl rfl rfl rfl (by first | rfl | (simp only [belowO, belowH, plainLL_below _ (plainQds _), Bool.and_self, Bool.and_true] <;> rfl)) (by first | rfl | (simp only [belowO, belowH, plainLL_below _ (plainQds _), Bool.and_self, Bool.and_true] <;> rfl)) (by repeat' (first | exact trivial | exact (renH_plain _ (h := .rows _ _) (plainQds _)).symm | exact rfl | exact (renH_plain _ (h := .rows _ _) (plainQds _)).trans (renH_plain _ (h := .rows _ _) (plainQds _)).symm | ((conv => whnf); refine ⟨?_, ?_⟩))) (by repeat' (first | exact trivial | exact (renH_plain _ (h := .rows _ _) (plainQds _)).symm | exact rfl | exact (renH_plain _ (h := .rows _ _) (plainQds _)).trans (renH_plain _ (h := .rows _ _) (plainQds _)).symm | ((conv => whnf); refine ⟨?_, ?_⟩))) rfl rfl ?_
        rintro r O nx ⟨rfl, rfl, rfl⟩
        conv => whnf
        repeat' ((first | with_reducible refine IF.tt ?_ | with_reducible refine IF.ff ?_ | refine DRAWN.of (id := 9) tabOK mixed plLawSetLaws1 (by kernel_rfl) ?_ | refine DRAWN.of (id := 13) tabOK mixed plLawSetLaws2 (by kernel_rfl) ?_ | with_reducible refine ADD.mk (fun _ _ => ?_) | with_reducible refine NEED.mk (Det.of rfl) ?_ | refine NEED.mk (det_pos (by omega)) ?_ | with_reducible refine FORK.mk ?_ ?_ | (refine GET.at (row := qdRow (all[i]'(by omega))) gA ?_; conv => whnf) | refine NEED.au ?_ | ((with_reducible apply GET.at); rfl) | ((with_reducible apply GETG.at); rfl) | ((with_reducible refine UNK.mk (fun h => ?_) ?_) <;> try (exfalso; omega)) | ((with_reducible refine IF.mk (fun h => ?_) (fun h => ?_)) <;> (try simp (disch := omega) only [hsB, hsC, lnB, wrap64, wrap32, simprocAttr] at h) <;> try (exfalso; omega))) <;> conv => whnf)
        refine CALL.at [7] (fN) rfl rfl rfl rfl (by first | rfl | (simp only [belowO, belowH, plainLL_below _ (plainQds _), Bool.and_self, Bool.and_true] <;> rfl)) (by first | rfl | (simp only [belowO, belowH, plainLL_below _ (plainQds _), Bool.and_self, Bool.and_true] <;> rfl)) (by repeat' (first | exact trivial | exact (renH_plain _ (h := .rows _ _) (plainQds _)).symm | exact rfl | exact (renH_plain _ (h := .rows _ _) (plainQds _)).trans (renH_plain _ (h := .rows _ _) (plainQds _)).symm | ((conv => whnf); refine ⟨?_, ?_⟩))) (by repeat' (first | exact trivial | exact (renH_plain _ (h := .rows _ _) (plainQds _)).symm | exact rfl | exact (renH_plain _ (h := .rows _ _) (plainQds _)).trans (renH_plain _ (h := .rows _ _) (plainQds _)).symm | ((conv => whnf); refine ⟨?_, ?_⟩))) rfl rfl ?_
        rintro r O nx ⟨rfl, rfl, rfl⟩
        conv => whnf
        repeat' ((first | with_reducible refine IF.tt ?_ | with_reducible refine IF.ff ?_ | refine DRAWN.of (id := 9) tabOK mixed plLawSetLaws1 (by kernel_rfl) ?_ | refine DRAWN.of (id := 13) tabOK mixed plLawSetLaws2 (by kernel_rfl) ?_ | with_reducible refine ADD.mk (fun _ _ => ?_) | with_reducible refine NEED.mk (Det.of rfl) ?_ | refine NEED.mk (det_pos (by omega)) ?_ | with_reducible refine FORK.mk ?_ ?_ | (refine GET.at (row := qdRow (all[i]'(by omega))) gA ?_; conv => whnf) | refine NEED.au ?_ | ((with_reducible apply GET.at); rfl) | ((with_reducible apply GETG.at); rfl) | ((with_reducible refine UNK.mk (fun h => ?_) ?_) <;> try (exfalso; omega)) | ((with_reducible refine IF.mk (fun h => ?_) (fun h => ?_)) <;> (try simp (disch := omega) only [hsB, hsC, lnB, wrap64, wrap32, simprocAttr] at h) <;> try (exfalso; omega))) <;> conv => whnf)
        all_goals first
          | (refine ⟨i + 1, by omega, by omega, ?_⟩; (conv => whnf); (refine GOES.cutting h0 rfl rfl rfl (by (repeat' (first | (refine belowO_cons rfl ?_ ?_) | exact belowH_rows (plainQds _) | exact belowH_renrows (plainQds _) | rfl))) ?_ ?_ <;> (repeat' (first | (with_reducible rfl) | exact trivial | (exact sl_eq rfl (by first | omega | (simp (disch := omega) only [lnB, wrap64, wrap32] <;> omega) | (simp; done) | (simp <;> omega))) | (exact congrArg (SV.int _) (by first | omega | (simp (disch := omega) only [lnB, wrap64, wrap32] <;> omega) | (simp; done) | (simp <;> omega))) | (exact box_int (by first | omega | (simp (disch := omega) only [lnB, wrap64, wrap32] <;> omega) | (simp; done) | (simp <;> omega))) | (exact box_sl (by first | omega | (simp (disch := omega) only [lnB, wrap64, wrap32] <;> omega) | (simp; done) | (simp <;> omega))) | (exact renH_plain _ (h := .rows _ _) (plainQds _)) | (exact congrArg (Hp.rows _) (by rfl)) | ((conv => whnf); refine ⟨?_, ?_⟩) | rfl))); done)
          | trace_state
    · have hsum1 := hsum.1
      have hsum2 := hsum.2
      repeat' ((first | with_reducible refine IF.tt ?_ | with_reducible refine IF.ff ?_ | refine NEED.au ?_ | ((with_reducible apply GET.at); rfl) | ((with_reducible apply GETG.at); rfl) | ((with_reducible refine UNK.mk (fun h => ?_) ?_) <;> try (exfalso; omega)) | ((with_reducible refine IF.mk (fun h => ?_) (fun h => ?_)) <;> (try simp (disch := omega) only [hsB, hsC, lnB, wrap64, wrap32, simprocAttr] at h) <;> try (exfalso; omega))) <;> conv => whnf)
      have e1 : (u.length : Int) + (m.length : Int) = (s.length : Int) + (t.length : Int) := by omega
      have e2 : IntKind.i64.wrap ((n.length : Int) + (m.length : Int)) = (s.length : Int) := by rw [wrap64 (by omega) (by omega)]; omega
      refine FIN.valueK h0 rfl (congrArg SV.bool ?_)
      rw [e1, e2]
      simp
end Go.Proofs.YtillkgjdbnjnoaaGreatDoor
/- Slices that come in, told to the engine; from a contract over them to a row's walk. Conditions: none. -/
set_option linter.unusedVariables false
set_option linter.unusedSimpArgs false
namespace Go.Proofs.YtillkgjdbnjnoaaGreatDoor
open Go.RowKit Go.Our Go.ChangeShapes Go.WideShapes Go.ChangeAt Go.Sx
section
variable {H : Type} {enc : TypeId × Value → H} {w : World}
theorem qdRow_den (η : Env) (q : Qd) (j : Nat) (sv : SV) (h : (qdRow q)[j]? = some sv) : ∃ u, (qdL q)[j]? = some u ∧ u.oneCell' = true ∧ Den η sv u := by
  have hlt := (List.getElem?_eq_some_iff.1 h).1
  have hl : (qdRow q).length = 16 := rfl
  rw [hl] at hlt
  match j, hlt with
  | 0, _ | 1, _ | 2, _ | 3, _ | 4, _ | 5, _ | 6, _ | 7, _ | 8, _ | 9, _ | 10, _ | 11, _ | 12, _ | 13, _ | 14, _ | 15, _ => injection h with h; subst h; exact ⟨_, rfl, rfl, by simp only [Den]⟩
set_option maxRecDepth 100000 in
theorem read_qds {v : Value} {d : DataW H} {p : List MemPlace} {r : Reach} {b0 : Nat} (ho : Value.okWide Tryz.prog w r b0 22 v) (h : DataW.Trod enc Tryz.prog w 0 (fun _ => true) true 22 v d p) :
    ∃ (l : List Qd) (en : Option Ent), SliceIn w v 16 (l.map qdRow) en ∧ ((l = [] ∧ d = .nil) ∨ ∃ z : List Qd, d = .slice (l.map qdD) (z.map qdD)) :=
  slice_in qdL qdD qdRow (by omega) (fun a => ⟨rfl, rfl⟩) qdRow_den Tryz.underlying22 cellsOfQ (fun fuel cs x hx => let ⟨q, h1, h2, _⟩ := trod_qd hx; ⟨q, h1, h2⟩) ho h
theorem bytesOfQ : Tryz.prog.bytesOf 26 = 224 := by kernel_rfl
theorem qds_small {l : List Qd} {d : DataW H} (hd : (l = [] ∧ d = .nil) ∨ ∃ z : List Qd, d = .slice (l.map qdD) (z.map qdD)) (h : (d.weights Tryz.prog 22).all (fun n => decide (n ≤ reachBytes)) = true) : l.length * 224 ≤ 140737488351232 ∧ ∀ q ∈ l, QdSm q := by
  rcases hd with ⟨rfl, rfl⟩ | ⟨z, rfl⟩
  · simp
  · simp only [DataW.weights, Tryz.underlying22, bytesOfQ, List.length_map, List.all_cons, List.all_append, Bool.and_eq_true, decide_eq_true_eq] at h
    obtain ⟨h1, h2, _⟩ := h
    refine ⟨by unfold reachBytes at h1; rw [Nat.add_mul] at h1; omega, ?_⟩
    have hall : ∀ (l : List Qd), (DataW.weightsAll Tryz.prog 26 (l.map (qdD (H := H)))).all (fun n => decide (n ≤ reachBytes)) = true → ∀ q ∈ l, QdSm q := by
      intro l
      induction l with
      | nil => intro _ q hq; cases hq
      | cons a l ih =>
        intro h q hq
        simp only [List.map_cons, DataW.weightsAll, List.all_append, Bool.and_eq_true] at h
        rcases List.mem_cons.1 hq with rfl | hq
        · exact qd_sm (H := H) h.1
        · exact ih h.2 q hq
    exact hall l h2
end
end Go.Proofs.YtillkgjdbnjnoaaGreatDoor
/- TermSetLaws: the row and its card out of the walk. Conditions: none beyond the statement's own (its bound on the bulk of what is read). -/
set_option linter.unusedVariables false
namespace Go.Proofs.YtillkgjdbnjnoaaGreatDoor.termSetLawsUpto
open Go.ChangeShapes Go.WideShapes Go.ChangeAt Go.RowKit Go.Our
open Go.ChangeMaps (open_string shut_string)
theorem own : ownKnob Tryz.prog.godebug = none := by kernel_rfl
theorem laidOut : laidOutB Tryz.prog = true := by kernel_rfl
theorem readable : ∀ t ∈ Tryz.f3.params.toList, Tryz.prog.readableRec t = true ∧ t < Tryz.prog.types.size := by
  have h : (Tryz.f3.params.toList.all fun t => Tryz.prog.readableRec t && decide (t < Tryz.prog.types.size)) = true := by kernel_rfl
  intro t ht
  have := List.all_eq_true.1 h t ht
  simpa using this
theorem bulk_len {H : Type} : ∀ (l : List (DataW H)), l.length ≤ Rows.uptoBulkAll l
  | [] => by simp
  | d :: l => by
    have := bulk_len l
    have h1 : 1 ≤ Rows.uptoBulk d := by
      cases d with
      | lit x => cases x <;> simp [Rows.uptoBulk]
      | _ => simp [Rows.uptoBulk]
    simp only [List.length_cons, Rows.uptoBulkAll]; omega
theorem upto_len {H : Type} {l : List Qd} {d : DataW H} (hd : (l = [] ∧ d = .nil) ∨ ∃ z : List Qd, d = .slice (l.map qdD) (z.map qdD)) {n : Nat} (h : Rows.uptoBulk d ≤ n) : l.length ≤ n := by
  rcases hd with ⟨rfl, rfl⟩ | ⟨z, rfl⟩
  · simp
  · have := bulk_len (H := H) (l.map qdD)
    simp only [Rows.uptoBulk, List.length_map] at this h; omega
set_option maxRecDepth 100000 in
theorem contract (H : Type) (enc : TypeId × Value → H) (W : World) (base : Nat) (args : Array Value) (ds gs : List (DataW H)) (before : List MemPlace)
    (hval : ∀ (j : Nat) t v, Tryz.f3.params[j]? = some t → args[j]? = some v → Value.okWide Tryz.prog W .any base t v)
    (hW : DataW.Whole enc Tryz.prog Tryz.f3.params.toList Rows.termSetLawsSpec.vars false W args.toList ds gs before)
    (hk : Rows.uptoSmall H (ds ++ gs) = true)
    (hsz : (DataW.weightsEach Tryz.prog (Tryz.f3.params.toList ++ (OpenSpec.ofChange Rows.termSetLawsSpec).bare.plain.varTypes Tryz.prog) (ds ++ gs)).all (fun x => decide (x ≤ reachBytes)) = true)
    (hL : laidMetH Tryz.prog Rows.termSetLawsRow.laid W)
    : Calls Tryz.prog 3 args W fun e W' => ∃ v, e = .returned v ∧ Rows.termSetLawsSpec.post enc Tryz.prog Tryz.f3 false true false false W args v W' := by
  have hW' := hW
  have hlt := hW.lt
  obtain ⟨p, q, hA0, hV, rfl, hfz, hnd⟩ := hW
  have hA : DataW.TrodAll enc Tryz.prog W 0 (fun _ => true) true Tryz.f3.params.toList args.toList ds p := hA0
  rw [Tryz.params3] at hA hval
  obtain ⟨v0, vs0, d0, ds0, p0, q0, hargs, rfl, rfl, h0, r0⟩ := trodAll_cons hA
  obtain ⟨v1, vs1, d1, ds1, p1, q1, rfl, rfl, rfl, h1, r1⟩ := trodAll_cons r0
  obtain ⟨v2, vs2, d2, ds2, p2, q2, rfl, rfl, rfl, h2, r2⟩ := trodAll_cons r1
  obtain ⟨rfl, rfl, rfl⟩ := trodAll_nil r2
  obtain rfl : args = #[v0, v1, v2] := by cases args; simp_all
  obtain ⟨rfl, rfl⟩ := trodVars_none hV
  have hlt' : ∀ x ∈ p0 ++ p1 ++ p2, x.block < W.heap.size := fun x hx => hlt x (by simpa using hx)
  have hsz' : (DataW.weightsEach Tryz.prog [22, 22, 26] [d0, d1, d2]).all (fun x => decide (x ≤ reachBytes)) = true := hsz
  simp only [DataW.weightsEach] at hsz'
  simp only [Rows.uptoSmall, decide_eq_true_eq, List.append_nil, Rows.uptoBulkAll] at hk
  have sz0 := all_left hsz'
  have rs0 := all_right hsz'
  obtain ⟨l0, en0, sl0, dd0⟩ := read_qds (hval 0 22 v0 rfl rfl) h0
  have sm0 := qds_small dd0 sz0
  have sz1 := all_left rs0
  have rs1 := all_right rs0
  obtain ⟨l1, en1, sl1, dd1⟩ := read_qds (hval 1 22 v1 rfl rfl) h1
  have sm1 := qds_small dd1 sz1
  have sz2 := all_left rs1
  obtain ⟨t2, rfl, hd2, ok2⟩ := read_qd (hval 2 26 v2 rfl rfl) h2
  have sm2 := qd_sm (by rw [← hd2]; exact sz2)
  refine (law_calls2 sl0 sl1 (lawSetLaws_does l0 l1 t2 (upto_len dd0 (by omega)) (upto_len dd1 (by omega))) Tryz.call3 ⟨_, _, rfl, sl0.den rfl, _, _, rfl, sl1.den rfl, _, _, rfl, Go.Sx.Den.mono List.nil_prefix (den_qd t2), rfl⟩ (globOf rfl hL)).mono fun e W' ⟨he, hb⟩ => ?_
  subst he
  exact ⟨_, rfl, law_post laidOut readable rfl Tryz.underlying4 hW' rfl rfl rfl rfl hb⟩
/-- A world for the witness: the settled one, each listed variable holding what its initialiser lays. -/
noncomputable def laidWorld (os : Os) : World :=
  { World.holding Tryz.prog os ⟨#[], #[], []⟩ with heap := ((((World.holding Tryz.prog os ⟨#[], #[], []⟩).heap.modify 3 fun | .cells _ t fz => .cells #[.int .u8 128, .int .u8 191, .int .u8 160, .int .u8 191, .int .u8 128, .int .u8 159, .int .u8 144, .int .u8 191, .int .u8 128, .int .u8 143, .int .u8 0, .int .u8 0, .int .u8 0, .int .u8 0, .int .u8 0, .int .u8 0, .int .u8 0, .int .u8 0, .int .u8 0, .int .u8 0, .int .u8 0, .int .u8 0, .int .u8 0, .int .u8 0, .int .u8 0, .int .u8 0, .int .u8 0, .int .u8 0, .int .u8 0, .int .u8 0, .int .u8 0, .int .u8 0] t fz | o => o).modify 1 fun | .cells _ t fz => .cells #[.int .i32 192, .int .i32 214, .int .i32 216, .int .i32 246, .int .i32 248, .int .i32 767, .int .i32 880, .int .i32 893, .int .i32 895, .int .i32 8191, .int .i32 8204, .int .i32 8205, .int .i32 8304, .int .i32 8591, .int .i32 11264, .int .i32 12271, .int .i32 12289, .int .i32 55295, .int .i32 63744, .int .i32 64975, .int .i32 65008, .int .i32 65533, .int .i32 65536, .int .i32 983039] t fz | o => o).modify 2 fun | .cells _ t fz => .cells #[.int .u8 240, .int .u8 240, .int .u8 240, .int .u8 240, .int .u8 240, .int .u8 240, .int .u8 240, .int .u8 240, .int .u8 240, .int .u8 240, .int .u8 240, .int .u8 240, .int .u8 240, .int .u8 240, .int .u8 240, .int .u8 240, .int .u8 240, .int .u8 240, .int .u8 240, .int .u8 240, .int .u8 240, .int .u8 240, .int .u8 240, .int .u8 240, .int .u8 240, .int .u8 240, .int .u8 240, .int .u8 240, .int .u8 240, .int .u8 240, .int .u8 240, .int .u8 240, .int .u8 240, .int .u8 240, .int .u8 240, .int .u8 240, .int .u8 240, .int .u8 240, .int .u8 240, .int .u8 240, .int .u8 240, .int .u8 240, .int .u8 240, .int .u8 240, .int .u8 240, .int .u8 240, .int .u8 240, .int .u8 240, .int .u8 240, .int .u8 240, .int .u8 240, .int .u8 240, .int .u8 240, .int .u8 240, .int .u8 240, .int .u8 240, .int .u8 240, .int .u8 240, .int .u8 240, .int .u8 240, .int .u8 240, .int .u8 240, .int .u8 240, .int .u8 240, .int .u8 240, .int .u8 240, .int .u8 240, .int .u8 240, .int .u8 240, .int .u8 240, .int .u8 240, .int .u8 240, .int .u8 240, .int .u8 240, .int .u8 240, .int .u8 240, .int .u8 240, .int .u8 240, .int .u8 240, .int .u8 240, .int .u8 240, .int .u8 240, .int .u8 240, .int .u8 240, .int .u8 240, .int .u8 240, .int .u8 240, .int .u8 240, .int .u8 240, .int .u8 240, .int .u8 240, .int .u8 240, .int .u8 240, .int .u8 240, .int .u8 240, .int .u8 240, .int .u8 240, .int .u8 240, .int .u8 240, .int .u8 240, .int .u8 240, .int .u8 240, .int .u8 240, .int .u8 240, .int .u8 240, .int .u8 240, .int .u8 240, .int .u8 240, .int .u8 240, .int .u8 240, .int .u8 240, .int .u8 240, .int .u8 240, .int .u8 240, .int .u8 240, .int .u8 240, .int .u8 240, .int .u8 240, .int .u8 240, .int .u8 240, .int .u8 240, .int .u8 240, .int .u8 240, .int .u8 240, .int .u8 240, .int .u8 240, .int .u8 240, .int .u8 240, .int .u8 241, .int .u8 241, .int .u8 241, .int .u8 241, .int .u8 241, .int .u8 241, .int .u8 241, .int .u8 241, .int .u8 241, .int .u8 241, .int .u8 241, .int .u8 241, .int .u8 241, .int .u8 241, .int .u8 241, .int .u8 241, .int .u8 241, .int .u8 241, .int .u8 241, .int .u8 241, .int .u8 241, .int .u8 241, .int .u8 241, .int .u8 241, .int .u8 241, .int .u8 241, .int .u8 241, .int .u8 241, .int .u8 241, .int .u8 241, .int .u8 241, .int .u8 241, .int .u8 241, .int .u8 241, .int .u8 241, .int .u8 241, .int .u8 241, .int .u8 241, .int .u8 241, .int .u8 241, .int .u8 241, .int .u8 241, .int .u8 241, .int .u8 241, .int .u8 241, .int .u8 241, .int .u8 241, .int .u8 241, .int .u8 241, .int .u8 241, .int .u8 241, .int .u8 241, .int .u8 241, .int .u8 241, .int .u8 241, .int .u8 241, .int .u8 241, .int .u8 241, .int .u8 241, .int .u8 241, .int .u8 241, .int .u8 241, .int .u8 241, .int .u8 241, .int .u8 241, .int .u8 241, .int .u8 2, .int .u8 2, .int .u8 2, .int .u8 2, .int .u8 2, .int .u8 2, .int .u8 2, .int .u8 2, .int .u8 2, .int .u8 2, .int .u8 2, .int .u8 2, .int .u8 2, .int .u8 2, .int .u8 2, .int .u8 2, .int .u8 2, .int .u8 2, .int .u8 2, .int .u8 2, .int .u8 2, .int .u8 2, .int .u8 2, .int .u8 2, .int .u8 2, .int .u8 2, .int .u8 2, .int .u8 2, .int .u8 2, .int .u8 2, .int .u8 19, .int .u8 3, .int .u8 3, .int .u8 3, .int .u8 3, .int .u8 3, .int .u8 3, .int .u8 3, .int .u8 3, .int .u8 3, .int .u8 3, .int .u8 3, .int .u8 3, .int .u8 35, .int .u8 3, .int .u8 3, .int .u8 52, .int .u8 4, .int .u8 4, .int .u8 4, .int .u8 68, .int .u8 241, .int .u8 241, .int .u8 241, .int .u8 241, .int .u8 241, .int .u8 241, .int .u8 241, .int .u8 241, .int .u8 241, .int .u8 241, .int .u8 241] t fz | o => o) }
theorem laid_met (os : Os) : laidMet Tryz.prog Rows.termSetLawsRow.laid ((laidWorld os).forCall (fun _ _ => 0) ⟨#[], #[Value.slice none 0 0, Value.slice none 0 0, Value.agg #[.int .i64 0, .string ⟨#[]⟩, .string ⟨#[]⟩, .string ⟨#[]⟩, .int .i64 0, .string ⟨#[]⟩, .string ⟨#[]⟩, .string ⟨#[]⟩, .int .i64 0, .string ⟨#[]⟩, .string ⟨#[]⟩, .string ⟨#[]⟩, .int .i64 0, .string ⟨#[]⟩, .string ⟨#[]⟩, .string ⟨#[]⟩]], []⟩).memory :=
  laidMet_of_run' 8 (by kernel_rfl) (by kernel_rfl)
theorem reads (os : Os) {H : Type} (enc : TypeId × Value → H) : ∃ places, DataW.whole enc Tryz.prog ((laidWorld os).forCall (fun _ _ => 0) ⟨#[], #[Value.slice none 0 0, Value.slice none 0 0, Value.agg #[.int .i64 0, .string ⟨#[]⟩, .string ⟨#[]⟩, .string ⟨#[]⟩, .int .i64 0, .string ⟨#[]⟩, .string ⟨#[]⟩, .string ⟨#[]⟩, .int .i64 0, .string ⟨#[]⟩, .string ⟨#[]⟩, .string ⟨#[]⟩, .int .i64 0, .string ⟨#[]⟩, .string ⟨#[]⟩, .string ⟨#[]⟩]], []⟩).memory Tryz.f3.params.toList Rows.termSetLawsSpec.vars false #[Value.slice none 0 0, Value.slice none 0 0, Value.agg #[.int .i64 0, .string ⟨#[]⟩, .string ⟨#[]⟩, .string ⟨#[]⟩, .int .i64 0, .string ⟨#[]⟩, .string ⟨#[]⟩, .string ⟨#[]⟩, .int .i64 0, .string ⟨#[]⟩, .string ⟨#[]⟩, .string ⟨#[]⟩, .int .i64 0, .string ⟨#[]⟩, .string ⟨#[]⟩, .string ⟨#[]⟩]].toList 8 = some ([.nil, .nil, .agg [.agg [.lit (.int .i64 0), .lit (.string []), .lit (.string []), .lit (.string [])], .agg [.lit (.int .i64 0), .lit (.string []), .lit (.string []), .lit (.string [])], .agg [.lit (.int .i64 0), .lit (.string []), .lit (.string []), .lit (.string [])], .agg [.lit (.int .i64 0), .lit (.string []), .lit (.string []), .lit (.string [])]]], [], places) :=
  ⟨[], by kernel_rfl⟩
set_option maxRecDepth 100000 in
theorem lifted (os : Os) (started : os.Started) (H : Type) (enc : TypeId × Value → H) (F : Stop.Interp) :
    ReturnsInHanded {} Tryz.checked os 3 .any ((Rows.OpenSpec.upto Rows.termSetLawsSpec).preRow enc Tryz.prog Tryz.f3 Rows.termSetLawsUptoRow.domain false Rows.termSetLawsUptoRow.laid) (((Rows.OpenSpec.upto Rows.termSetLawsSpec).at F).post enc Tryz.prog Tryz.f3 false true false false) := by
  obtain ⟨places, hx⟩ := reads os enc
  refine returnsInHanded_of_row (C := Tryz.checked) (s := (Rows.OpenSpec.upto Rows.termSetLawsSpec)) own started (by kernel_rfl) Tryz.func3
    (witness_row_at (enc := enc) (C := Tryz.checked) false (laidWorld os) #[.slice none 0 0, .slice none 0 0, .agg #[.int .i64 0, .string ⟨#[]⟩, .string ⟨#[]⟩, .string ⟨#[]⟩, .int .i64 0, .string ⟨#[]⟩, .string ⟨#[]⟩, .string ⟨#[]⟩, .int .i64 0, .string ⟨#[]⟩, .string ⟨#[]⟩, .string ⟨#[]⟩, .int .i64 0, .string ⟨#[]⟩, .string ⟨#[]⟩, .string ⟨#[]⟩]] rfl (by kernel_rfl) (by kernel_rfl) (by kernel_rfl)
      (OpenSpec.preRow_of_cond 8 hx (by kernel_rfl) (fun k hk => by cases hk; kernel_rfl) (by kernel_rfl) (laid_met os))) ?_
  intro W base args ds gs before hval hW _ hcond hsz hL _ _
  exact contract H enc W base args ds gs before hval hW (hcond _ rfl) hsz hL
theorem said : Rows.TermSetLawsUptoSaid :=
  OpenClaim.holds_of_cond 3 Tryz.f3 rfl rfl rfl rfl rfl rfl rfl ⟨rfl, rfl, rfl, rfl, rfl⟩ rfl rfl rfl rfl rfl (by kernel_rfl) Tryz.func3 (by kernel_rfl)
    (of_decide_eq_true (by kernel_rfl)) (by unfold Func.isWrapper; first | (rw [if_pos (by decide +kernel)]; kernel_rfl) | (rw [if_neg (by decide +kernel)]; exact ⟨rfl, rfl⟩))
    (fun os started H enc _ F => by rw [OpenClaim.pre_eq_preRow]; exact lifted os started H enc F)
theorem plain (f : FuncId) (fn : Func) (hf : Tryz.pinned.checked.prog.funcNamed "tessera/tesseralaw07.TermSetLaws" = some f) (hfn : Tryz.pinned.checked.prog.funcs[f]? = some fn) :
    true = Tryz.pinned.checked.prog.looks [] ∧ ∀ (j : Nat) t, fn.params[j]? = some t → Tryz.pinned.checked.prog.wantsStandIn t = false := by
  obtain rfl : f = 3 := Option.some.inj ((show Tryz.prog.funcNamed "tessera/tesseralaw07.TermSetLaws" = some 3 by kernel_rfl).symm.trans hf) |>.symm
  obtain rfl : fn = Tryz.f3 := (Option.some.inj (Tryz.func3.symm.trans hfn)).symm
  refine ⟨by kernel_rfl, fun j t ht => ?_⟩
  have h : (Tryz.f3.params.toList.all fun t => !Tryz.prog.wantsStandIn t) = true := by kernel_rfl
  have := List.all_eq_true.1 h t (by simpa using Array.mem_of_getElem? ht)
  have e : Tryz.prog.wantsStandIn t = false := by simpa using this
  exact e
theorem card : Rows.TermSetLawsUptoCardSaid :=
  Claim7.holds_tied_plain_at .later [] _ _ _ _ said (fun _ h => by cases h) (by kernel_rfl) (fun _ h => by cases h) termSetLawsUpto_row_tie rfl ⟨rfl, rfl⟩ (by kernel_rfl) rfl plain (by kernel_rfl)
end Go.Proofs.YtillkgjdbnjnoaaGreatDoor.termSetLawsUpto
