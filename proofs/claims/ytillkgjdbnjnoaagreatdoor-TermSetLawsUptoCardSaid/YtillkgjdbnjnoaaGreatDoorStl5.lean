/- Part 5 of the texts that the last one leans on: Tag3, Tag4, TermM, Term1, TextM, NextM, Next1, Next3, Text7, Awake, SxKeep. Conditions: as each part says. -/
import Derived.Test.YtillkgjdbnjnoaaGreatDoorStl4
/- names: the reader of tags: what stands behind the language, walked. Conditions: none. -/
set_option linter.unusedVariables false
set_option linter.unusedSimpArgs false
set_option maxRecDepth 20000
set_option maxHeartbeats 8000000
namespace Go.Proofs.YtillkgjdbnjnoaaGreatDoor
open Go.Sx Go.Our
theorem rest_does (ps : List (List UInt8)) (hb : bulkM ps + ps.length ≤ 68719476736) (i m : Nat) (him : i + m = ps.length) (L E : List UInt8) (P : List UInt8) :
    Does Tryz.prog tab 83 4 [.ptr (.loc 0) 0 0 0] [(0, rdBox i m L E [] [] 0 0 P), (2, .rows 1 []), (3, .rows 1 [])] [(1, .rows 1 (ps.map strRow))]
      (fun r O nx => ∃ (i' m' : Nat) (S R : List UInt8), i' + m' = ps.length ∧ r = .bool (restP (ps.drop i)).isSome ∧ (∀ l, restP (ps.drop i) = some l → l = ps.drop i') ∧ O = [(0, rdBoxA i' m' L E S R 0 0 P)] ∧ nx = 4) := by
  have hsm := bulk_sm (ps := ps) (by omega)
  refine Does.enter tabOK (g := 83) (fn := Tryz.f83) Tryz.call83 Tryz.func83 rfl 85 rfl rfl [.tmp 2] rfl ?_
  intro w0 F η0 h0
  conv => whnf
  refine CALL.here (sees_does 109 _ ps (fun s hs => rest1_does s (hsm s hs)) i m him L E [] [] 0 0 P) rfl rfl (by first | rfl | (simp only [belowO, belowH, plainLL_below _ (plainStrs _), Bool.and_self, Bool.and_true] <;> rfl)) (by first | rfl | (simp only [belowO, belowH, plainLL_below _ (plainStrs _), Bool.and_self, Bool.and_true] <;> rfl)) (by repeat' (first | exact trivial | exact rfl | ((conv => whnf); refine ⟨?_, ?_⟩))) (by repeat' (first | exact trivial | exact rfl | ((conv => whnf); refine ⟨?_, ?_⟩))) rfl ?_ ?_
  · rintro r O' nx' ⟨rfl, rfl, rfl⟩; exact ⟨rfl, rfl, rfl⟩
  rintro r O' ⟨rfl, rfl, _⟩
  conv => whnf
  refine IF.mk (fun h1 => ?_) (fun h1 => ?_)
  · obtain ⟨p, hp, hpm⟩ := sees_yes h1
    have hlt := (List.getElem?_eq_some_iff.1 hp).1
    have hk1 := skip_yes (p := fun s => madeM s 4 4 true) hp hpm
    obtain ⟨k, rfl⟩ : ∃ k, m = k + 1 := ⟨m - 1, by omega⟩
    conv => whnf
    refine CALL.here (next_tag_does ps i k him p hp L E [] [] 0 0 P) rfl rfl (by first | rfl | (simp only [belowO, belowH, plainLL_below _ (plainStrs _), Bool.and_self, Bool.and_true] <;> rfl)) (by first | rfl | (simp only [belowO, belowH, plainLL_below _ (plainStrs _), Bool.and_self, Bool.and_true] <;> rfl)) (by repeat' (first | exact trivial | exact rfl | ((conv => whnf); refine ⟨?_, ?_⟩))) (by repeat' (first | exact trivial | exact rfl | ((conv => whnf); refine ⟨?_, ?_⟩))) rfl ?_ ?_
    · rintro r O' nx' ⟨rfl, rfl, rfl⟩; exact ⟨rfl, rfl, rfl⟩
    rintro r O' ⟨rfl, rfl, _⟩
    conv => whnf
    refine CALL.here (sees_does 110 _ ps (fun s hs => region_does s (hsm s hs)) (i + 1) k (by omega) L E p [] 0 0 P) rfl rfl (by first | rfl | (simp only [belowO, belowH, plainLL_below _ (plainStrs _), Bool.and_self, Bool.and_true] <;> rfl)) (by first | rfl | (simp only [belowO, belowH, plainLL_below _ (plainStrs _), Bool.and_self, Bool.and_true] <;> rfl)) (by repeat' (first | exact trivial | exact rfl | ((conv => whnf); refine ⟨?_, ?_⟩))) (by repeat' (first | exact trivial | exact rfl | ((conv => whnf); refine ⟨?_, ?_⟩))) rfl ?_ ?_
    · rintro r O' nx' ⟨rfl, rfl, rfl⟩; exact ⟨rfl, rfl, rfl⟩
    rintro r O' ⟨rfl, rfl, _⟩
    conv => whnf
    refine IF.mk (fun h1 => ?_) (fun h1 => ?_)
    · obtain ⟨q, hq, hqm⟩ := sees_yes h1
      have hlt := (List.getElem?_eq_some_iff.1 hq).1
      obtain ⟨k2, rfl⟩ : ∃ k2, k = k2 + 1 := ⟨k - 1, by omega⟩
      have he : skipIf regionM (skipIf (fun s => madeM s 4 4 true) (ps.drop i)) = ps.drop (i + 1 + 1) := by rw [hk1, skip_yes hq hqm]
      conv => whnf
      refine CALL.here (next_tag_does ps (i + 1) k2 (by omega) q hq L E p [] 0 0 P) rfl rfl (by first | rfl | (simp only [belowO, belowH, plainLL_below _ (plainStrs _), Bool.and_self, Bool.and_true] <;> rfl)) (by first | rfl | (simp only [belowO, belowH, plainLL_below _ (plainStrs _), Bool.and_self, Bool.and_true] <;> rfl)) (by repeat' (first | exact trivial | exact rfl | ((conv => whnf); refine ⟨?_, ?_⟩))) (by repeat' (first | exact trivial | exact rfl | ((conv => whnf); refine ⟨?_, ?_⟩))) rfl ?_ ?_
      · rintro r O' nx' ⟨rfl, rfl, rfl⟩; exact ⟨rfl, rfl, rfl⟩
      rintro r O' ⟨rfl, rfl, _⟩
      conv => whnf
      refine LOOP.nil 3 1 rfl ?_
      refine LOOP.go tabOK [0] (X := Nat × List (List UInt8) × List (List UInt8)) (fun y => y.1 ≤ ps.length ∧ y.2.1.length ≤ y.1 ∧ y.2.2.length ≤ y.1 ∧ varsP [] (ps.drop (i + 1 + 1)) = varsP y.2.1 (ps.drop y.1)) (fun y => [(3, .sl (.loc 6) 0 1 y.2.1.length none)]) (fun y => [(0, rdBoxC y.1 (ps.length - y.1) L E (p) (q) y.2.2.length 0 P), (4, .rows 1 (y.2.2.map strRow)), (5, .rows 1 []), (6, .rows 1 (y.2.1.map strRow))]) 7 (fun y => ps.length - y.1) (i + 1 + 1, [], []) ⟨by simp only; omega, by simp, by simp, rfl⟩ ?_
      conv => whnf
      try rw [show ps.length - (i + 1 + 1) = k2 by omega]
      refine ⟨by (refine GOES.keeping h0 [2, 3, 4] rfl rfl rfl (by first | rfl | (simp only [belowO, belowH, plainLL_below _ (plainStrs _), Bool.and_self, Bool.and_true] <;> rfl)) ?_ ?_ <;> (repeat' (first | (with_reducible rfl) | (exact rows_eq (plainStrs _) (renLL_plain _ (plainStrs _))) | (exact rows_eq (plainStrs _) (by simp [strRow, ofVal, List.take_of_length_le])) | (exact sl_eq rfl (by first | (simp; done) | omega | (simp; omega))) | (exact congrArg (SV.int _) (by first | omega | (simp (disch := omega) only [lnB, wrap64, wrap32] <;> omega) | (simp; done) | (simp <;> omega))) | ((conv => whnf); refine ⟨?_, ?_⟩) | exact trivial | (simp only [ren, renB]; done) | rfl))), ?_⟩
      rintro ⟨a, seen, vs⟩ ⟨ha, hs, hv, hx⟩
      dsimp only at ha hs hv hx ⊢
      conv => whnf
      refine CALL.here (sees_doesC 111 _ ps (fun s hs => variant_does s (hsm s hs)) a (ps.length - a) (by omega) L E (p) (q) vs.length 0 P) rfl rfl (by first | rfl | (simp only [belowO, belowH, plainLL_below _ (plainStrs _), Bool.and_self, Bool.and_true] <;> rfl)) (by first | rfl | (simp only [belowO, belowH, plainLL_below _ (plainStrs _), Bool.and_self, Bool.and_true] <;> rfl)) (by repeat' (first | exact trivial | exact rfl | ((conv => whnf); refine ⟨?_, ?_⟩))) (by repeat' (first | exact trivial | exact rfl | ((conv => whnf); refine ⟨?_, ?_⟩))) rfl ?_ ?_
      · rintro r O' nx' ⟨rfl, rfl, rfl⟩; exact ⟨rfl, rfl, rfl⟩
      rintro r O' ⟨rfl, rfl, _⟩
      conv => whnf
      refine IF.mk (fun h => ?_) (fun h => ?_)
      · obtain ⟨w, hw, hwm⟩ := sees_yes h
        have hlt := (List.getElem?_eq_some_iff.1 hw).1
        obtain ⟨k', hk'⟩ : ∃ k', ps.length - a = k' + 1 := ⟨ps.length - a - 1, by omega⟩
        have hpl := hsm w (List.mem_of_getElem? hw)
        have hxa : varsP seen (ps.drop a) = if lowerM w ∈ seen then none else varsP (seen ++ [lowerM w]) (ps.drop (a + 1)) := by
          rw [drop_at hw]; simp only [varsP]; rw [if_pos hwm]
        rw [hk']
        conv => whnf
        refine CALL.here (next_tag_doesC ps a k' (by omega) w hw L E (p) (q) vs.length 0 P) rfl rfl (by first | rfl | (simp only [belowO, belowH, plainLL_below _ (plainStrs _), Bool.and_self, Bool.and_true] <;> rfl)) (by first | rfl | (simp only [belowO, belowH, plainLL_below _ (plainStrs _), Bool.and_self, Bool.and_true] <;> rfl)) (by repeat' (first | exact trivial | exact rfl | ((conv => whnf); refine ⟨?_, ?_⟩))) (by repeat' (first | exact trivial | exact rfl | ((conv => whnf); refine ⟨?_, ?_⟩))) rfl ?_ ?_
        · rintro r O' nx' ⟨rfl, rfl, rfl⟩; exact ⟨rfl, rfl, rfl⟩
        rintro r O' ⟨rfl, rfl, _⟩
        conv => whnf
        repeat' ((first | with_reducible refine IF.tt ?_ | with_reducible refine IF.ff ?_ | refine CALL.value (lower_does _ hpl) rfl rfl ?_ | (refine CALL.look1 6 (contains_does seen (lowerM w) (by omega)) rfl rfl rfl rfl (plainStrs _) rfl ?_; conv => whnf) | refine NEED.au ?_ | ((with_reducible apply GET.at); rfl) | ((with_reducible apply GETG.at); rfl) | ((with_reducible refine UNK.mk (fun h => ?_) ?_) <;> try (exfalso; omega)) | ((with_reducible refine IF.mk (fun h => ?_) (fun h => ?_)) <;> (try simp (disch := omega) only [hsB, hsC, lnB, wrap64, wrap32, simprocAttr] at h) <;> try (exfalso; omega))) <;> conv => whnf)
        · have hin : lowerM w ∈ seen := by simpa using h
          have hn : restP (ps.drop i) = none := by unfold restP; rw [he, hx, hxa, if_pos hin]
          exact FIN.loose h0 0 [.sl (.loc 1) (a + 1) 1 (k') none, .str L, .str E, .str (p), .str (q), .any, .any, .str P] rfl rfl rfl ⟨.inr ⟨rfl, rfl⟩, .inr ⟨rfl, rfl⟩, .inr ⟨rfl, rfl⟩, .inr ⟨rfl, rfl⟩, .inr ⟨rfl, rfl⟩, .inl rfl, .inl rfl, .inr ⟨rfl, rfl⟩, trivial⟩ ⟨a + 1, k', p, q, by omega, by rw [hn]; rfl, by simp [hn], rfl, rfl⟩
        · have hin : ¬ lowerM w ∈ seen := by simpa using h
          refine ⟨(a + 1, seen ++ [lowerM w], vs ++ [w]), ⟨by simp only; omega, by simp; omega, by simp; omega, by simp only; rw [hx, hxa, if_neg hin]⟩, by simp only; omega, ?_⟩
          dsimp only
          rw [show ps.length - (a + 1) = k' by omega, show (vs ++ [w]).length = vs.length + 1 by simp]
          conv => whnf
          (refine GOES.keeping h0 [10, 5, 8] rfl rfl rfl (by first | rfl | (simp only [belowO, belowH, plainLL_below _ (plainStrs _), Bool.and_self, Bool.and_true] <;> rfl)) ?_ ?_ <;> (repeat' (first | (with_reducible rfl) | (exact rows_eq (plainStrs _) (renLL_plain _ (plainStrs _))) | (exact rows_eq (plainStrs _) (by simp [strRow, ofVal, List.take_of_length_le])) | (exact sl_eq rfl (by first | (simp; done) | omega | (simp; omega))) | (exact congrArg (SV.int _) (by first | omega | (simp (disch := omega) only [lnB, wrap64, wrap32] <;> omega) | (simp; done) | (simp <;> omega))) | ((conv => whnf); refine ⟨?_, ?_⟩) | exact trivial | (simp only [ren, renB]; done) | rfl)))
      · have hv0 : varsP seen (ps.drop a) = some (ps.drop a, seen) := by
          rcases sees_no h with h | ⟨s, _, h1, h2⟩
          · rw [h]; rfl
          · rw [h1]; simp only [varsP]; rw [if_neg (by simp [h2])]
        have hr0 : restP (ps.drop i) = extsP seen (ps.drop a) := by unfold restP; rw [he, hx, hv0]
        conv => whnf
        refine LOOP.go tabOK [0] (X := Nat × List (List UInt8) × List (List UInt8)) (fun y => y.1 ≤ ps.length ∧ y.2.1.length ≤ y.1 ∧ y.2.2.length ≤ y.1 ∧ restP (ps.drop i) = extsP y.2.1 (ps.drop y.1)) (fun y => [(3, .sl (.loc 6) 0 1 y.2.1.length none)]) (fun y => [(0, rdBoxC y.1 (ps.length - y.1) L E (p) (q) vs.length y.2.2.length P), (4, .rows 1 (vs.map strRow)), (5, .rows 1 (y.2.2.map strRow)), (6, .rows 1 (y.2.1.map strRow))]) 7 (fun y => ps.length - y.1) (a, seen, []) ⟨by simp only; omega, by simp only; omega, by simp, hr0⟩ ?_
        conv => whnf
        refine ⟨by (refine GOES.keeping h0 [4, 5, 6] rfl rfl rfl (by first | rfl | (simp only [belowO, belowH, plainLL_below _ (plainStrs _), Bool.and_self, Bool.and_true] <;> rfl)) ?_ ?_ <;> (repeat' (first | (with_reducible rfl) | (exact rows_eq (plainStrs _) (renLL_plain _ (plainStrs _))) | (exact rows_eq (plainStrs _) (by simp [strRow, ofVal, List.take_of_length_le])) | (exact sl_eq rfl (by first | (simp; done) | omega | (simp; omega))) | (exact congrArg (SV.int _) (by first | omega | (simp (disch := omega) only [lnB, wrap64, wrap32] <;> omega) | (simp; done) | (simp <;> omega))) | ((conv => whnf); refine ⟨?_, ?_⟩) | exact trivial | (simp only [ren, renB]; done) | rfl))), ?_⟩
        clear hr0 hv0 hx hs hv
        rintro ⟨a, seen, xs⟩ ⟨ha, hs, hv, hx⟩
        dsimp only at ha hs hv hx ⊢
        conv => whnf
        refine CALL.here (sees_doesC 113 _ ps (fun s hs => rest2_does s (hsm s hs)) a (ps.length - a) (by omega) L E (p) (q) vs.length xs.length P) rfl rfl (by first | rfl | (simp only [belowO, belowH, plainLL_below _ (plainStrs _), Bool.and_self, Bool.and_true] <;> rfl)) (by first | rfl | (simp only [belowO, belowH, plainLL_below _ (plainStrs _), Bool.and_self, Bool.and_true] <;> rfl)) (by repeat' (first | exact trivial | exact rfl | ((conv => whnf); refine ⟨?_, ?_⟩))) (by repeat' (first | exact trivial | exact rfl | ((conv => whnf); refine ⟨?_, ?_⟩))) rfl ?_ ?_
        · rintro r O' nx' ⟨rfl, rfl, rfl⟩; exact ⟨rfl, rfl, rfl⟩
        rintro r O' ⟨rfl, rfl, _⟩
        conv => whnf
        refine IF.mk (fun h => ?_) (fun h => ?_)
        · obtain ⟨w, hw, hwm⟩ := sees_yes h
          have hlt := (List.getElem?_eq_some_iff.1 hw).1
          obtain ⟨k', hk'⟩ : ∃ k', ps.length - a = k' + 1 := ⟨ps.length - a - 1, by omega⟩
          have hpl := hsm w (List.mem_of_getElem? hw)
          rw [hk']
          conv => whnf
          refine CALL.here (next_tag_doesC ps a k' (by omega) w hw L E (p) (q) vs.length xs.length P) rfl rfl (by first | rfl | (simp only [belowO, belowH, plainLL_below _ (plainStrs _), Bool.and_self, Bool.and_true] <;> rfl)) (by first | rfl | (simp only [belowO, belowH, plainLL_below _ (plainStrs _), Bool.and_self, Bool.and_true] <;> rfl)) (by repeat' (first | exact trivial | exact rfl | ((conv => whnf); refine ⟨?_, ?_⟩))) (by repeat' (first | exact trivial | exact rfl | ((conv => whnf); refine ⟨?_, ?_⟩))) rfl ?_ ?_
          · rintro r O' nx' ⟨rfl, rfl, rfl⟩; exact ⟨rfl, rfl, rfl⟩
          rintro r O' ⟨rfl, rfl, _⟩
          conv => whnf
          refine CALL.here (tail_doesC 2 ps (by omega) (a + 1) k' (by omega) L E (p) (q) vs.length xs.length P) rfl rfl (by first | rfl | (simp only [belowO, belowH, plainLL_below _ (plainStrs _), Bool.and_self, Bool.and_true] <;> rfl)) (by first | rfl | (simp only [belowO, belowH, plainLL_below _ (plainStrs _), Bool.and_self, Bool.and_true] <;> rfl)) (by repeat' (first | exact trivial | exact rfl | ((conv => whnf); refine ⟨?_, ?_⟩))) (by repeat' (first | exact trivial | exact rfl | ((conv => whnf); refine ⟨?_, ?_⟩))) rfl ?_ ?_
          · rintro r O' nx' ⟨n, s, _, _, rfl, rfl, rfl⟩; exact ⟨rfl, rfl, rfl⟩
          rintro r O' ⟨n, s, hn, hsl, rfl, rfl, _⟩
          have hnle : n ≤ (ps.drop (a + 1)).length := by rw [hn]; exact span_le _ _
          rw [List.length_drop] at hnle
          have hxa : extsP seen (ps.drop a) = if n = 0 ∨ lowerM w ∈ seen then none else extsP (seen ++ [lowerM w]) (ps.drop (a + 1 + n)) := by
            rw [drop_at hw, extsP, if_pos hwm, ← hn, List.drop_drop]
          conv => whnf
          refine IF.mk (fun h1 => ?_) (fun h1 => ?_)
          · have h0n : n = 0 := by simpa using h1
            have hn : restP (ps.drop i) = none := by rw [hx, hxa, if_pos (.inl h0n)]
            conv => whnf
            repeat' ((first | with_reducible refine IF.tt ?_ | with_reducible refine IF.ff ?_ | refine NEED.au ?_ | ((with_reducible apply GET.at); rfl) | ((with_reducible apply GETG.at); rfl) | ((with_reducible refine UNK.mk (fun h => ?_) ?_) <;> try (exfalso; omega)) | ((with_reducible refine IF.mk (fun h => ?_) (fun h => ?_)) <;> (try simp (disch := omega) only [hsB, hsC, lnB, wrap64, wrap32, simprocAttr] at h) <;> try (exfalso; omega))) <;> conv => whnf)
            exact FIN.loose h0 0 [.sl (.loc 1) (a + 1 + n) 1 (k' - n) none, .str L, .str E, .str (p), .str (q), .any, .any, .str P] rfl rfl rfl ⟨.inr ⟨rfl, rfl⟩, .inr ⟨rfl, rfl⟩, .inr ⟨rfl, rfl⟩, .inr ⟨rfl, rfl⟩, .inr ⟨rfl, rfl⟩, .inl rfl, .inl rfl, .inr ⟨rfl, rfl⟩, trivial⟩ ⟨a + 1 + n, k' - n, p, q, by omega, by rw [hn]; rfl, by simp [hn], rfl, rfl⟩
          · have h0n : n ≠ 0 := by simpa using h1
            conv => whnf
            repeat' ((first | with_reducible refine IF.tt ?_ | with_reducible refine IF.ff ?_ | refine CALL.value (lower_does _ hpl) rfl rfl ?_ | (refine CALL.look1 6 (contains_does seen (lowerM w) (by omega)) rfl rfl rfl rfl (plainStrs _) rfl ?_; conv => whnf) | refine NEED.au ?_ | ((with_reducible apply GET.at); rfl) | ((with_reducible apply GETG.at); rfl) | ((with_reducible refine UNK.mk (fun h => ?_) ?_) <;> try (exfalso; omega)) | ((with_reducible refine IF.mk (fun h => ?_) (fun h => ?_)) <;> (try simp (disch := omega) only [hsB, hsC, lnB, wrap64, wrap32, simprocAttr] at h) <;> try (exfalso; omega))) <;> conv => whnf)
            · have hin : lowerM w ∈ seen := by simp_all
              have hn : restP (ps.drop i) = none := by rw [hx, hxa, if_pos (.inr hin)]
              exact FIN.loose h0 0 [.sl (.loc 1) (a + 1 + n) 1 (k' - n) none, .str L, .str E, .str (p), .str (q), .any, .any, .str P] rfl rfl rfl ⟨.inr ⟨rfl, rfl⟩, .inr ⟨rfl, rfl⟩, .inr ⟨rfl, rfl⟩, .inr ⟨rfl, rfl⟩, .inr ⟨rfl, rfl⟩, .inl rfl, .inl rfl, .inr ⟨rfl, rfl⟩, trivial⟩ ⟨a + 1 + n, k' - n, p, q, by omega, by rw [hn]; rfl, by simp [hn], rfl, rfl⟩
            · have hin : ¬ lowerM w ∈ seen := by simp_all
              refine ⟨(a + 1 + n, seen ++ [lowerM w], xs ++ [w ++ s]), ⟨by simp only; omega, by simp; omega, by simp; omega, by simp only; rw [hx, hxa, if_neg (by simp [h0n, hin])]⟩, by simp only; omega, ?_⟩
              dsimp only
              rw [show ps.length - (a + 1 + n) = k' - n by omega, show (xs ++ [w ++ s]).length = xs.length + 1 by simp]
              conv => whnf
              (refine GOES.keeping h0 [4, 10, 8] rfl rfl rfl (by first | rfl | (simp only [belowO, belowH, plainLL_below _ (plainStrs _), Bool.and_self, Bool.and_true] <;> rfl)) ?_ ?_ <;> (repeat' (first | (with_reducible rfl) | (exact rows_eq (plainStrs _) (renLL_plain _ (plainStrs _))) | (exact rows_eq (plainStrs _) (by simp [strRow, ofVal, List.take_of_length_le])) | (exact sl_eq rfl (by first | (simp; done) | omega | (simp; omega))) | (exact congrArg (SV.int _) (by first | omega | (simp (disch := omega) only [lnB, wrap64, wrap32] <;> omega) | (simp; done) | (simp <;> omega))) | ((conv => whnf); refine ⟨?_, ?_⟩) | exact trivial | (simp only [ren, renB]; done) | rfl)))
        · have hv0 : extsP seen (ps.drop a) = some (ps.drop a) := by
            rcases sees_no h with h | ⟨s, _, h1, h2⟩
            · rw [h, extsP]
            · rw [h1, extsP, if_neg (by simp [h2])]
          conv => whnf
          exact FIN.loose h0 0 [.sl (.loc 1) (a) 1 (ps.length - a) none, .str L, .str E, .str (p), .str (q), .any, .any, .str P] rfl rfl rfl ⟨.inr ⟨rfl, rfl⟩, .inr ⟨rfl, rfl⟩, .inr ⟨rfl, rfl⟩, .inr ⟨rfl, rfl⟩, .inr ⟨rfl, rfl⟩, .inl rfl, .inl rfl, .inr ⟨rfl, rfl⟩, trivial⟩ ⟨a, ps.length - a, p, q, by omega, by rw [hx, hv0]; rfl, by rw [hx, hv0]; rintro l ⟨⟩; rfl, rfl, rfl⟩
    · have he : skipIf regionM (skipIf (fun s => madeM s 4 4 true) (ps.drop i)) = ps.drop (i + 1) := by rw [hk1, skip_no h1]
      conv => whnf
      refine LOOP.nil 3 1 rfl ?_
      refine LOOP.go tabOK [0] (X := Nat × List (List UInt8) × List (List UInt8)) (fun y => y.1 ≤ ps.length ∧ y.2.1.length ≤ y.1 ∧ y.2.2.length ≤ y.1 ∧ varsP [] (ps.drop (i + 1)) = varsP y.2.1 (ps.drop y.1)) (fun y => [(3, .sl (.loc 6) 0 1 y.2.1.length none)]) (fun y => [(0, rdBoxC y.1 (ps.length - y.1) L E (p) ([]) y.2.2.length 0 P), (4, .rows 1 (y.2.2.map strRow)), (5, .rows 1 []), (6, .rows 1 (y.2.1.map strRow))]) 7 (fun y => ps.length - y.1) (i + 1, [], []) ⟨by simp only; omega, by simp, by simp, rfl⟩ ?_
      conv => whnf
      try rw [show ps.length - (i + 1) = k by omega]
      refine ⟨by (refine GOES.keeping h0 [2, 3, 4] rfl rfl rfl (by first | rfl | (simp only [belowO, belowH, plainLL_below _ (plainStrs _), Bool.and_self, Bool.and_true] <;> rfl)) ?_ ?_ <;> (repeat' (first | (with_reducible rfl) | (exact rows_eq (plainStrs _) (renLL_plain _ (plainStrs _))) | (exact rows_eq (plainStrs _) (by simp [strRow, ofVal, List.take_of_length_le])) | (exact sl_eq rfl (by first | (simp; done) | omega | (simp; omega))) | (exact congrArg (SV.int _) (by first | omega | (simp (disch := omega) only [lnB, wrap64, wrap32] <;> omega) | (simp; done) | (simp <;> omega))) | ((conv => whnf); refine ⟨?_, ?_⟩) | exact trivial | (simp only [ren, renB]; done) | rfl))), ?_⟩
      rintro ⟨a, seen, vs⟩ ⟨ha, hs, hv, hx⟩
      dsimp only at ha hs hv hx ⊢
      conv => whnf
      refine CALL.here (sees_doesC 111 _ ps (fun s hs => variant_does s (hsm s hs)) a (ps.length - a) (by omega) L E (p) ([]) vs.length 0 P) rfl rfl (by first | rfl | (simp only [belowO, belowH, plainLL_below _ (plainStrs _), Bool.and_self, Bool.and_true] <;> rfl)) (by first | rfl | (simp only [belowO, belowH, plainLL_below _ (plainStrs _), Bool.and_self, Bool.and_true] <;> rfl)) (by repeat' (first | exact trivial | exact rfl | ((conv => whnf); refine ⟨?_, ?_⟩))) (by repeat' (first | exact trivial | exact rfl | ((conv => whnf); refine ⟨?_, ?_⟩))) rfl ?_ ?_
      · rintro r O' nx' ⟨rfl, rfl, rfl⟩; exact ⟨rfl, rfl, rfl⟩
      rintro r O' ⟨rfl, rfl, _⟩
      conv => whnf
      refine IF.mk (fun h => ?_) (fun h => ?_)
      · obtain ⟨w, hw, hwm⟩ := sees_yes h
        have hlt := (List.getElem?_eq_some_iff.1 hw).1
        obtain ⟨k', hk'⟩ : ∃ k', ps.length - a = k' + 1 := ⟨ps.length - a - 1, by omega⟩
        have hpl := hsm w (List.mem_of_getElem? hw)
        have hxa : varsP seen (ps.drop a) = if lowerM w ∈ seen then none else varsP (seen ++ [lowerM w]) (ps.drop (a + 1)) := by
          rw [drop_at hw]; simp only [varsP]; rw [if_pos hwm]
        rw [hk']
        conv => whnf
        refine CALL.here (next_tag_doesC ps a k' (by omega) w hw L E (p) ([]) vs.length 0 P) rfl rfl (by first | rfl | (simp only [belowO, belowH, plainLL_below _ (plainStrs _), Bool.and_self, Bool.and_true] <;> rfl)) (by first | rfl | (simp only [belowO, belowH, plainLL_below _ (plainStrs _), Bool.and_self, Bool.and_true] <;> rfl)) (by repeat' (first | exact trivial | exact rfl | ((conv => whnf); refine ⟨?_, ?_⟩))) (by repeat' (first | exact trivial | exact rfl | ((conv => whnf); refine ⟨?_, ?_⟩))) rfl ?_ ?_
        · rintro r O' nx' ⟨rfl, rfl, rfl⟩; exact ⟨rfl, rfl, rfl⟩
        rintro r O' ⟨rfl, rfl, _⟩
        conv => whnf
        repeat' ((first | with_reducible refine IF.tt ?_ | with_reducible refine IF.ff ?_ | refine CALL.value (lower_does _ hpl) rfl rfl ?_ | (refine CALL.look1 6 (contains_does seen (lowerM w) (by omega)) rfl rfl rfl rfl (plainStrs _) rfl ?_; conv => whnf) | refine NEED.au ?_ | ((with_reducible apply GET.at); rfl) | ((with_reducible apply GETG.at); rfl) | ((with_reducible refine UNK.mk (fun h => ?_) ?_) <;> try (exfalso; omega)) | ((with_reducible refine IF.mk (fun h => ?_) (fun h => ?_)) <;> (try simp (disch := omega) only [hsB, hsC, lnB, wrap64, wrap32, simprocAttr] at h) <;> try (exfalso; omega))) <;> conv => whnf)
        · have hin : lowerM w ∈ seen := by simpa using h
          have hn : restP (ps.drop i) = none := by unfold restP; rw [he, hx, hxa, if_pos hin]
          exact FIN.loose h0 0 [.sl (.loc 1) (a + 1) 1 (k') none, .str L, .str E, .str (p), .str ([]), .any, .any, .str P] rfl rfl rfl ⟨.inr ⟨rfl, rfl⟩, .inr ⟨rfl, rfl⟩, .inr ⟨rfl, rfl⟩, .inr ⟨rfl, rfl⟩, .inr ⟨rfl, rfl⟩, .inl rfl, .inl rfl, .inr ⟨rfl, rfl⟩, trivial⟩ ⟨a + 1, k', p, [], by omega, by rw [hn]; rfl, by simp [hn], rfl, rfl⟩
        · have hin : ¬ lowerM w ∈ seen := by simpa using h
          refine ⟨(a + 1, seen ++ [lowerM w], vs ++ [w]), ⟨by simp only; omega, by simp; omega, by simp; omega, by simp only; rw [hx, hxa, if_neg hin]⟩, by simp only; omega, ?_⟩
          dsimp only
          rw [show ps.length - (a + 1) = k' by omega, show (vs ++ [w]).length = vs.length + 1 by simp]
          conv => whnf
          (refine GOES.keeping h0 [10, 5, 8] rfl rfl rfl (by first | rfl | (simp only [belowO, belowH, plainLL_below _ (plainStrs _), Bool.and_self, Bool.and_true] <;> rfl)) ?_ ?_ <;> (repeat' (first | (with_reducible rfl) | (exact rows_eq (plainStrs _) (renLL_plain _ (plainStrs _))) | (exact rows_eq (plainStrs _) (by simp [strRow, ofVal, List.take_of_length_le])) | (exact sl_eq rfl (by first | (simp; done) | omega | (simp; omega))) | (exact congrArg (SV.int _) (by first | omega | (simp (disch := omega) only [lnB, wrap64, wrap32] <;> omega) | (simp; done) | (simp <;> omega))) | ((conv => whnf); refine ⟨?_, ?_⟩) | exact trivial | (simp only [ren, renB]; done) | rfl)))
      · have hv0 : varsP seen (ps.drop a) = some (ps.drop a, seen) := by
          rcases sees_no h with h | ⟨s, _, h1, h2⟩
          · rw [h]; rfl
          · rw [h1]; simp only [varsP]; rw [if_neg (by simp [h2])]
        have hr0 : restP (ps.drop i) = extsP seen (ps.drop a) := by unfold restP; rw [he, hx, hv0]
        conv => whnf
        refine LOOP.go tabOK [0] (X := Nat × List (List UInt8) × List (List UInt8)) (fun y => y.1 ≤ ps.length ∧ y.2.1.length ≤ y.1 ∧ y.2.2.length ≤ y.1 ∧ restP (ps.drop i) = extsP y.2.1 (ps.drop y.1)) (fun y => [(3, .sl (.loc 6) 0 1 y.2.1.length none)]) (fun y => [(0, rdBoxC y.1 (ps.length - y.1) L E (p) ([]) vs.length y.2.2.length P), (4, .rows 1 (vs.map strRow)), (5, .rows 1 (y.2.2.map strRow)), (6, .rows 1 (y.2.1.map strRow))]) 7 (fun y => ps.length - y.1) (a, seen, []) ⟨by simp only; omega, by simp only; omega, by simp, hr0⟩ ?_
        conv => whnf
        refine ⟨by (refine GOES.keeping h0 [4, 5, 6] rfl rfl rfl (by first | rfl | (simp only [belowO, belowH, plainLL_below _ (plainStrs _), Bool.and_self, Bool.and_true] <;> rfl)) ?_ ?_ <;> (repeat' (first | (with_reducible rfl) | (exact rows_eq (plainStrs _) (renLL_plain _ (plainStrs _))) | (exact rows_eq (plainStrs _) (by simp [strRow, ofVal, List.take_of_length_le])) | (exact sl_eq rfl (by first | (simp; done) | omega | (simp; omega))) | (exact congrArg (SV.int _) (by first | omega | (simp (disch := omega) only [lnB, wrap64, wrap32] <;> omega) | (simp; done) | (simp <;> omega))) | ((conv => whnf); refine ⟨?_, ?_⟩) | exact trivial | (simp only [ren, renB]; done) | rfl))), ?_⟩
        clear hr0 hv0 hx hs hv
        rintro ⟨a, seen, xs⟩ ⟨ha, hs, hv, hx⟩
        dsimp only at ha hs hv hx ⊢
        conv => whnf
        refine CALL.here (sees_doesC 113 _ ps (fun s hs => rest2_does s (hsm s hs)) a (ps.length - a) (by omega) L E (p) ([]) vs.length xs.length P) rfl rfl (by first | rfl | (simp only [belowO, belowH, plainLL_below _ (plainStrs _), Bool.and_self, Bool.and_true] <;> rfl)) (by first | rfl | (simp only [belowO, belowH, plainLL_below _ (plainStrs _), Bool.and_self, Bool.and_true] <;> rfl)) (by repeat' (first | exact trivial | exact rfl | ((conv => whnf); refine ⟨?_, ?_⟩))) (by repeat' (first | exact trivial | exact rfl | ((conv => whnf); refine ⟨?_, ?_⟩))) rfl ?_ ?_
        · rintro r O' nx' ⟨rfl, rfl, rfl⟩; exact ⟨rfl, rfl, rfl⟩
        rintro r O' ⟨rfl, rfl, _⟩
        conv => whnf
        refine IF.mk (fun h => ?_) (fun h => ?_)
        · obtain ⟨w, hw, hwm⟩ := sees_yes h
          have hlt := (List.getElem?_eq_some_iff.1 hw).1
          obtain ⟨k', hk'⟩ : ∃ k', ps.length - a = k' + 1 := ⟨ps.length - a - 1, by omega⟩
          have hpl := hsm w (List.mem_of_getElem? hw)
          rw [hk']
          conv => whnf
          refine CALL.here (next_tag_doesC ps a k' (by omega) w hw L E (p) ([]) vs.length xs.length P) rfl rfl (by first | rfl | (simp only [belowO, belowH, plainLL_below _ (plainStrs _), Bool.and_self, Bool.and_true] <;> rfl)) (by first | rfl | (simp only [belowO, belowH, plainLL_below _ (plainStrs _), Bool.and_self, Bool.and_true] <;> rfl)) (by repeat' (first | exact trivial | exact rfl | ((conv => whnf); refine ⟨?_, ?_⟩))) (by repeat' (first | exact trivial | exact rfl | ((conv => whnf); refine ⟨?_, ?_⟩))) rfl ?_ ?_
          · rintro r O' nx' ⟨rfl, rfl, rfl⟩; exact ⟨rfl, rfl, rfl⟩
          rintro r O' ⟨rfl, rfl, _⟩
          conv => whnf
          refine CALL.here (tail_doesC 2 ps (by omega) (a + 1) k' (by omega) L E (p) ([]) vs.length xs.length P) rfl rfl (by first | rfl | (simp only [belowO, belowH, plainLL_below _ (plainStrs _), Bool.and_self, Bool.and_true] <;> rfl)) (by first | rfl | (simp only [belowO, belowH, plainLL_below _ (plainStrs _), Bool.and_self, Bool.and_true] <;> rfl)) (by repeat' (first | exact trivial | exact rfl | ((conv => whnf); refine ⟨?_, ?_⟩))) (by repeat' (first | exact trivial | exact rfl | ((conv => whnf); refine ⟨?_, ?_⟩))) rfl ?_ ?_
          · rintro r O' nx' ⟨n, s, _, _, rfl, rfl, rfl⟩; exact ⟨rfl, rfl, rfl⟩
          rintro r O' ⟨n, s, hn, hsl, rfl, rfl, _⟩
          have hnle : n ≤ (ps.drop (a + 1)).length := by rw [hn]; exact span_le _ _
          rw [List.length_drop] at hnle
          have hxa : extsP seen (ps.drop a) = if n = 0 ∨ lowerM w ∈ seen then none else extsP (seen ++ [lowerM w]) (ps.drop (a + 1 + n)) := by
            rw [drop_at hw, extsP, if_pos hwm, ← hn, List.drop_drop]
          conv => whnf
          refine IF.mk (fun h1 => ?_) (fun h1 => ?_)
          · have h0n : n = 0 := by simpa using h1
            have hn : restP (ps.drop i) = none := by rw [hx, hxa, if_pos (.inl h0n)]
            conv => whnf
            repeat' ((first | with_reducible refine IF.tt ?_ | with_reducible refine IF.ff ?_ | refine NEED.au ?_ | ((with_reducible apply GET.at); rfl) | ((with_reducible apply GETG.at); rfl) | ((with_reducible refine UNK.mk (fun h => ?_) ?_) <;> try (exfalso; omega)) | ((with_reducible refine IF.mk (fun h => ?_) (fun h => ?_)) <;> (try simp (disch := omega) only [hsB, hsC, lnB, wrap64, wrap32, simprocAttr] at h) <;> try (exfalso; omega))) <;> conv => whnf)
            exact FIN.loose h0 0 [.sl (.loc 1) (a + 1 + n) 1 (k' - n) none, .str L, .str E, .str (p), .str ([]), .any, .any, .str P] rfl rfl rfl ⟨.inr ⟨rfl, rfl⟩, .inr ⟨rfl, rfl⟩, .inr ⟨rfl, rfl⟩, .inr ⟨rfl, rfl⟩, .inr ⟨rfl, rfl⟩, .inl rfl, .inl rfl, .inr ⟨rfl, rfl⟩, trivial⟩ ⟨a + 1 + n, k' - n, p, [], by omega, by rw [hn]; rfl, by simp [hn], rfl, rfl⟩
          · have h0n : n ≠ 0 := by simpa using h1
            conv => whnf
            repeat' ((first | with_reducible refine IF.tt ?_ | with_reducible refine IF.ff ?_ | refine CALL.value (lower_does _ hpl) rfl rfl ?_ | (refine CALL.look1 6 (contains_does seen (lowerM w) (by omega)) rfl rfl rfl rfl (plainStrs _) rfl ?_; conv => whnf) | refine NEED.au ?_ | ((with_reducible apply GET.at); rfl) | ((with_reducible apply GETG.at); rfl) | ((with_reducible refine UNK.mk (fun h => ?_) ?_) <;> try (exfalso; omega)) | ((with_reducible refine IF.mk (fun h => ?_) (fun h => ?_)) <;> (try simp (disch := omega) only [hsB, hsC, lnB, wrap64, wrap32, simprocAttr] at h) <;> try (exfalso; omega))) <;> conv => whnf)
            · have hin : lowerM w ∈ seen := by simp_all
              have hn : restP (ps.drop i) = none := by rw [hx, hxa, if_pos (.inr hin)]
              exact FIN.loose h0 0 [.sl (.loc 1) (a + 1 + n) 1 (k' - n) none, .str L, .str E, .str (p), .str ([]), .any, .any, .str P] rfl rfl rfl ⟨.inr ⟨rfl, rfl⟩, .inr ⟨rfl, rfl⟩, .inr ⟨rfl, rfl⟩, .inr ⟨rfl, rfl⟩, .inr ⟨rfl, rfl⟩, .inl rfl, .inl rfl, .inr ⟨rfl, rfl⟩, trivial⟩ ⟨a + 1 + n, k' - n, p, [], by omega, by rw [hn]; rfl, by simp [hn], rfl, rfl⟩
            · have hin : ¬ lowerM w ∈ seen := by simp_all
              refine ⟨(a + 1 + n, seen ++ [lowerM w], xs ++ [w ++ s]), ⟨by simp only; omega, by simp; omega, by simp; omega, by simp only; rw [hx, hxa, if_neg (by simp [h0n, hin])]⟩, by simp only; omega, ?_⟩
              dsimp only
              rw [show ps.length - (a + 1 + n) = k' - n by omega, show (xs ++ [w ++ s]).length = xs.length + 1 by simp]
              conv => whnf
              (refine GOES.keeping h0 [4, 10, 8] rfl rfl rfl (by first | rfl | (simp only [belowO, belowH, plainLL_below _ (plainStrs _), Bool.and_self, Bool.and_true] <;> rfl)) ?_ ?_ <;> (repeat' (first | (with_reducible rfl) | (exact rows_eq (plainStrs _) (renLL_plain _ (plainStrs _))) | (exact rows_eq (plainStrs _) (by simp [strRow, ofVal, List.take_of_length_le])) | (exact sl_eq rfl (by first | (simp; done) | omega | (simp; omega))) | (exact congrArg (SV.int _) (by first | omega | (simp (disch := omega) only [lnB, wrap64, wrap32] <;> omega) | (simp; done) | (simp <;> omega))) | ((conv => whnf); refine ⟨?_, ?_⟩) | exact trivial | (simp only [ren, renB]; done) | rfl)))
        · have hv0 : extsP seen (ps.drop a) = some (ps.drop a) := by
            rcases sees_no h with h | ⟨s, _, h1, h2⟩
            · rw [h, extsP]
            · rw [h1, extsP, if_neg (by simp [h2])]
          conv => whnf
          exact FIN.loose h0 0 [.sl (.loc 1) (a) 1 (ps.length - a) none, .str L, .str E, .str (p), .str ([]), .any, .any, .str P] rfl rfl rfl ⟨.inr ⟨rfl, rfl⟩, .inr ⟨rfl, rfl⟩, .inr ⟨rfl, rfl⟩, .inr ⟨rfl, rfl⟩, .inr ⟨rfl, rfl⟩, .inl rfl, .inl rfl, .inr ⟨rfl, rfl⟩, trivial⟩ ⟨a, ps.length - a, p, [], by omega, by rw [hx, hv0]; rfl, by rw [hx, hv0]; rintro l ⟨⟩; rfl, rfl, rfl⟩
  · have hk1 := skip_no h1
    conv => whnf
    refine CALL.here (sees_does 110 _ ps (fun s hs => region_does s (hsm s hs)) i m (by omega) L E [] [] 0 0 P) rfl rfl (by first | rfl | (simp only [belowO, belowH, plainLL_below _ (plainStrs _), Bool.and_self, Bool.and_true] <;> rfl)) (by first | rfl | (simp only [belowO, belowH, plainLL_below _ (plainStrs _), Bool.and_self, Bool.and_true] <;> rfl)) (by repeat' (first | exact trivial | exact rfl | ((conv => whnf); refine ⟨?_, ?_⟩))) (by repeat' (first | exact trivial | exact rfl | ((conv => whnf); refine ⟨?_, ?_⟩))) rfl ?_ ?_
    · rintro r O' nx' ⟨rfl, rfl, rfl⟩; exact ⟨rfl, rfl, rfl⟩
    rintro r O' ⟨rfl, rfl, _⟩
    conv => whnf
    refine IF.mk (fun h1 => ?_) (fun h1 => ?_)
    · obtain ⟨q, hq, hqm⟩ := sees_yes h1
      have hlt := (List.getElem?_eq_some_iff.1 hq).1
      obtain ⟨k2, rfl⟩ : ∃ k2, m = k2 + 1 := ⟨m - 1, by omega⟩
      have he : skipIf regionM (skipIf (fun s => madeM s 4 4 true) (ps.drop i)) = ps.drop (i + 1) := by rw [hk1, skip_yes hq hqm]
      conv => whnf
      refine CALL.here (next_tag_does ps i k2 (by omega) q hq L E [] [] 0 0 P) rfl rfl (by first | rfl | (simp only [belowO, belowH, plainLL_below _ (plainStrs _), Bool.and_self, Bool.and_true] <;> rfl)) (by first | rfl | (simp only [belowO, belowH, plainLL_below _ (plainStrs _), Bool.and_self, Bool.and_true] <;> rfl)) (by repeat' (first | exact trivial | exact rfl | ((conv => whnf); refine ⟨?_, ?_⟩))) (by repeat' (first | exact trivial | exact rfl | ((conv => whnf); refine ⟨?_, ?_⟩))) rfl ?_ ?_
      · rintro r O' nx' ⟨rfl, rfl, rfl⟩; exact ⟨rfl, rfl, rfl⟩
      rintro r O' ⟨rfl, rfl, _⟩
      conv => whnf
      refine LOOP.nil 3 1 rfl ?_
      refine LOOP.go tabOK [0] (X := Nat × List (List UInt8) × List (List UInt8)) (fun y => y.1 ≤ ps.length ∧ y.2.1.length ≤ y.1 ∧ y.2.2.length ≤ y.1 ∧ varsP [] (ps.drop (i + 1)) = varsP y.2.1 (ps.drop y.1)) (fun y => [(3, .sl (.loc 6) 0 1 y.2.1.length none)]) (fun y => [(0, rdBoxC y.1 (ps.length - y.1) L E ([]) (q) y.2.2.length 0 P), (4, .rows 1 (y.2.2.map strRow)), (5, .rows 1 []), (6, .rows 1 (y.2.1.map strRow))]) 7 (fun y => ps.length - y.1) (i + 1, [], []) ⟨by simp only; omega, by simp, by simp, rfl⟩ ?_
      conv => whnf
      try rw [show ps.length - (i + 1) = k2 by omega]
      refine ⟨by (refine GOES.keeping h0 [2, 3, 4] rfl rfl rfl (by first | rfl | (simp only [belowO, belowH, plainLL_below _ (plainStrs _), Bool.and_self, Bool.and_true] <;> rfl)) ?_ ?_ <;> (repeat' (first | (with_reducible rfl) | (exact rows_eq (plainStrs _) (renLL_plain _ (plainStrs _))) | (exact rows_eq (plainStrs _) (by simp [strRow, ofVal, List.take_of_length_le])) | (exact sl_eq rfl (by first | (simp; done) | omega | (simp; omega))) | (exact congrArg (SV.int _) (by first | omega | (simp (disch := omega) only [lnB, wrap64, wrap32] <;> omega) | (simp; done) | (simp <;> omega))) | ((conv => whnf); refine ⟨?_, ?_⟩) | exact trivial | (simp only [ren, renB]; done) | rfl))), ?_⟩
      rintro ⟨a, seen, vs⟩ ⟨ha, hs, hv, hx⟩
      dsimp only at ha hs hv hx ⊢
      conv => whnf
      refine CALL.here (sees_doesC 111 _ ps (fun s hs => variant_does s (hsm s hs)) a (ps.length - a) (by omega) L E ([]) (q) vs.length 0 P) rfl rfl (by first | rfl | (simp only [belowO, belowH, plainLL_below _ (plainStrs _), Bool.and_self, Bool.and_true] <;> rfl)) (by first | rfl | (simp only [belowO, belowH, plainLL_below _ (plainStrs _), Bool.and_self, Bool.and_true] <;> rfl)) (by repeat' (first | exact trivial | exact rfl | ((conv => whnf); refine ⟨?_, ?_⟩))) (by repeat' (first | exact trivial | exact rfl | ((conv => whnf); refine ⟨?_, ?_⟩))) rfl ?_ ?_
      · rintro r O' nx' ⟨rfl, rfl, rfl⟩; exact ⟨rfl, rfl, rfl⟩
      rintro r O' ⟨rfl, rfl, _⟩
      conv => whnf
      refine IF.mk (fun h => ?_) (fun h => ?_)
      · obtain ⟨w, hw, hwm⟩ := sees_yes h
        have hlt := (List.getElem?_eq_some_iff.1 hw).1
        obtain ⟨k', hk'⟩ : ∃ k', ps.length - a = k' + 1 := ⟨ps.length - a - 1, by omega⟩
        have hpl := hsm w (List.mem_of_getElem? hw)
        have hxa : varsP seen (ps.drop a) = if lowerM w ∈ seen then none else varsP (seen ++ [lowerM w]) (ps.drop (a + 1)) := by
          rw [drop_at hw]; simp only [varsP]; rw [if_pos hwm]
        rw [hk']
        conv => whnf
        refine CALL.here (next_tag_doesC ps a k' (by omega) w hw L E ([]) (q) vs.length 0 P) rfl rfl (by first | rfl | (simp only [belowO, belowH, plainLL_below _ (plainStrs _), Bool.and_self, Bool.and_true] <;> rfl)) (by first | rfl | (simp only [belowO, belowH, plainLL_below _ (plainStrs _), Bool.and_self, Bool.and_true] <;> rfl)) (by repeat' (first | exact trivial | exact rfl | ((conv => whnf); refine ⟨?_, ?_⟩))) (by repeat' (first | exact trivial | exact rfl | ((conv => whnf); refine ⟨?_, ?_⟩))) rfl ?_ ?_
        · rintro r O' nx' ⟨rfl, rfl, rfl⟩; exact ⟨rfl, rfl, rfl⟩
        rintro r O' ⟨rfl, rfl, _⟩
        conv => whnf
        repeat' ((first | with_reducible refine IF.tt ?_ | with_reducible refine IF.ff ?_ | refine CALL.value (lower_does _ hpl) rfl rfl ?_ | (refine CALL.look1 6 (contains_does seen (lowerM w) (by omega)) rfl rfl rfl rfl (plainStrs _) rfl ?_; conv => whnf) | refine NEED.au ?_ | ((with_reducible apply GET.at); rfl) | ((with_reducible apply GETG.at); rfl) | ((with_reducible refine UNK.mk (fun h => ?_) ?_) <;> try (exfalso; omega)) | ((with_reducible refine IF.mk (fun h => ?_) (fun h => ?_)) <;> (try simp (disch := omega) only [hsB, hsC, lnB, wrap64, wrap32, simprocAttr] at h) <;> try (exfalso; omega))) <;> conv => whnf)
        · have hin : lowerM w ∈ seen := by simpa using h
          have hn : restP (ps.drop i) = none := by unfold restP; rw [he, hx, hxa, if_pos hin]
          exact FIN.loose h0 0 [.sl (.loc 1) (a + 1) 1 (k') none, .str L, .str E, .str ([]), .str (q), .any, .any, .str P] rfl rfl rfl ⟨.inr ⟨rfl, rfl⟩, .inr ⟨rfl, rfl⟩, .inr ⟨rfl, rfl⟩, .inr ⟨rfl, rfl⟩, .inr ⟨rfl, rfl⟩, .inl rfl, .inl rfl, .inr ⟨rfl, rfl⟩, trivial⟩ ⟨a + 1, k', [], q, by omega, by rw [hn]; rfl, by simp [hn], rfl, rfl⟩
        · have hin : ¬ lowerM w ∈ seen := by simpa using h
          refine ⟨(a + 1, seen ++ [lowerM w], vs ++ [w]), ⟨by simp only; omega, by simp; omega, by simp; omega, by simp only; rw [hx, hxa, if_neg hin]⟩, by simp only; omega, ?_⟩
          dsimp only
          rw [show ps.length - (a + 1) = k' by omega, show (vs ++ [w]).length = vs.length + 1 by simp]
          conv => whnf
          (refine GOES.keeping h0 [10, 5, 8] rfl rfl rfl (by first | rfl | (simp only [belowO, belowH, plainLL_below _ (plainStrs _), Bool.and_self, Bool.and_true] <;> rfl)) ?_ ?_ <;> (repeat' (first | (with_reducible rfl) | (exact rows_eq (plainStrs _) (renLL_plain _ (plainStrs _))) | (exact rows_eq (plainStrs _) (by simp [strRow, ofVal, List.take_of_length_le])) | (exact sl_eq rfl (by first | (simp; done) | omega | (simp; omega))) | (exact congrArg (SV.int _) (by first | omega | (simp (disch := omega) only [lnB, wrap64, wrap32] <;> omega) | (simp; done) | (simp <;> omega))) | ((conv => whnf); refine ⟨?_, ?_⟩) | exact trivial | (simp only [ren, renB]; done) | rfl)))
      · have hv0 : varsP seen (ps.drop a) = some (ps.drop a, seen) := by
          rcases sees_no h with h | ⟨s, _, h1, h2⟩
          · rw [h]; rfl
          · rw [h1]; simp only [varsP]; rw [if_neg (by simp [h2])]
        have hr0 : restP (ps.drop i) = extsP seen (ps.drop a) := by unfold restP; rw [he, hx, hv0]
        conv => whnf
        refine LOOP.go tabOK [0] (X := Nat × List (List UInt8) × List (List UInt8)) (fun y => y.1 ≤ ps.length ∧ y.2.1.length ≤ y.1 ∧ y.2.2.length ≤ y.1 ∧ restP (ps.drop i) = extsP y.2.1 (ps.drop y.1)) (fun y => [(3, .sl (.loc 6) 0 1 y.2.1.length none)]) (fun y => [(0, rdBoxC y.1 (ps.length - y.1) L E ([]) (q) vs.length y.2.2.length P), (4, .rows 1 (vs.map strRow)), (5, .rows 1 (y.2.2.map strRow)), (6, .rows 1 (y.2.1.map strRow))]) 7 (fun y => ps.length - y.1) (a, seen, []) ⟨by simp only; omega, by simp only; omega, by simp, hr0⟩ ?_
        conv => whnf
        refine ⟨by (refine GOES.keeping h0 [4, 5, 6] rfl rfl rfl (by first | rfl | (simp only [belowO, belowH, plainLL_below _ (plainStrs _), Bool.and_self, Bool.and_true] <;> rfl)) ?_ ?_ <;> (repeat' (first | (with_reducible rfl) | (exact rows_eq (plainStrs _) (renLL_plain _ (plainStrs _))) | (exact rows_eq (plainStrs _) (by simp [strRow, ofVal, List.take_of_length_le])) | (exact sl_eq rfl (by first | (simp; done) | omega | (simp; omega))) | (exact congrArg (SV.int _) (by first | omega | (simp (disch := omega) only [lnB, wrap64, wrap32] <;> omega) | (simp; done) | (simp <;> omega))) | ((conv => whnf); refine ⟨?_, ?_⟩) | exact trivial | (simp only [ren, renB]; done) | rfl))), ?_⟩
        clear hr0 hv0 hx hs hv
        rintro ⟨a, seen, xs⟩ ⟨ha, hs, hv, hx⟩
        dsimp only at ha hs hv hx ⊢
        conv => whnf
        refine CALL.here (sees_doesC 113 _ ps (fun s hs => rest2_does s (hsm s hs)) a (ps.length - a) (by omega) L E ([]) (q) vs.length xs.length P) rfl rfl (by first | rfl | (simp only [belowO, belowH, plainLL_below _ (plainStrs _), Bool.and_self, Bool.and_true] <;> rfl)) (by first | rfl | (simp only [belowO, belowH, plainLL_below _ (plainStrs _), Bool.and_self, Bool.and_true] <;> rfl)) (by repeat' (first | exact trivial | exact rfl | ((conv => whnf); refine ⟨?_, ?_⟩))) (by repeat' (first | exact trivial | exact rfl | ((conv => whnf); refine ⟨?_, ?_⟩))) rfl ?_ ?_
        · rintro r O' nx' ⟨rfl, rfl, rfl⟩; exact ⟨rfl, rfl, rfl⟩
        rintro r O' ⟨rfl, rfl, _⟩
        conv => whnf
        refine IF.mk (fun h => ?_) (fun h => ?_)
        · obtain ⟨w, hw, hwm⟩ := sees_yes h
          have hlt := (List.getElem?_eq_some_iff.1 hw).1
          obtain ⟨k', hk'⟩ : ∃ k', ps.length - a = k' + 1 := ⟨ps.length - a - 1, by omega⟩
          have hpl := hsm w (List.mem_of_getElem? hw)
          rw [hk']
          conv => whnf
          refine CALL.here (next_tag_doesC ps a k' (by omega) w hw L E ([]) (q) vs.length xs.length P) rfl rfl (by first | rfl | (simp only [belowO, belowH, plainLL_below _ (plainStrs _), Bool.and_self, Bool.and_true] <;> rfl)) (by first | rfl | (simp only [belowO, belowH, plainLL_below _ (plainStrs _), Bool.and_self, Bool.and_true] <;> rfl)) (by repeat' (first | exact trivial | exact rfl | ((conv => whnf); refine ⟨?_, ?_⟩))) (by repeat' (first | exact trivial | exact rfl | ((conv => whnf); refine ⟨?_, ?_⟩))) rfl ?_ ?_
          · rintro r O' nx' ⟨rfl, rfl, rfl⟩; exact ⟨rfl, rfl, rfl⟩
          rintro r O' ⟨rfl, rfl, _⟩
          conv => whnf
          refine CALL.here (tail_doesC 2 ps (by omega) (a + 1) k' (by omega) L E ([]) (q) vs.length xs.length P) rfl rfl (by first | rfl | (simp only [belowO, belowH, plainLL_below _ (plainStrs _), Bool.and_self, Bool.and_true] <;> rfl)) (by first | rfl | (simp only [belowO, belowH, plainLL_below _ (plainStrs _), Bool.and_self, Bool.and_true] <;> rfl)) (by repeat' (first | exact trivial | exact rfl | ((conv => whnf); refine ⟨?_, ?_⟩))) (by repeat' (first | exact trivial | exact rfl | ((conv => whnf); refine ⟨?_, ?_⟩))) rfl ?_ ?_
          · rintro r O' nx' ⟨n, s, _, _, rfl, rfl, rfl⟩; exact ⟨rfl, rfl, rfl⟩
          rintro r O' ⟨n, s, hn, hsl, rfl, rfl, _⟩
          have hnle : n ≤ (ps.drop (a + 1)).length := by rw [hn]; exact span_le _ _
          rw [List.length_drop] at hnle
          have hxa : extsP seen (ps.drop a) = if n = 0 ∨ lowerM w ∈ seen then none else extsP (seen ++ [lowerM w]) (ps.drop (a + 1 + n)) := by
            rw [drop_at hw, extsP, if_pos hwm, ← hn, List.drop_drop]
          conv => whnf
          refine IF.mk (fun h1 => ?_) (fun h1 => ?_)
          · have h0n : n = 0 := by simpa using h1
            have hn : restP (ps.drop i) = none := by rw [hx, hxa, if_pos (.inl h0n)]
            conv => whnf
            repeat' ((first | with_reducible refine IF.tt ?_ | with_reducible refine IF.ff ?_ | refine NEED.au ?_ | ((with_reducible apply GET.at); rfl) | ((with_reducible apply GETG.at); rfl) | ((with_reducible refine UNK.mk (fun h => ?_) ?_) <;> try (exfalso; omega)) | ((with_reducible refine IF.mk (fun h => ?_) (fun h => ?_)) <;> (try simp (disch := omega) only [hsB, hsC, lnB, wrap64, wrap32, simprocAttr] at h) <;> try (exfalso; omega))) <;> conv => whnf)
            exact FIN.loose h0 0 [.sl (.loc 1) (a + 1 + n) 1 (k' - n) none, .str L, .str E, .str ([]), .str (q), .any, .any, .str P] rfl rfl rfl ⟨.inr ⟨rfl, rfl⟩, .inr ⟨rfl, rfl⟩, .inr ⟨rfl, rfl⟩, .inr ⟨rfl, rfl⟩, .inr ⟨rfl, rfl⟩, .inl rfl, .inl rfl, .inr ⟨rfl, rfl⟩, trivial⟩ ⟨a + 1 + n, k' - n, [], q, by omega, by rw [hn]; rfl, by simp [hn], rfl, rfl⟩
          · have h0n : n ≠ 0 := by simpa using h1
            conv => whnf
            repeat' ((first | with_reducible refine IF.tt ?_ | with_reducible refine IF.ff ?_ | refine CALL.value (lower_does _ hpl) rfl rfl ?_ | (refine CALL.look1 6 (contains_does seen (lowerM w) (by omega)) rfl rfl rfl rfl (plainStrs _) rfl ?_; conv => whnf) | refine NEED.au ?_ | ((with_reducible apply GET.at); rfl) | ((with_reducible apply GETG.at); rfl) | ((with_reducible refine UNK.mk (fun h => ?_) ?_) <;> try (exfalso; omega)) | ((with_reducible refine IF.mk (fun h => ?_) (fun h => ?_)) <;> (try simp (disch := omega) only [hsB, hsC, lnB, wrap64, wrap32, simprocAttr] at h) <;> try (exfalso; omega))) <;> conv => whnf)
            · have hin : lowerM w ∈ seen := by simp_all
              have hn : restP (ps.drop i) = none := by rw [hx, hxa, if_pos (.inr hin)]
              exact FIN.loose h0 0 [.sl (.loc 1) (a + 1 + n) 1 (k' - n) none, .str L, .str E, .str ([]), .str (q), .any, .any, .str P] rfl rfl rfl ⟨.inr ⟨rfl, rfl⟩, .inr ⟨rfl, rfl⟩, .inr ⟨rfl, rfl⟩, .inr ⟨rfl, rfl⟩, .inr ⟨rfl, rfl⟩, .inl rfl, .inl rfl, .inr ⟨rfl, rfl⟩, trivial⟩ ⟨a + 1 + n, k' - n, [], q, by omega, by rw [hn]; rfl, by simp [hn], rfl, rfl⟩
            · have hin : ¬ lowerM w ∈ seen := by simp_all
              refine ⟨(a + 1 + n, seen ++ [lowerM w], xs ++ [w ++ s]), ⟨by simp only; omega, by simp; omega, by simp; omega, by simp only; rw [hx, hxa, if_neg (by simp [h0n, hin])]⟩, by simp only; omega, ?_⟩
              dsimp only
              rw [show ps.length - (a + 1 + n) = k' - n by omega, show (xs ++ [w ++ s]).length = xs.length + 1 by simp]
              conv => whnf
              (refine GOES.keeping h0 [4, 10, 8] rfl rfl rfl (by first | rfl | (simp only [belowO, belowH, plainLL_below _ (plainStrs _), Bool.and_self, Bool.and_true] <;> rfl)) ?_ ?_ <;> (repeat' (first | (with_reducible rfl) | (exact rows_eq (plainStrs _) (renLL_plain _ (plainStrs _))) | (exact rows_eq (plainStrs _) (by simp [strRow, ofVal, List.take_of_length_le])) | (exact sl_eq rfl (by first | (simp; done) | omega | (simp; omega))) | (exact congrArg (SV.int _) (by first | omega | (simp (disch := omega) only [lnB, wrap64, wrap32] <;> omega) | (simp; done) | (simp <;> omega))) | ((conv => whnf); refine ⟨?_, ?_⟩) | exact trivial | (simp only [ren, renB]; done) | rfl)))
        · have hv0 : extsP seen (ps.drop a) = some (ps.drop a) := by
            rcases sees_no h with h | ⟨s, _, h1, h2⟩
            · rw [h, extsP]
            · rw [h1, extsP, if_neg (by simp [h2])]
          conv => whnf
          exact FIN.loose h0 0 [.sl (.loc 1) (a) 1 (ps.length - a) none, .str L, .str E, .str ([]), .str (q), .any, .any, .str P] rfl rfl rfl ⟨.inr ⟨rfl, rfl⟩, .inr ⟨rfl, rfl⟩, .inr ⟨rfl, rfl⟩, .inr ⟨rfl, rfl⟩, .inr ⟨rfl, rfl⟩, .inl rfl, .inl rfl, .inr ⟨rfl, rfl⟩, trivial⟩ ⟨a, ps.length - a, [], q, by omega, by rw [hx, hv0]; rfl, by rw [hx, hv0]; rintro l ⟨⟩; rfl, rfl, rfl⟩
    · have he : skipIf regionM (skipIf (fun s => madeM s 4 4 true) (ps.drop i)) = ps.drop i := by rw [hk1, skip_no h1]
      conv => whnf
      refine LOOP.nil 3 1 rfl ?_
      refine LOOP.go tabOK [0] (X := Nat × List (List UInt8) × List (List UInt8)) (fun y => y.1 ≤ ps.length ∧ y.2.1.length ≤ y.1 ∧ y.2.2.length ≤ y.1 ∧ varsP [] (ps.drop (i)) = varsP y.2.1 (ps.drop y.1)) (fun y => [(3, .sl (.loc 6) 0 1 y.2.1.length none)]) (fun y => [(0, rdBoxC y.1 (ps.length - y.1) L E ([]) ([]) y.2.2.length 0 P), (4, .rows 1 (y.2.2.map strRow)), (5, .rows 1 []), (6, .rows 1 (y.2.1.map strRow))]) 7 (fun y => ps.length - y.1) (i, [], []) ⟨by simp only; omega, by simp, by simp, rfl⟩ ?_
      conv => whnf
      try rw [show ps.length - (i) = m by omega]
      refine ⟨by (refine GOES.keeping h0 [2, 3, 4] rfl rfl rfl (by first | rfl | (simp only [belowO, belowH, plainLL_below _ (plainStrs _), Bool.and_self, Bool.and_true] <;> rfl)) ?_ ?_ <;> (repeat' (first | (with_reducible rfl) | (exact rows_eq (plainStrs _) (renLL_plain _ (plainStrs _))) | (exact rows_eq (plainStrs _) (by simp [strRow, ofVal, List.take_of_length_le])) | (exact sl_eq rfl (by first | (simp; done) | omega | (simp; omega))) | (exact congrArg (SV.int _) (by first | omega | (simp (disch := omega) only [lnB, wrap64, wrap32] <;> omega) | (simp; done) | (simp <;> omega))) | ((conv => whnf); refine ⟨?_, ?_⟩) | exact trivial | (simp only [ren, renB]; done) | rfl))), ?_⟩
      rintro ⟨a, seen, vs⟩ ⟨ha, hs, hv, hx⟩
      dsimp only at ha hs hv hx ⊢
      conv => whnf
      refine CALL.here (sees_doesC 111 _ ps (fun s hs => variant_does s (hsm s hs)) a (ps.length - a) (by omega) L E ([]) ([]) vs.length 0 P) rfl rfl (by first | rfl | (simp only [belowO, belowH, plainLL_below _ (plainStrs _), Bool.and_self, Bool.and_true] <;> rfl)) (by first | rfl | (simp only [belowO, belowH, plainLL_below _ (plainStrs _), Bool.and_self, Bool.and_true] <;> rfl)) (by repeat' (first | exact trivial | exact rfl | ((conv => whnf); refine ⟨?_, ?_⟩))) (by repeat' (first | exact trivial | exact rfl | ((conv => whnf); refine ⟨?_, ?_⟩))) rfl ?_ ?_
      · rintro r O' nx' ⟨rfl, rfl, rfl⟩; exact ⟨rfl, rfl, rfl⟩
      rintro r O' ⟨rfl, rfl, _⟩
      conv => whnf
      refine IF.mk (fun h => ?_) (fun h => ?_)
      · obtain ⟨w, hw, hwm⟩ := sees_yes h
        have hlt := (List.getElem?_eq_some_iff.1 hw).1
        obtain ⟨k', hk'⟩ : ∃ k', ps.length - a = k' + 1 := ⟨ps.length - a - 1, by omega⟩
        have hpl := hsm w (List.mem_of_getElem? hw)
        have hxa : varsP seen (ps.drop a) = if lowerM w ∈ seen then none else varsP (seen ++ [lowerM w]) (ps.drop (a + 1)) := by
          rw [drop_at hw]; simp only [varsP]; rw [if_pos hwm]
        rw [hk']
        conv => whnf
        refine CALL.here (next_tag_doesC ps a k' (by omega) w hw L E ([]) ([]) vs.length 0 P) rfl rfl (by first | rfl | (simp only [belowO, belowH, plainLL_below _ (plainStrs _), Bool.and_self, Bool.and_true] <;> rfl)) (by first | rfl | (simp only [belowO, belowH, plainLL_below _ (plainStrs _), Bool.and_self, Bool.and_true] <;> rfl)) (by repeat' (first | exact trivial | exact rfl | ((conv => whnf); refine ⟨?_, ?_⟩))) (by repeat' (first | exact trivial | exact rfl | ((conv => whnf); refine ⟨?_, ?_⟩))) rfl ?_ ?_
        · rintro r O' nx' ⟨rfl, rfl, rfl⟩; exact ⟨rfl, rfl, rfl⟩
        rintro r O' ⟨rfl, rfl, _⟩
        conv => whnf
        repeat' ((first | with_reducible refine IF.tt ?_ | with_reducible refine IF.ff ?_ | refine CALL.value (lower_does _ hpl) rfl rfl ?_ | (refine CALL.look1 6 (contains_does seen (lowerM w) (by omega)) rfl rfl rfl rfl (plainStrs _) rfl ?_; conv => whnf) | refine NEED.au ?_ | ((with_reducible apply GET.at); rfl) | ((with_reducible apply GETG.at); rfl) | ((with_reducible refine UNK.mk (fun h => ?_) ?_) <;> try (exfalso; omega)) | ((with_reducible refine IF.mk (fun h => ?_) (fun h => ?_)) <;> (try simp (disch := omega) only [hsB, hsC, lnB, wrap64, wrap32, simprocAttr] at h) <;> try (exfalso; omega))) <;> conv => whnf)
        · have hin : lowerM w ∈ seen := by simpa using h
          have hn : restP (ps.drop i) = none := by unfold restP; rw [he, hx, hxa, if_pos hin]
          exact FIN.loose h0 0 [.sl (.loc 1) (a + 1) 1 (k') none, .str L, .str E, .str ([]), .str ([]), .any, .any, .str P] rfl rfl rfl ⟨.inr ⟨rfl, rfl⟩, .inr ⟨rfl, rfl⟩, .inr ⟨rfl, rfl⟩, .inr ⟨rfl, rfl⟩, .inr ⟨rfl, rfl⟩, .inl rfl, .inl rfl, .inr ⟨rfl, rfl⟩, trivial⟩ ⟨a + 1, k', [], [], by omega, by rw [hn]; rfl, by simp [hn], rfl, rfl⟩
        · have hin : ¬ lowerM w ∈ seen := by simpa using h
          refine ⟨(a + 1, seen ++ [lowerM w], vs ++ [w]), ⟨by simp only; omega, by simp; omega, by simp; omega, by simp only; rw [hx, hxa, if_neg hin]⟩, by simp only; omega, ?_⟩
          dsimp only
          rw [show ps.length - (a + 1) = k' by omega, show (vs ++ [w]).length = vs.length + 1 by simp]
          conv => whnf
          (refine GOES.keeping h0 [10, 5, 8] rfl rfl rfl (by first | rfl | (simp only [belowO, belowH, plainLL_below _ (plainStrs _), Bool.and_self, Bool.and_true] <;> rfl)) ?_ ?_ <;> (repeat' (first | (with_reducible rfl) | (exact rows_eq (plainStrs _) (renLL_plain _ (plainStrs _))) | (exact rows_eq (plainStrs _) (by simp [strRow, ofVal, List.take_of_length_le])) | (exact sl_eq rfl (by first | (simp; done) | omega | (simp; omega))) | (exact congrArg (SV.int _) (by first | omega | (simp (disch := omega) only [lnB, wrap64, wrap32] <;> omega) | (simp; done) | (simp <;> omega))) | ((conv => whnf); refine ⟨?_, ?_⟩) | exact trivial | (simp only [ren, renB]; done) | rfl)))
      · have hv0 : varsP seen (ps.drop a) = some (ps.drop a, seen) := by
          rcases sees_no h with h | ⟨s, _, h1, h2⟩
          · rw [h]; rfl
          · rw [h1]; simp only [varsP]; rw [if_neg (by simp [h2])]
        have hr0 : restP (ps.drop i) = extsP seen (ps.drop a) := by unfold restP; rw [he, hx, hv0]
        conv => whnf
        refine LOOP.go tabOK [0] (X := Nat × List (List UInt8) × List (List UInt8)) (fun y => y.1 ≤ ps.length ∧ y.2.1.length ≤ y.1 ∧ y.2.2.length ≤ y.1 ∧ restP (ps.drop i) = extsP y.2.1 (ps.drop y.1)) (fun y => [(3, .sl (.loc 6) 0 1 y.2.1.length none)]) (fun y => [(0, rdBoxC y.1 (ps.length - y.1) L E ([]) ([]) vs.length y.2.2.length P), (4, .rows 1 (vs.map strRow)), (5, .rows 1 (y.2.2.map strRow)), (6, .rows 1 (y.2.1.map strRow))]) 7 (fun y => ps.length - y.1) (a, seen, []) ⟨by simp only; omega, by simp only; omega, by simp, hr0⟩ ?_
        conv => whnf
        refine ⟨by (refine GOES.keeping h0 [4, 5, 6] rfl rfl rfl (by first | rfl | (simp only [belowO, belowH, plainLL_below _ (plainStrs _), Bool.and_self, Bool.and_true] <;> rfl)) ?_ ?_ <;> (repeat' (first | (with_reducible rfl) | (exact rows_eq (plainStrs _) (renLL_plain _ (plainStrs _))) | (exact rows_eq (plainStrs _) (by simp [strRow, ofVal, List.take_of_length_le])) | (exact sl_eq rfl (by first | (simp; done) | omega | (simp; omega))) | (exact congrArg (SV.int _) (by first | omega | (simp (disch := omega) only [lnB, wrap64, wrap32] <;> omega) | (simp; done) | (simp <;> omega))) | ((conv => whnf); refine ⟨?_, ?_⟩) | exact trivial | (simp only [ren, renB]; done) | rfl))), ?_⟩
        clear hr0 hv0 hx hs hv
        rintro ⟨a, seen, xs⟩ ⟨ha, hs, hv, hx⟩
        dsimp only at ha hs hv hx ⊢
        conv => whnf
        refine CALL.here (sees_doesC 113 _ ps (fun s hs => rest2_does s (hsm s hs)) a (ps.length - a) (by omega) L E ([]) ([]) vs.length xs.length P) rfl rfl (by first | rfl | (simp only [belowO, belowH, plainLL_below _ (plainStrs _), Bool.and_self, Bool.and_true] <;> rfl)) (by first | rfl | (simp only [belowO, belowH, plainLL_below _ (plainStrs _), Bool.and_self, Bool.and_true] <;> rfl)) (by repeat' (first | exact trivial | exact rfl | ((conv => whnf); refine ⟨?_, ?_⟩))) (by repeat' (first | exact trivial | exact rfl | ((conv => whnf); refine ⟨?_, ?_⟩))) rfl ?_ ?_
        · rintro r O' nx' ⟨rfl, rfl, rfl⟩; exact ⟨rfl, rfl, rfl⟩
        rintro r O' ⟨rfl, rfl, _⟩
        conv => whnf
        refine IF.mk (fun h => ?_) (fun h => ?_)
        · obtain ⟨w, hw, hwm⟩ := sees_yes h
          have hlt := (List.getElem?_eq_some_iff.1 hw).1
          obtain ⟨k', hk'⟩ : ∃ k', ps.length - a = k' + 1 := ⟨ps.length - a - 1, by omega⟩
          have hpl := hsm w (List.mem_of_getElem? hw)
          rw [hk']
          conv => whnf
          refine CALL.here (next_tag_doesC ps a k' (by omega) w hw L E ([]) ([]) vs.length xs.length P) rfl rfl (by first | rfl | (simp only [belowO, belowH, plainLL_below _ (plainStrs _), Bool.and_self, Bool.and_true] <;> rfl)) (by first | rfl | (simp only [belowO, belowH, plainLL_below _ (plainStrs _), Bool.and_self, Bool.and_true] <;> rfl)) (by repeat' (first | exact trivial | exact rfl | ((conv => whnf); refine ⟨?_, ?_⟩))) (by repeat' (first | exact trivial | exact rfl | ((conv => whnf); refine ⟨?_, ?_⟩))) rfl ?_ ?_
          · rintro r O' nx' ⟨rfl, rfl, rfl⟩; exact ⟨rfl, rfl, rfl⟩
          rintro r O' ⟨rfl, rfl, _⟩
          conv => whnf
          refine CALL.here (tail_doesC 2 ps (by omega) (a + 1) k' (by omega) L E ([]) ([]) vs.length xs.length P) rfl rfl (by first | rfl | (simp only [belowO, belowH, plainLL_below _ (plainStrs _), Bool.and_self, Bool.and_true] <;> rfl)) (by first | rfl | (simp only [belowO, belowH, plainLL_below _ (plainStrs _), Bool.and_self, Bool.and_true] <;> rfl)) (by repeat' (first | exact trivial | exact rfl | ((conv => whnf); refine ⟨?_, ?_⟩))) (by repeat' (first | exact trivial | exact rfl | ((conv => whnf); refine ⟨?_, ?_⟩))) rfl ?_ ?_
          · rintro r O' nx' ⟨n, s, _, _, rfl, rfl, rfl⟩; exact ⟨rfl, rfl, rfl⟩
          rintro r O' ⟨n, s, hn, hsl, rfl, rfl, _⟩
          have hnle : n ≤ (ps.drop (a + 1)).length := by rw [hn]; exact span_le _ _
          rw [List.length_drop] at hnle
          have hxa : extsP seen (ps.drop a) = if n = 0 ∨ lowerM w ∈ seen then none else extsP (seen ++ [lowerM w]) (ps.drop (a + 1 + n)) := by
            rw [drop_at hw, extsP, if_pos hwm, ← hn, List.drop_drop]
          conv => whnf
          refine IF.mk (fun h1 => ?_) (fun h1 => ?_)
          · have h0n : n = 0 := by simpa using h1
            have hn : restP (ps.drop i) = none := by rw [hx, hxa, if_pos (.inl h0n)]
            conv => whnf
            repeat' ((first | with_reducible refine IF.tt ?_ | with_reducible refine IF.ff ?_ | refine NEED.au ?_ | ((with_reducible apply GET.at); rfl) | ((with_reducible apply GETG.at); rfl) | ((with_reducible refine UNK.mk (fun h => ?_) ?_) <;> try (exfalso; omega)) | ((with_reducible refine IF.mk (fun h => ?_) (fun h => ?_)) <;> (try simp (disch := omega) only [hsB, hsC, lnB, wrap64, wrap32, simprocAttr] at h) <;> try (exfalso; omega))) <;> conv => whnf)
            exact FIN.loose h0 0 [.sl (.loc 1) (a + 1 + n) 1 (k' - n) none, .str L, .str E, .str ([]), .str ([]), .any, .any, .str P] rfl rfl rfl ⟨.inr ⟨rfl, rfl⟩, .inr ⟨rfl, rfl⟩, .inr ⟨rfl, rfl⟩, .inr ⟨rfl, rfl⟩, .inr ⟨rfl, rfl⟩, .inl rfl, .inl rfl, .inr ⟨rfl, rfl⟩, trivial⟩ ⟨a + 1 + n, k' - n, [], [], by omega, by rw [hn]; rfl, by simp [hn], rfl, rfl⟩
          · have h0n : n ≠ 0 := by simpa using h1
            conv => whnf
            repeat' ((first | with_reducible refine IF.tt ?_ | with_reducible refine IF.ff ?_ | refine CALL.value (lower_does _ hpl) rfl rfl ?_ | (refine CALL.look1 6 (contains_does seen (lowerM w) (by omega)) rfl rfl rfl rfl (plainStrs _) rfl ?_; conv => whnf) | refine NEED.au ?_ | ((with_reducible apply GET.at); rfl) | ((with_reducible apply GETG.at); rfl) | ((with_reducible refine UNK.mk (fun h => ?_) ?_) <;> try (exfalso; omega)) | ((with_reducible refine IF.mk (fun h => ?_) (fun h => ?_)) <;> (try simp (disch := omega) only [hsB, hsC, lnB, wrap64, wrap32, simprocAttr] at h) <;> try (exfalso; omega))) <;> conv => whnf)
            · have hin : lowerM w ∈ seen := by simp_all
              have hn : restP (ps.drop i) = none := by rw [hx, hxa, if_pos (.inr hin)]
              exact FIN.loose h0 0 [.sl (.loc 1) (a + 1 + n) 1 (k' - n) none, .str L, .str E, .str ([]), .str ([]), .any, .any, .str P] rfl rfl rfl ⟨.inr ⟨rfl, rfl⟩, .inr ⟨rfl, rfl⟩, .inr ⟨rfl, rfl⟩, .inr ⟨rfl, rfl⟩, .inr ⟨rfl, rfl⟩, .inl rfl, .inl rfl, .inr ⟨rfl, rfl⟩, trivial⟩ ⟨a + 1 + n, k' - n, [], [], by omega, by rw [hn]; rfl, by simp [hn], rfl, rfl⟩
            · have hin : ¬ lowerM w ∈ seen := by simp_all
              refine ⟨(a + 1 + n, seen ++ [lowerM w], xs ++ [w ++ s]), ⟨by simp only; omega, by simp; omega, by simp; omega, by simp only; rw [hx, hxa, if_neg (by simp [h0n, hin])]⟩, by simp only; omega, ?_⟩
              dsimp only
              rw [show ps.length - (a + 1 + n) = k' - n by omega, show (xs ++ [w ++ s]).length = xs.length + 1 by simp]
              conv => whnf
              (refine GOES.keeping h0 [4, 10, 8] rfl rfl rfl (by first | rfl | (simp only [belowO, belowH, plainLL_below _ (plainStrs _), Bool.and_self, Bool.and_true] <;> rfl)) ?_ ?_ <;> (repeat' (first | (with_reducible rfl) | (exact rows_eq (plainStrs _) (renLL_plain _ (plainStrs _))) | (exact rows_eq (plainStrs _) (by simp [strRow, ofVal, List.take_of_length_le])) | (exact sl_eq rfl (by first | (simp; done) | omega | (simp; omega))) | (exact congrArg (SV.int _) (by first | omega | (simp (disch := omega) only [lnB, wrap64, wrap32] <;> omega) | (simp; done) | (simp <;> omega))) | ((conv => whnf); refine ⟨?_, ?_⟩) | exact trivial | (simp only [ren, renB]; done) | rfl)))
        · have hv0 : extsP seen (ps.drop a) = some (ps.drop a) := by
            rcases sees_no h with h | ⟨s, _, h1, h2⟩
            · rw [h, extsP]
            · rw [h1, extsP, if_neg (by simp [h2])]
          conv => whnf
          exact FIN.loose h0 0 [.sl (.loc 1) (a) 1 (ps.length - a) none, .str L, .str E, .str ([]), .str ([]), .any, .any, .str P] rfl rfl rfl ⟨.inr ⟨rfl, rfl⟩, .inr ⟨rfl, rfl⟩, .inr ⟨rfl, rfl⟩, .inr ⟨rfl, rfl⟩, .inr ⟨rfl, rfl⟩, .inl rfl, .inl rfl, .inr ⟨rfl, rfl⟩, trivial⟩ ⟨a, ps.length - a, [], [], by omega, by rw [hx, hv0]; rfl, by rw [hx, hv0]; rintro l ⟨⟩; rfl, rfl, rfl⟩
end Go.Proofs.YtillkgjdbnjnoaaGreatDoor
/- names: a tag, walked: whether it is one. Conditions: none. -/
set_option linter.unusedVariables false
set_option linter.unusedSimpArgs false
set_option maxRecDepth 20000
set_option maxHeartbeats 8000000
namespace Go.Proofs.YtillkgjdbnjnoaaGreatDoor
open Go.Sx Go.Our
theorem head_sees {p : List UInt8 → Bool} {ps : List (List UInt8)} : seesM p ps 0 = headIs p ps := by
  unfold seesM
  cases ps <;> rfl
theorem tag_does (s : List UInt8) (hs : s.length ≤ 34359738368) : Does Tryz.prog tab 50 0 [.str s] [] [] (Val (.tup [.agg (anyN 7), .int .i64 (if tagP (splitM s) = true then 0 else 61)])) := by
  have hbulk := split_bulk s
  have hlen := split_len s
  generalize hps : splitM s = ps at *
  have hb : bulkM ps + ps.length ≤ 68719476736 := by unfold bulkM; omega
  have hsm := bulk_sm (ps := ps) (by omega)
  refine Does.enter tabOK (g := 50) (fn := Tryz.f50) Tryz.call50 Tryz.func50 rfl 56 rfl rfl [.cell 2 81, .tmp 3] rfl ?_
  intro w0 F η0 h0
  conv => whnf
  refine CALL.newS (split_does s (by omega)) rfl (plainStrs _) ?_
  rw [hps, List.length_map]
  conv => whnf
  refine CALL.nilCell 2 5 1 rfl rfl ?_
  refine CALL.nilCell 2 6 1 rfl rfl ?_
  refine CALL.at [2, 1, 3, 4] (sees_does 81 _ ps (fun s hs => private_does s) 0 ps.length (by omega) [] [] [] [] 0 0 []) rfl rfl rfl rfl (by first | rfl | (simp only [belowO, belowH, plainLL_below _ (plainStrs _), Bool.and_self, Bool.and_true] <;> rfl)) (by first | rfl | (simp only [belowO, belowH, plainLL_below _ (plainStrs _), Bool.and_self, Bool.and_true] <;> rfl)) (by repeat' (first | exact trivial | exact (renH_plain _ (h := .rows _ _) (plainStrs _)).symm | exact rfl | exact (renH_plain _ (h := .rows _ _) (plainStrs _)).trans (renH_plain _ (h := .rows _ _) (plainStrs _)).symm | ((conv => whnf); refine ⟨?_, ?_⟩))) (by repeat' (first | exact trivial | exact (renH_plain _ (h := .rows _ _) (plainStrs _)).symm | exact rfl | exact (renH_plain _ (h := .rows _ _) (plainStrs _)).trans (renH_plain _ (h := .rows _ _) (plainStrs _)).symm | ((conv => whnf); refine ⟨?_, ?_⟩))) rfl rfl ?_
  rintro r O' nx' ⟨rfl, rfl, rfl⟩
  rw [head_sees]
  conv => whnf
  refine IF.mk (fun h1 => ?_) (fun h1 => ?_)
  · have h1 : headIs privateM ps = false := by simpa using h1
    conv => whnf
    repeat' ((first | with_reducible refine IF.tt ?_ | with_reducible refine IF.ff ?_ | refine NEED.au ?_ | ((with_reducible apply GET.at); rfl) | ((with_reducible apply GETG.at); rfl) | ((with_reducible refine UNK.mk (fun h => ?_) ?_) <;> try (exfalso; omega)) | ((with_reducible refine IF.mk (fun h => ?_) (fun h => ?_)) <;> (try simp (disch := omega) only [hsB, hsC, lnB, wrap64, wrap32, simprocAttr] at h) <;> try (exfalso; omega))) <;> conv => whnf)
    refine CALL.at [2, 1, 3, 4] (language_does ps (by omega) 0 ps.length (by omega) [] [] 0 0 []) rfl rfl rfl rfl (by first | rfl | (simp only [belowO, belowH, plainLL_below _ (plainStrs _), Bool.and_self, Bool.and_true] <;> rfl)) (by first | rfl | (simp only [belowO, belowH, plainLL_below _ (plainStrs _), Bool.and_self, Bool.and_true] <;> rfl)) (by repeat' (first | exact trivial | exact (renH_plain _ (h := .rows _ _) (plainStrs _)).symm | exact rfl | exact (renH_plain _ (h := .rows _ _) (plainStrs _)).trans (renH_plain _ (h := .rows _ _) (plainStrs _)).symm | ((conv => whnf); refine ⟨?_, ?_⟩))) (by repeat' (first | exact trivial | exact (renH_plain _ (h := .rows _ _) (plainStrs _)).symm | exact rfl | exact (renH_plain _ (h := .rows _ _) (plainStrs _)).trans (renH_plain _ (h := .rows _ _) (plainStrs _)).symm | ((conv => whnf); refine ⟨?_, ?_⟩))) rfl rfl ?_
    rintro r O' nx' ⟨i1, m1, L, E, him1, rfl, hL, rfl, rfl⟩
    cases h2 : langP (ps.drop 0) with
    | none =>
      have htag : tagP ps = false := by
        have h2 : langP ps = none := h2
        unfold tagP; rw [if_neg (by simp [h1]), h2]
      rw [Option.isSome_none]
      conv => whnf
      repeat' ((first | with_reducible refine IF.tt ?_ | with_reducible refine IF.ff ?_ | refine NEED.au ?_ | ((with_reducible apply GET.at); rfl) | ((with_reducible apply GETG.at); rfl) | ((with_reducible refine UNK.mk (fun h => ?_) ?_) <;> try (exfalso; omega)) | ((with_reducible refine IF.mk (fun h => ?_) (fun h => ?_)) <;> (try simp (disch := omega) only [hsB, hsC, lnB, wrap64, wrap32, simprocAttr] at h) <;> try (exfalso; omega))) <;> conv => whnf)
      refine FIN.anyA 7 h0 rfl rfl rfl ⟨?_, rfl, rfl⟩
      rw [htag]; rfl
    | some l1 =>
      have hl1 := hL l1 h2
      subst hl1
      rw [Option.isSome_some]
      conv => whnf
      repeat' ((first | with_reducible refine IF.tt ?_ | with_reducible refine IF.ff ?_ | refine NEED.au ?_ | ((with_reducible apply GET.at); rfl) | ((with_reducible apply GETG.at); rfl) | ((with_reducible refine UNK.mk (fun h => ?_) ?_) <;> try (exfalso; omega)) | ((with_reducible refine IF.mk (fun h => ?_) (fun h => ?_)) <;> (try simp (disch := omega) only [hsB, hsC, lnB, wrap64, wrap32, simprocAttr] at h) <;> try (exfalso; omega))) <;> conv => whnf)
      refine CALL.at [2, 1, 3, 4] (rest_does ps (by omega) i1 m1 him1 L E []) rfl rfl rfl rfl (by first | rfl | (simp only [belowO, belowH, plainLL_below _ (plainStrs _), Bool.and_self, Bool.and_true] <;> rfl)) (by first | rfl | (simp only [belowO, belowH, plainLL_below _ (plainStrs _), Bool.and_self, Bool.and_true] <;> rfl)) (by repeat' (first | exact trivial | exact (renH_plain _ (h := .rows _ _) (plainStrs _)).symm | exact rfl | exact (renH_plain _ (h := .rows _ _) (plainStrs _)).trans (renH_plain _ (h := .rows _ _) (plainStrs _)).symm | ((conv => whnf); refine ⟨?_, ?_⟩))) (by repeat' (first | exact trivial | exact (renH_plain _ (h := .rows _ _) (plainStrs _)).symm | exact rfl | exact (renH_plain _ (h := .rows _ _) (plainStrs _)).trans (renH_plain _ (h := .rows _ _) (plainStrs _)).symm | ((conv => whnf); refine ⟨?_, ?_⟩))) rfl rfl ?_
      rintro r O' nx' ⟨i2, m2, S, R, him2, rfl, hR, rfl, rfl⟩
      cases h3 : restP (ps.drop i1) with
      | none =>
        have htag : tagP ps = false := by
          have h2 : langP ps = _ := h2
          unfold tagP; rw [if_neg (by simp [h1]), h2]; simp only [h3]
        rw [Option.isSome_none]
        conv => whnf
        repeat' ((first | with_reducible refine IF.tt ?_ | with_reducible refine IF.ff ?_ | refine NEED.au ?_ | ((with_reducible apply GET.at); rfl) | ((with_reducible apply GETG.at); rfl) | ((with_reducible refine UNK.mk (fun h => ?_) ?_) <;> try (exfalso; omega)) | ((with_reducible refine IF.mk (fun h => ?_) (fun h => ?_)) <;> (try simp (disch := omega) only [hsB, hsC, lnB, wrap64, wrap32, simprocAttr] at h) <;> try (exfalso; omega))) <;> conv => whnf)
        refine FIN.anyA 7 h0 rfl rfl rfl ⟨?_, rfl, rfl⟩
        rw [htag]; rfl
      | some l2 =>
        have hl2 := hR l2 h3
        subst hl2
        have htag : tagP ps = lastP (ps.drop i2) := by
          have h2 : langP ps = _ := h2
          unfold tagP; rw [if_neg (by simp [h1]), h2]; simp only [h3]
        rw [Option.isSome_some]
        conv => whnf
        repeat' ((first | with_reducible refine IF.tt ?_ | with_reducible refine IF.ff ?_ | refine NEED.au ?_ | ((with_reducible apply GET.at); rfl) | ((with_reducible apply GETG.at); rfl) | ((with_reducible refine UNK.mk (fun h => ?_) ?_) <;> try (exfalso; omega)) | ((with_reducible refine IF.mk (fun h => ?_) (fun h => ?_)) <;> (try simp (disch := omega) only [hsB, hsC, lnB, wrap64, wrap32, simprocAttr] at h) <;> try (exfalso; omega))) <;> conv => whnf)
        refine CALL.at [2, 1, 3, 4] (sees_doesA 81 _ ps (fun s hs => private_does s) (i2) (m2) (by omega) L E S R 0 0 []) rfl rfl rfl rfl (by first | rfl | (simp only [belowO, belowH, plainLL_below _ (plainStrs _), Bool.and_self, Bool.and_true] <;> rfl)) (by first | rfl | (simp only [belowO, belowH, plainLL_below _ (plainStrs _), Bool.and_self, Bool.and_true] <;> rfl)) (by repeat' (first | exact trivial | exact (renH_plain _ (h := .rows _ _) (plainStrs _)).symm | exact rfl | exact (renH_plain _ (h := .rows _ _) (plainStrs _)).trans (renH_plain _ (h := .rows _ _) (plainStrs _)).symm | ((conv => whnf); refine ⟨?_, ?_⟩))) (by repeat' (first | exact trivial | exact (renH_plain _ (h := .rows _ _) (plainStrs _)).symm | exact rfl | exact (renH_plain _ (h := .rows _ _) (plainStrs _)).trans (renH_plain _ (h := .rows _ _) (plainStrs _)).symm | ((conv => whnf); refine ⟨?_, ?_⟩))) rfl rfl ?_
        rintro r O' nx' ⟨rfl, rfl, rfl⟩
        conv => whnf
        refine IF.mk (fun h1 => ?_) (fun h1 => ?_)
        · obtain ⟨w, hw, hwm⟩ := sees_yes h1
          have hlt := (List.getElem?_eq_some_iff.1 hw).1
          have hlast : lastP (ps.drop (i2)) = decide (spanM (partOK 1) (ps.drop (i2 + 1)) ≠ 0 ∧ spanM (partOK 1) (ps.drop (i2 + 1)) = (ps.drop (i2 + 1)).length) := by rw [drop_at hw]; simp only [lastP]; rw [if_pos hwm]
          rw [List.length_drop] at hlast
          obtain ⟨k', hk'⟩ : ∃ k', m2 = k' + 1 := ⟨m2 - 1, by omega⟩
          have hwl := hsm w (List.mem_of_getElem? hw)
          rw [hk']
          conv => whnf
          refine CALL.at [2, 1, 3, 4] (next_tag_doesA ps (i2) k' (by omega) w hw L E S R 0 0 []) rfl rfl rfl rfl (by first | rfl | (simp only [belowO, belowH, plainLL_below _ (plainStrs _), Bool.and_self, Bool.and_true] <;> rfl)) (by first | rfl | (simp only [belowO, belowH, plainLL_below _ (plainStrs _), Bool.and_self, Bool.and_true] <;> rfl)) (by repeat' (first | exact trivial | exact (renH_plain _ (h := .rows _ _) (plainStrs _)).symm | exact rfl | exact (renH_plain _ (h := .rows _ _) (plainStrs _)).trans (renH_plain _ (h := .rows _ _) (plainStrs _)).symm | ((conv => whnf); refine ⟨?_, ?_⟩))) (by repeat' (first | exact trivial | exact (renH_plain _ (h := .rows _ _) (plainStrs _)).symm | exact rfl | exact (renH_plain _ (h := .rows _ _) (plainStrs _)).trans (renH_plain _ (h := .rows _ _) (plainStrs _)).symm | ((conv => whnf); refine ⟨?_, ?_⟩))) rfl rfl ?_
          rintro r O' nx' ⟨rfl, rfl, rfl⟩
          conv => whnf
          refine CALL.at [2, 1, 3, 4] (tail_doesA 1 ps (by omega) (i2 + 1) k' (by omega) L E S R 0 0 []) rfl rfl rfl rfl (by first | rfl | (simp only [belowO, belowH, plainLL_below _ (plainStrs _), Bool.and_self, Bool.and_true] <;> rfl)) (by first | rfl | (simp only [belowO, belowH, plainLL_below _ (plainStrs _), Bool.and_self, Bool.and_true] <;> rfl)) (by repeat' (first | exact trivial | exact (renH_plain _ (h := .rows _ _) (plainStrs _)).symm | exact rfl | exact (renH_plain _ (h := .rows _ _) (plainStrs _)).trans (renH_plain _ (h := .rows _ _) (plainStrs _)).symm | ((conv => whnf); refine ⟨?_, ?_⟩))) (by repeat' (first | exact trivial | exact (renH_plain _ (h := .rows _ _) (plainStrs _)).symm | exact rfl | exact (renH_plain _ (h := .rows _ _) (plainStrs _)).trans (renH_plain _ (h := .rows _ _) (plainStrs _)).symm | ((conv => whnf); refine ⟨?_, ?_⟩))) rfl rfl ?_
          rintro r O' nx' ⟨n, x, hn, hxl, rfl, rfl, rfl⟩
          have hn : n = spanM (partOK 1) (ps.drop (i2 + 1)) := hn
          have hnle : n ≤ (ps.drop (i2 + 1)).length := by rw [hn]; exact span_le _ _
          rw [List.length_drop] at hnle
          rw [← hn] at hlast
          conv => whnf
          repeat' ((first | with_reducible refine IF.tt ?_ | with_reducible refine IF.ff ?_ | refine NEED.au ?_ | ((with_reducible apply GET.at); rfl) | ((with_reducible apply GETG.at); rfl) | ((with_reducible refine UNK.mk (fun h => ?_) ?_) <;> try (exfalso; omega)) | ((with_reducible refine IF.mk (fun h => ?_) (fun h => ?_)) <;> (try simp (disch := omega) only [hsB, hsC, lnB, wrap64, wrap32, simprocAttr] at h) <;> try (exfalso; omega))) <;> conv => whnf)
          all_goals
            refine FIN.anyA 7 h0 rfl rfl rfl ⟨?_, rfl, rfl⟩
            rw [htag, hlast]
          · rw [if_neg (by simp_all)]
          · rw [if_neg (by simp; omega)]
          · rw [if_pos (by simp; simp at *; omega)]
        · have hlast : lastP (ps.drop (i2)) = decide (m2 = 0) := by
            rcases sees_no h1 with h2 | ⟨x, h3, h2, h4⟩
            · rw [h2]; have := congrArg List.length h2; rw [List.length_drop, List.length_nil] at this; simp only [lastP]; symm; exact decide_eq_true (by omega)
            · have := (List.getElem?_eq_some_iff.1 h3).1
              rw [h2]; simp only [lastP]; rw [if_neg (by simp [h4])]; symm; exact decide_eq_false (by omega)
          conv => whnf
          repeat' ((first | with_reducible refine IF.tt ?_ | with_reducible refine IF.ff ?_ | refine NEED.au ?_ | ((with_reducible apply GET.at); rfl) | ((with_reducible apply GETG.at); rfl) | ((with_reducible refine UNK.mk (fun h => ?_) ?_) <;> try (exfalso; omega)) | ((with_reducible refine IF.mk (fun h => ?_) (fun h => ?_)) <;> (try simp (disch := omega) only [hsB, hsC, lnB, wrap64, wrap32, simprocAttr] at h) <;> try (exfalso; omega))) <;> conv => whnf)
          all_goals
            refine FIN.anyA 7 h0 rfl rfl rfl ⟨?_, rfl, rfl⟩
            rw [htag, hlast]
          · rw [if_neg (by rw [decide_eq_true_iff]; omega)]
          · rw [if_pos (by rw [decide_eq_true_iff]; omega)]
  · have h1 : headIs privateM ps = true := by simpa using h1
    have htag : tagP ps = lastP (ps.drop 0) := by unfold tagP; rw [if_pos h1]; rfl
    conv => whnf
    repeat' ((first | with_reducible refine IF.tt ?_ | with_reducible refine IF.ff ?_ | refine NEED.au ?_ | ((with_reducible apply GET.at); rfl) | ((with_reducible apply GETG.at); rfl) | ((with_reducible refine UNK.mk (fun h => ?_) ?_) <;> try (exfalso; omega)) | ((with_reducible refine IF.mk (fun h => ?_) (fun h => ?_)) <;> (try simp (disch := omega) only [hsB, hsC, lnB, wrap64, wrap32, simprocAttr] at h) <;> try (exfalso; omega))) <;> conv => whnf)
    refine CALL.at [2, 1, 3, 4] (sees_does 81 _ ps (fun s hs => private_does s) (0) (ps.length) (by omega) [] [] [] [] 0 0 []) rfl rfl rfl rfl (by first | rfl | (simp only [belowO, belowH, plainLL_below _ (plainStrs _), Bool.and_self, Bool.and_true] <;> rfl)) (by first | rfl | (simp only [belowO, belowH, plainLL_below _ (plainStrs _), Bool.and_self, Bool.and_true] <;> rfl)) (by repeat' (first | exact trivial | exact (renH_plain _ (h := .rows _ _) (plainStrs _)).symm | exact rfl | exact (renH_plain _ (h := .rows _ _) (plainStrs _)).trans (renH_plain _ (h := .rows _ _) (plainStrs _)).symm | ((conv => whnf); refine ⟨?_, ?_⟩))) (by repeat' (first | exact trivial | exact (renH_plain _ (h := .rows _ _) (plainStrs _)).symm | exact rfl | exact (renH_plain _ (h := .rows _ _) (plainStrs _)).trans (renH_plain _ (h := .rows _ _) (plainStrs _)).symm | ((conv => whnf); refine ⟨?_, ?_⟩))) rfl rfl ?_
    rintro r O' nx' ⟨rfl, rfl, rfl⟩
    conv => whnf
    refine IF.mk (fun h1 => ?_) (fun h1 => ?_)
    · obtain ⟨w, hw, hwm⟩ := sees_yes h1
      have hlt := (List.getElem?_eq_some_iff.1 hw).1
      have hlast : lastP (ps.drop (0)) = decide (spanM (partOK 1) (ps.drop (0 + 1)) ≠ 0 ∧ spanM (partOK 1) (ps.drop (0 + 1)) = (ps.drop (0 + 1)).length) := by rw [drop_at hw]; simp only [lastP]; rw [if_pos hwm]
      rw [List.length_drop] at hlast
      obtain ⟨k', hk'⟩ : ∃ k', ps.length = k' + 1 := ⟨ps.length - 1, by omega⟩
      have hwl := hsm w (List.mem_of_getElem? hw)
      rw [hk']
      conv => whnf
      refine CALL.at [2, 1, 3, 4] (next_tag_does ps (0) k' (by omega) w hw [] [] [] [] 0 0 []) rfl rfl rfl rfl (by first | rfl | (simp only [belowO, belowH, plainLL_below _ (plainStrs _), Bool.and_self, Bool.and_true] <;> rfl)) (by first | rfl | (simp only [belowO, belowH, plainLL_below _ (plainStrs _), Bool.and_self, Bool.and_true] <;> rfl)) (by repeat' (first | exact trivial | exact (renH_plain _ (h := .rows _ _) (plainStrs _)).symm | exact rfl | exact (renH_plain _ (h := .rows _ _) (plainStrs _)).trans (renH_plain _ (h := .rows _ _) (plainStrs _)).symm | ((conv => whnf); refine ⟨?_, ?_⟩))) (by repeat' (first | exact trivial | exact (renH_plain _ (h := .rows _ _) (plainStrs _)).symm | exact rfl | exact (renH_plain _ (h := .rows _ _) (plainStrs _)).trans (renH_plain _ (h := .rows _ _) (plainStrs _)).symm | ((conv => whnf); refine ⟨?_, ?_⟩))) rfl rfl ?_
      rintro r O' nx' ⟨rfl, rfl, rfl⟩
      conv => whnf
      refine CALL.at [2, 1, 3, 4] (tail_does 1 ps (by omega) (0 + 1) k' (by omega) [] [] [] [] 0 0 []) rfl rfl rfl rfl (by first | rfl | (simp only [belowO, belowH, plainLL_below _ (plainStrs _), Bool.and_self, Bool.and_true] <;> rfl)) (by first | rfl | (simp only [belowO, belowH, plainLL_below _ (plainStrs _), Bool.and_self, Bool.and_true] <;> rfl)) (by repeat' (first | exact trivial | exact (renH_plain _ (h := .rows _ _) (plainStrs _)).symm | exact rfl | exact (renH_plain _ (h := .rows _ _) (plainStrs _)).trans (renH_plain _ (h := .rows _ _) (plainStrs _)).symm | ((conv => whnf); refine ⟨?_, ?_⟩))) (by repeat' (first | exact trivial | exact (renH_plain _ (h := .rows _ _) (plainStrs _)).symm | exact rfl | exact (renH_plain _ (h := .rows _ _) (plainStrs _)).trans (renH_plain _ (h := .rows _ _) (plainStrs _)).symm | ((conv => whnf); refine ⟨?_, ?_⟩))) rfl rfl ?_
      rintro r O' nx' ⟨n, x, hn, hxl, rfl, rfl, rfl⟩
      have hn : n = spanM (partOK 1) (ps.drop (0 + 1)) := hn
      have hnle : n ≤ (ps.drop (0 + 1)).length := by rw [hn]; exact span_le _ _
      rw [List.length_drop] at hnle
      rw [← hn] at hlast
      conv => whnf
      repeat' ((first | with_reducible refine IF.tt ?_ | with_reducible refine IF.ff ?_ | refine NEED.au ?_ | ((with_reducible apply GET.at); rfl) | ((with_reducible apply GETG.at); rfl) | ((with_reducible refine UNK.mk (fun h => ?_) ?_) <;> try (exfalso; omega)) | ((with_reducible refine IF.mk (fun h => ?_) (fun h => ?_)) <;> (try simp (disch := omega) only [hsB, hsC, lnB, wrap64, wrap32, simprocAttr] at h) <;> try (exfalso; omega))) <;> conv => whnf)
      all_goals
        refine FIN.anyA 7 h0 rfl rfl rfl ⟨?_, rfl, rfl⟩
        rw [htag, hlast]
      · rw [if_neg (by simp_all)]
      · rw [if_neg (by simp; omega)]
      · rw [if_pos (by simp; simp at *; omega)]
    · have hlast : lastP (ps.drop (0)) = decide (ps.length = 0) := by
        rcases sees_no h1 with h2 | ⟨x, h3, h2, h4⟩
        · rw [h2]; have := congrArg List.length h2; rw [List.length_drop, List.length_nil] at this; simp only [lastP]; symm; exact decide_eq_true (by omega)
        · have := (List.getElem?_eq_some_iff.1 h3).1
          rw [h2]; simp only [lastP]; rw [if_neg (by simp [h4])]; symm; exact decide_eq_false (by omega)
      conv => whnf
      repeat' ((first | with_reducible refine IF.tt ?_ | with_reducible refine IF.ff ?_ | refine NEED.au ?_ | ((with_reducible apply GET.at); rfl) | ((with_reducible apply GETG.at); rfl) | ((with_reducible refine UNK.mk (fun h => ?_) ?_) <;> try (exfalso; omega)) | ((with_reducible refine IF.mk (fun h => ?_) (fun h => ?_)) <;> (try simp (disch := omega) only [hsB, hsC, lnB, wrap64, wrap32, simprocAttr] at h) <;> try (exfalso; omega))) <;> conv => whnf)
      all_goals
        refine FIN.anyA 7 h0 rfl rfl rfl ⟨?_, rfl, rfl⟩
        rw [htag, hlast]
      · rw [if_neg (by rw [decide_eq_true_iff]; omega)]
      · rw [if_pos (by rw [decide_eq_true_iff]; omega)]
end Go.Proofs.YtillkgjdbnjnoaaGreatDoor
/- Terms and quads: which are well formed. No program in sight. -/
set_option linter.unusedVariables false
set_option linter.unusedSimpArgs false
namespace Go.Our
open Go.Sx
/-- rdf:langString -/
def taggedB : List UInt8 := [104, 116, 116, 112, 58, 47, 47, 119, 119, 119, 46, 119, 51, 46, 111, 114, 103, 47, 49, 57, 57, 57, 47, 48, 50, 47, 50, 50, 45, 114, 100, 102, 45, 115, 121, 110, 116, 97, 120, 45, 110, 115, 35, 108, 97, 110, 103, 83, 116, 114, 105, 110, 103]
def litM (t y l : List UInt8) : Int :=
  if 65536 < t.length then 2 else if 0 ≤ chk t 0 then 40 else if iriM y ≠ 0 then iriM y else
  if l ≠ [] ∧ 65536 < l.length then 2 else if l ≠ [] ∧ (¬ tagP (splitM l) = true ∨ lowerM l ≠ l) then 61 else
  if (l ≠ [] ∧ ¬ y = taggedB) ∨ (l = [] ∧ y = taggedB) then 71 else 0
def checkM (x : Tm) : Int :=
  if x.k = 1 ∨ x.k = 2 then (if x.y ≠ [] ∨ x.l ≠ [] then 70 else if x.k = 1 then iriM x.t else if 65536 < x.t.length then 2 else labelM x.t)
  else if x.k = 3 then litM x.t x.y x.l else 70
theorem check_kind {x : Tm} (h : checkM x = 0) : x.k = 1 ∨ x.k = 2 ∨ x.k = 3 := by
  unfold checkM at h
  split at h
  · omega
  · split at h
    · omega
    · omega
end Go.Our
/- term and its reference: Check and CheckQuad, walked. Conditions: none. -/
set_option linter.unusedVariables false
set_option linter.unusedSimpArgs false
set_option maxRecDepth 20000
set_option maxHeartbeats 8000000
namespace Go.Proofs.YtillkgjdbnjnoaaGreatDoor
open Go.Sx Go.Our
def plTerm10 : Plan := (planOf [(0, 1), (1, 1), (2, 1), (3, 1), (6, 1), (4, 2), (7, 2), (5, 3), (8, 1), (9, 1)])
theorem literal_does (k : Int) (t y l : List UInt8) (ht : Sm t) (hy : Sm y) (hl : Sm l) : Does Tryz.prog tab 33 0 [.agg [.int .i64 k, .str t, .str y, .str l]] [] [] (Val (.int .i64 (litM t y l))) := by
  refine Does.enter tabOK (g := 33) (fn := Tryz.f33) Tryz.call33 Tryz.func33 rfl 55 rfl rfl [.tmp 2] rfl ?_
  intro w0 F η0 h0
  conv => whnf
  repeat' ((first | with_reducible refine IF.tt ?_ | with_reducible refine IF.ff ?_ | refine DRAWN.of (id := 12) tabOK mixed plTerm10 (by kernel_rfl) ?_ | with_reducible refine ADD.mk (fun _ _ => ?_) | with_reducible refine NEED.mk (Det.of rfl) ?_ | refine NEED.mk (det_pos (by omega)) ?_ | with_reducible refine FORK.mk ?_ ?_ | refine CALL.value (check_does _ ht) rfl rfl ?_ | refine CALL.value (iriCheck_does _ hy) rfl rfl ?_ | refine CALL.value (tag_does _ (by omega)) rfl rfl ?_ | refine CALL.value (lower_does _ hl) rfl rfl ?_ | (refine CALL.look1 2 (cmpOrErr_does [(if tagP (splitM l) = true then 0 else 61), 61] (by simp)) rfl rfl rfl rfl rfl rfl ?_; conv => whnf) | refine NEED.au ?_ | ((with_reducible apply GET.at); rfl) | ((with_reducible apply GETG.at); rfl) | ((with_reducible refine UNK.mk (fun h => ?_) ?_) <;> try (exfalso; omega)) | ((with_reducible refine IF.mk (fun h => ?_) (fun h => ?_)) <;> (try simp (disch := omega) only [hsB, hsC, lnB, wrap64, wrap32, simprocAttr] at h) <;> try (exfalso; omega))) <;> conv => whnf)
  all_goals
    refine FIN.value h0 rfl (congrArg (SV.int _) ?_)
    by_cases hy0 : y = taggedB
    · have hyb : (y == taggedB) = true := by simp [hy0]
      unfold taggedB at hyb
      try rw [hyb] at h
      by_cases htg : tagP (splitM l) = true <;> by_cases hlw : lowerM l = l <;> by_cases hl0 : l = [] <;> simp_all [litM, taggedB, orE] <;> omega
    · have hyb : (y == taggedB) = false := by simp [hy0]
      unfold taggedB at hyb
      try rw [hyb] at h
      by_cases htg : tagP (splitM l) = true <;> by_cases hlw : lowerM l = l <;> by_cases hl0 : l = [] <;> simp_all [litM, taggedB, orE] <;> omega
theorem tcheck_does (x : Tm) (hx : TmSm x) : Does Tryz.prog tab 19 0 [.agg [.int .i64 x.k, .str x.t, .str x.y, .str x.l]] [] [] (Val (.int .i64 (checkM x))) := by
  obtain ⟨ht, hy, hl⟩ := hx
  obtain ⟨k, t, y, l⟩ := x
  dsimp only at ht hy hl ⊢
  refine Does.enter tabOK (g := 19) (fn := Tryz.f19) Tryz.call19 Tryz.func19 rfl 33 rfl rfl [.tmp 2] rfl ?_
  intro w0 F η0 h0
  conv => whnf
  repeat' ((first | with_reducible refine IF.tt ?_ | with_reducible refine IF.ff ?_ | refine CALL.value (literal_does _ _ _ _ ht hy hl) rfl rfl ?_ | refine CALL.value (iriCheck_does _ ht) rfl rfl ?_ | refine CALL.value (nLabel_does _ ht) rfl rfl ?_ | refine NEED.au ?_ | ((with_reducible apply GET.at); rfl) | ((with_reducible apply GETG.at); rfl) | ((with_reducible refine UNK.mk (fun h => ?_) ?_) <;> try (exfalso; omega)) | ((with_reducible refine IF.mk (fun h => ?_) (fun h => ?_)) <;> (try simp (disch := omega) only [hsB, hsC, lnB, wrap64, wrap32, simprocAttr] at h) <;> try (exfalso; omega))) <;> conv => whnf)
  all_goals
    refine FIN.value h0 rfl (congrArg (SV.int _) ?_)
    unfold checkM
    first
      | (simp_all; done)
      | (simp_all <;> omega)
end Go.Proofs.YtillkgjdbnjnoaaGreatDoor
/- A term's text in plain words. No program in sight. -/
set_option linter.unusedVariables false
set_option linter.unusedSimpArgs false
namespace Go.Our
open Go.Sx
/-- xsd:string -/
def plainB : List UInt8 := [104, 116, 116, 112, 58, 47, 47, 119, 119, 119, 46, 119, 51, 46, 111, 114, 103, 47, 50, 48, 48, 49, 47, 88, 77, 76, 83, 99, 104, 101, 109, 97, 35, 115, 116, 114, 105, 110, 103]
def angM (s : List UInt8) : List UInt8 := [60] ++ escM 2 s ++ [62]
def textM (x : Tm) : List UInt8 :=
  if checkM x ≠ 0 then [] else if x.k = 1 then angM x.t else if x.k = 2 then [95, 58] ++ x.t else
  [34] ++ escM 1 x.t ++ [34] ++ (if x.l ≠ [] then [64] ++ x.l else if x.y ≠ plainB then [94, 94] ++ angM x.y else [])
theorem refM_ok {s : List UInt8} (h : iriM s = 0) : s.length ≤ 65536 ∧ chk s 0 < 0 := by
  unfold iriM at h
  split at h
  · omega
  · rename_i h1
    unfold refM at h1
    (repeat' split at h1) <;> simp at h1 <;> omega
theorem escM_len (way : Int) (s : List UInt8) : (escM way s).length ≤ 6 * s.length := by
  unfold escM
  split
  · simp
  · have := escFrom_len way s 0; omega
theorem check_text {x : Tm} (h : checkM x = 0) : x.t.length ≤ 65536 ∧ (x.k ≠ 2 → chk x.t 0 < 0) ∧ (x.k = 3 → iriM x.y = 0 ∧ x.l.length ≤ 65536) := by
  unfold checkM at h
  split at h
  · split at h
    · omega
    · split at h
      · obtain ⟨h1, h2⟩ := refM_ok h
        exact ⟨h1, fun _ => h2, fun h3 => by omega⟩
      · split at h
        · omega
        · exact ⟨by omega, fun h3 => by omega, fun h3 => by omega⟩
  · split at h
    · unfold litM at h
      split at h
      · omega
      split at h
      · omega
      split at h
      · rename_i h1; exact absurd h h1
      rename_i h1 h2 h3
      refine ⟨by omega, fun _ => by omega, fun _ => ⟨by simpa using h3, ?_⟩⟩
      by_cases hl : x.l = []
      · rw [hl]; simp
      · split at h
        · omega
        · rename_i h4
          have : ¬ 65536 < x.l.length := fun h5 => h4 ⟨hl, h5⟩
          omega
    · omega
end Go.Our
/- Terms read in plain words. No program in sight. -/
set_option linter.unusedVariables false
set_option linter.unusedSimpArgs false
namespace Go.Our
open Go.Sx
/-- The quote that ends a literal, from a place on; or the place of what may not stand there. -/
def quotM (s : List UInt8) (i : Nat) (sl : Bool) : Nat ⊕ Nat :=
  if h : i < s.length then
    if byteAt s i = 10 ∨ byteAt s i = 13 then .inl i
    else if sl = true then quotM s (i + 1) false
    else if byteAt s i = 92 then quotM s (i + 1) true
    else if byteAt s i = 34 then .inr i
    else quotM s (i + 1) false
  else .inl s.length
termination_by s.length - i
section
variable {s : List UInt8} {i : Nat} {sl : Bool}
theorem quot_end (h : s.length ≤ i) : quotM s i sl = .inl s.length := by rw [quotM, dif_neg (by omega)]
theorem quot_nl (h : i < s.length) (h1 : byteAt s i = 10 ∨ byteAt s i = 13) : quotM s i sl = .inl i := by rw [quotM, dif_pos h, if_pos h1]
theorem quot_sl (h : i < s.length) (h1 : ¬ (byteAt s i = 10 ∨ byteAt s i = 13)) : quotM s i true = quotM s (i + 1) false := by
  conv => lhs; rw [quotM, dif_pos h, if_neg h1, if_pos rfl]
theorem quot_bs (h : i < s.length) (h1 : byteAt s i = 92) : quotM s i false = quotM s (i + 1) true := by
  conv => lhs; rw [quotM, dif_pos h, if_neg (by omega), if_neg (by decide), if_pos h1]
theorem quot_q (h : i < s.length) (h1 : byteAt s i = 34) : quotM s i false = .inr i := by
  rw [quotM, dif_pos h, if_neg (by omega), if_neg (by decide), if_neg (by omega), if_pos h1]
theorem quot_on (h : i < s.length) (h1 : ¬ (byteAt s i = 10 ∨ byteAt s i = 13)) (h2 : byteAt s i ≠ 92) (h3 : byteAt s i ≠ 34) : quotM s i false = quotM s (i + 1) false := by
  conv => lhs; rw [quotM, dif_pos h, if_neg h1, if_neg (by decide), if_neg h2, if_neg h3]
end
theorem quot_fits (s : List UInt8) (i : Nat) (sl : Bool) : (∀ e, quotM s i sl = .inr e → i ≤ e ∧ e < s.length ∧ byteAt s e = 34) ∧ (∀ e, quotM s i sl = .inl e → e ≤ s.length) := by
  induction i, sl using quotM.induct s with
  | case1 i sl h h1 => rw [quot_nl h h1]; exact ⟨fun e he => (by cases he), fun e he => (by cases he; omega)⟩
  | case2 i h h1 ih => rw [quot_sl h h1]; exact ⟨fun e he => (by have := ih.1 e he; omega), ih.2⟩
  | case3 i sl h h1 h2 h3 ih =>
    have : sl = false := by simpa using h2
    subst this
    rw [quot_bs h h3]; exact ⟨fun e he => (by have := ih.1 e he; omega), ih.2⟩
  | case4 i sl h h1 h2 h3 h4 =>
    have : sl = false := by simpa using h2
    subst this
    rw [quot_q h h4]; exact ⟨fun e he => (by cases he; omega), fun e he => (by cases he)⟩
  | case5 i sl h h1 h2 h3 h4 ih =>
    have : sl = false := by simpa using h2
    subst this
    rw [quot_on h h1 h3 h4]; exact ⟨fun e he => (by have := ih.1 e he; omega), ih.2⟩
  | case6 i sl h => rw [quot_end (by omega)]; exact ⟨fun e he => (by cases he), fun e he => (by cases he; omega)⟩
/-- An IRI between brackets, at the one that opens: an error and its place, or what it says and the place behind. -/
def iriAt (s : List UInt8) (i : Nat) : (Int × Int) ⊕ (List UInt8 × Int) :=
  if Lib.indexByte (s.drop (i + 1)) 62 < 0 then .inl (s.length, 90) else
  match unescM 2 ((s.drop (i + 1)).take (Lib.indexByte (s.drop (i + 1)) 62).toNat) 0 with
  | .inl e => .inl (i + 1 + e.1, e.2)
  | .inr t => if iriM t ≠ 0 then .inl (i, iriM t) else .inr (t, i + 1 + Lib.indexByte (s.drop (i + 1)) 62 + 1)
def langB (c : Int) : Prop := c = 45 ∨ (48 ≤ c ∧ c ≤ 57) ∨ (97 ≤ c ∧ c ≤ 122) ∨ (65 ≤ c ∧ c ≤ 90)
instance (c : Int) : Decidable (langB c) := by unfold langB; infer_instance
/-- Behind the signs of a tag. -/
def langEnd (s : List UInt8) (i : Nat) : Nat := if h : i < s.length ∧ langB (byteAt s i) then langEnd s (i + 1) else i
termination_by s.length - i
theorem langEnd_step {s : List UInt8} {i : Nat} (h : i < s.length) (h1 : langB (byteAt s i)) : langEnd s i = langEnd s (i + 1) := by
  conv => lhs; rw [langEnd, dif_pos ⟨h, h1⟩]
theorem langEnd_stop {s : List UInt8} {i : Nat} (h : ¬ (i < s.length ∧ langB (byteAt s i))) : langEnd s i = i := by rw [langEnd, dif_neg h]
/-- The tag behind an @ at a place. -/
def tagAt (s : List UInt8) (i : Nat) : (Int × Int) ⊕ (List UInt8 × Int) :=
  if 65536 < langEnd s (i + 1) - (i + 1) then .inl (i, 2) else
  if tagP (splitM ((s.drop (i + 1)).take (langEnd s (i + 1) - (i + 1)))) = true then .inr (lowerM ((s.drop (i + 1)).take (langEnd s (i + 1) - (i + 1))), langEnd s (i + 1)) else .inl (i + 1, 61)
def tagTm (k : Int) (t : List UInt8) : (Int × Int) ⊕ (List UInt8 × Int) → (Int × Int) ⊕ (Tm × Int)
  | .inl x => .inl x
  | .inr (l, n) => .inr (⟨k, t, taggedB, l⟩, n)
/-- What stands behind a literal's quote. -/
def typeAt (t : List UInt8) (s : List UInt8) (e : Nat) : (Int × Int) ⊕ (Tm × Int) :=
  if e < s.length ∧ byteAt s e = 64 then
    tagTm 3 t (tagAt s e)
  else if e + 1 < s.length ∧ byteAt s e = 94 ∧ byteAt s (e + 1 : Nat) = 94 then
    if ¬ (e + 2 < s.length ∧ byteAt s (e + 2 : Nat) = 60) then .inl (e + 2, 90) else
    match iriAt s (e + 2) with
    | .inl x => .inl x
    | .inr (y, n) => if y = taggedB then .inl (e, 71) else .inr (⟨3, t, y, []⟩, n)
  else .inr (⟨3, t, plainB, []⟩, e)
def litAt (s : List UInt8) (i : Nat) : (Int × Int) ⊕ (Tm × Int) :=
  match quotM s (i + 1) false with
  | .inl e => .inl (e, 90)
  | .inr e => match unescM 1 ((s.drop (i + 1)).take (e - (i + 1))) 0 with
    | .inl x => .inl (i + 1 + x.1, x.2)
    | .inr t => if 65536 < t.length then .inl (i, 2) else typeAt t s (e + 1)
def blankAt (s : List UInt8) (i : Nat) : (Int × Int) ⊕ (Tm × Int) :=
  if ¬ (i + 1 < s.length ∧ byteAt s (i + 1 : Nat) = 58) then .inl (i + 1, 90) else
  if runM LabelI s (i + 2 : Nat) = 0 then .inl (i + 2, 60) else
  if 65536 < runM LabelI s (i + 2 : Nat) then .inl (i, 2) else
  .inr (⟨2, (s.drop (i + 2)).take (runM LabelI s (i + 2 : Nat)).toNat, [], []⟩, i + 2 + runM LabelI s (i + 2 : Nat))
def iriTm : (Int × Int) ⊕ (List UInt8 × Int) → (Int × Int) ⊕ (Tm × Int)
  | .inl e => .inl e
  | .inr (t, n) => .inr (⟨1, t, [], []⟩, n)
/-- The term at a place. -/
def nextN (s : List UInt8) (i : Nat) : (Int × Int) ⊕ (Tm × Int) :=
  if s.length ≤ i then .inl (i, 90) else if byteAt s i = 60 then iriTm (iriAt s i) else if byteAt s i = 95 then blankAt s i else if byteAt s i = 34 then litAt s i else .inl (i, 90)
def nextM (s : List UInt8) (i : Int) : (Int × Int) ⊕ (Tm × Int) := if i < 0 ∨ (s.length : Int) < i then .inl (-1, 90) else nextN s i.toNat
def parseM (s : List UInt8) : (Int × Int) ⊕ Tm := match nextN s 0 with
  | .inl e => .inl e
  | .inr (t, n) => if n < s.length then .inl (n, 90) else .inr t
theorem runGo_le (s : List UInt8) (i e : Nat) (h : e ≤ i) (hi : i ≤ s.length) : e ≤ runGo s i e ∧ runGo s i e ≤ s.length := by
  induction i, e using runGo.induct s with
  | case1 i e h1 ih =>
    have hn := nextAt_n s i
    rw [runGo_step h1]
    by_cases h2 : (nextAt s i).1 = 46
    · rw [dif_pos h2] at ih; rw [if_pos h2]; have := ih (by omega) (by omega); omega
    · rw [dif_neg h2] at ih; rw [if_neg h2]; have := ih (by omega) (by omega); omega
  | case2 i e h1 => rw [runGo_stop h1]; omega
theorem run_le (p : Int → Prop) [DecidablePred p] (s : List UInt8) (i : Nat) : 0 ≤ runM p s i ∧ (0 < runM p s i → (i : Int) + runM p s i ≤ s.length) := by
  unfold runM
  split
  · omega
  · rename_i h
    have hn := nextAt_n s i
    have := runGo_le s ((i : Int).toNat + (nextAt s i).2.toNat) ((i : Int).toNat + (nextAt s i).2.toNat) (Nat.le_refl _) (by omega)
    omega
theorem idx_lt (c : UInt8) : ∀ l : List UInt8, Lib.indexByte l c < l.length
  | [] => by unfold Lib.indexByte; simp
  | b :: l => by
    have ih := idx_lt c l
    unfold Lib.indexByte
    simp only [List.length_cons]
    (repeat' split) <;> omega
theorem idx62 {s : List UInt8} {i : Nat} (h : i < s.length) (h60 : byteAt s i = 60) : Lib.indexByte (s.drop i) 62 = if Lib.indexByte (s.drop (i + 1)) 62 < 0 then -1 else Lib.indexByte (s.drop (i + 1)) 62 + 1 := by
  have hg := Lib.indexByte_ge (s.drop (i + 1)) 62
  have hb : s.getD i 0 = 60 := by
    have h1 : (byteAt s i).toNat = 60 := by rw [h60]; rfl
    unfold byteAt at h1
    simp only [Int.toNat_natCast] at h1
    exact UInt8.toNat.inj h1
  rw [drop_cons h, hb]
  conv => lhs; unfold Lib.indexByte
  rw [if_neg (by decide)]
  by_cases h1 : Lib.indexByte (s.drop (i + 1)) 62 < 0
  · rw [if_pos h1, if_pos (by simp; omega)]
  · rw [if_neg h1, if_neg (by simp; omega)]
theorem or32 {c : Int} (h : 0 ≤ c ∧ c < 256) : (97 ≤ iOr .u8 c 32 ∧ iOr .u8 c 32 ≤ 122) ↔ ((97 ≤ c ∧ c ≤ 122) ∨ (65 ≤ c ∧ c ≤ 90)) := by
  have := int_all (p := fun c => decide (97 ≤ iOr .u8 c 32 ∧ iOr .u8 c 32 ≤ 122) == decide ((97 ≤ c ∧ c ≤ 122) ∨ (65 ≤ c ∧ c ≤ 90))) (by decide +kernel) h
  simpa only [beq_iff_eq, decide_eq_decide] using this
/-! ### Errors have places -/
theorem iriAt_place (s : List UInt8) (i : Nat) : ∀ e, iriAt s i = .inl e → 0 ≤ e.1 := by
  intro e h
  unfold iriAt at h
  split at h
  · cases h; simp
  · split at h
    · cases h; simp only; omega
    · split at h
      · cases h; simp
      · cases h
theorem tagAt_place (s : List UInt8) (i : Nat) : ∀ e, tagAt s i = .inl e → 0 ≤ e.1 := by
  intro e h
  unfold tagAt at h
  split at h
  · cases h; simp
  · split at h
    · cases h
    · cases h; simp only; omega
theorem typeAt_place (t s : List UInt8) (i : Nat) : ∀ e, typeAt t s i = .inl e → 0 ≤ e.1 := by
  intro e h
  unfold typeAt at h
  split at h
  · have hp := tagAt_place s i
    cases hc : tagAt s i with
    | inl x => rw [hc] at h; cases h; exact hp _ hc
    | inr x => rw [hc] at h; cases h
  · split at h
    · split at h
      · cases h; simp only; omega
      · have hp := iriAt_place s (i + 2)
        split at h
        · rename_i x hc; cases h; exact hp _ hc
        · split at h
          · cases h; simp
          · cases h
    · cases h
theorem litAt_place (s : List UInt8) (i : Nat) : ∀ e, litAt s i = .inl e → 0 ≤ e.1 := by
  intro e h
  unfold litAt at h
  split at h
  · cases h; simp
  · split at h
    · cases h; simp only; omega
    · split at h
      · cases h; simp
      · exact typeAt_place _ _ _ _ h
theorem blankAt_place (s : List UInt8) (i : Nat) : ∀ e, blankAt s i = .inl e → 0 ≤ e.1 := by
  intro e h
  unfold blankAt at h
  (repeat' split at h) <;> cases h <;> simp <;> omega
theorem nextN_place (s : List UInt8) (i : Nat) : ∀ e, nextN s i = .inl e → 0 ≤ e.1 := by
  intro e h
  unfold nextN at h
  split at h
  · cases h; simp
  split at h
  · have hp := iriAt_place s i
    cases hc : iriAt s i with
    | inl x => rw [hc] at h; cases h; exact hp _ hc
    | inr x => rw [hc] at h; cases h
  split at h
  · exact blankAt_place _ _ _ h
  split at h
  · exact litAt_place _ _ _ h
  · cases h; simp
/-! ### Errors have codes -/
end Go.Our
/- term.Next, walked: the pieces. Conditions: none. -/
set_option linter.unusedVariables false
set_option linter.unusedSimpArgs false
set_option maxRecDepth 20000
set_option maxHeartbeats 8000000
namespace Go.Proofs.YtillkgjdbnjnoaaGreatDoor
open Go.Sx Go.Our
def plNext10 : Plan := (planOf [(0, 1), (1, 1), (2, 1), (4, 1), (6, 1), (7, 1), (8, 1), (3, 2), (5, 1), (9, 2), (10, 1), (11, 3), (12, 1), (13, 1)])
def plNext11 : Plan := (.take 1 1 (.fork 0 3 2 0 (planOf [(2, 0), (3, 0), (4, 1), (5, 1)]) (planOf [(0, 2), (3, 0), (4, 1), (5, 1)])))
def plNext12 : Plan := (.take 1 1 (.take 2 1 (.fork 0 3 3 0 (planOf [(3, 0), (4, 0), (5, 1), (6, 1)]) (planOf [(0, 2), (4, 0), (5, 1), (6, 1)]))))
theorem at_does (a e : Int) : Does Tryz.prog tab 23 0 [.int .i64 a, .int .i64 e] [] [] (NewErr 0 a e) := by
  refine Does.enter tabOK (g := 23) (fn := Tryz.f23) Tryz.call23 Tryz.func23 rfl 11 rfl rfl [.tmp 4] rfl ?_
  intro w0 F η0 h0
  conv => whnf
  repeat' ((first | with_reducible refine IF.tt ?_ | with_reducible refine IF.ff ?_ | refine NEED.au ?_ | ((with_reducible apply GET.at); rfl) | ((with_reducible apply GETG.at); rfl) | ((with_reducible refine UNK.mk (fun h => ?_) ?_) <;> try (exfalso; omega)) | ((with_reducible refine IF.mk (fun h => ?_) (fun h => ?_)) <;> (try simp (disch := omega) only [hsB, hsC, lnB, wrap64, wrap32, simprocAttr] at h) <;> try (exfalso; omega))) <;> conv => whnf)
  refine FIN.at h0 [0] (errSV 0) [(0, errHp a e)] rfl rfl rfl (by first | rfl | (simp only [belowO, belowH, plainLL_below _ (plainStrs _), Bool.and_self, Bool.and_true] <;> rfl)) (by repeat' (first | exact trivial | exact (renH_plain _ (h := .rows _ _) (plainStrs _)).symm | (with_reducible rfl) | (exact (renH_plain _ (h := .rows _ _) (plainStrs _)).trans (renH_plain _ (h := .rows _ _) (plainStrs _)).symm) | (exact rows_eq (plainStrs _) (by simp [strRow, ofVal, List.take_of_length_le])) | exact rfl | ((conv => whnf); refine ⟨?_, ?_⟩))) rfl ?_
  exact ⟨rfl, rfl, rfl⟩
theorem moved_does (a c f : Int) (ha : 0 ≤ a ∧ a ≤ 1152921504606846976) (hf : 0 ≤ f ∧ f ≤ 1152921504606846976) : Does Tryz.prog tab 59 1 [errSV 0, .int .i64 f] [] [(0, errHp a c)] (NewErr 1 (a + f) c) := by
  have hw : IntKind.i64.wrap (a + f) = a + f := wrap64 (by omega) (by omega)
  refine Does.enter tabOK (g := 59) (fn := Tryz.f59) Tryz.call59 Tryz.func59 rfl 21 rfl rfl [.tmp 4] rfl ?_
  intro w0 F η0 h0
  conv => whnf
  repeat' ((first | with_reducible refine IF.tt ?_ | with_reducible refine IF.ff ?_ | refine DRAWN.of (id := 2) tabOK mixed plNext10 (by kernel_rfl) ?_ | with_reducible refine ADD.mk (fun _ _ => ?_) | with_reducible refine NEED.mk (Det.of rfl) ?_ | refine NEED.mk (det_pos (by omega)) ?_ | with_reducible refine FORK.mk ?_ ?_ | refine NEED.au ?_ | ((with_reducible apply GET.at); rfl) | ((with_reducible apply GETG.at); rfl) | ((with_reducible refine UNK.mk (fun h => ?_) ?_) <;> try (exfalso; omega)) | ((with_reducible refine IF.mk (fun h => ?_) (fun h => ?_)) <;> (try simp (disch := omega) only [hsB, hsC, lnB, wrap64, wrap32, simprocAttr] at h) <;> try (exfalso; omega))) <;> conv => whnf)
  rw [hw]
  refine FIN.at h0 [1] (errSV 1) [(1, errHp (a + f) c)] rfl rfl rfl (by first | rfl | (simp only [belowO, belowH, plainLL_below _ (plainStrs _), Bool.and_self, Bool.and_true] <;> rfl)) (by repeat' (first | exact trivial | exact (renH_plain _ (h := .rows _ _) (plainStrs _)).symm | (with_reducible rfl) | (exact (renH_plain _ (h := .rows _ _) (plainStrs _)).trans (renH_plain _ (h := .rows _ _) (plainStrs _)).symm) | (exact rows_eq (plainStrs _) (by simp [strRow, ofVal, List.take_of_length_le])) | exact rfl | ((conv => whnf); refine ⟨?_, ?_⟩))) rfl ?_
  exact ⟨rfl, rfl, rfl⟩
theorem nothing_does (s : List UInt8) (i : Int) : Does Tryz.prog tab 39 0 [.str s, .int .i64 i] [] [] (fun r O nx => r = .tup [zeroTm.sv, .int .i64 0, errSV 0] ∧ O = [(0, errHp i 90)] ∧ nx = 1) := by
  refine Does.enter tabOK (g := 39) (fn := Tryz.f39) Tryz.call39 Tryz.func39 rfl 10 rfl rfl [.cell 4 24, .tmp 5, .tmp 6] rfl ?_
  intro w0 F η0 h0
  conv => whnf
  repeat' ((first | with_reducible refine IF.tt ?_ | with_reducible refine IF.ff ?_ | (refine CALL.err (at_does _ _) rfl ?_; conv => whnf) | refine NEED.au ?_ | ((with_reducible apply GET.at); rfl) | ((with_reducible apply GETG.at); rfl) | ((with_reducible refine UNK.mk (fun h => ?_) ?_) <;> try (exfalso; omega)) | ((with_reducible refine IF.mk (fun h => ?_) (fun h => ?_)) <;> (try simp (disch := omega) only [hsB, hsC, lnB, wrap64, wrap32, simprocAttr] at h) <;> try (exfalso; omega))) <;> conv => whnf)
  first
    | (refine FIN.at h0 [0] (.tup [.agg [.int .i64 0, .str [], .str [], .str []], .int .i64 0, errSV 0]) [(0, errHp i 90)] rfl rfl rfl (by first | rfl | (simp only [belowO, belowH, plainLL_below _ (plainStrs _), Bool.and_self, Bool.and_true] <;> rfl)) (by repeat' (first | exact trivial | exact (renH_plain _ (h := .rows _ _) (plainStrs _)).symm | (with_reducible rfl) | (exact (renH_plain _ (h := .rows _ _) (plainStrs _)).trans (renH_plain _ (h := .rows _ _) (plainStrs _)).symm) | (exact rows_eq (plainStrs _) (by simp [strRow, ofVal, List.take_of_length_le])) | exact rfl | ((conv => whnf); refine ⟨?_, ?_⟩))) rfl ?_; exact ⟨rfl, rfl, rfl⟩)
    | (refine FIN.at h0 [1] (.tup [.agg [.int .i64 0, .str [], .str [], .str []], .int .i64 0, errSV 0]) [(0, errHp i 90)] rfl rfl rfl (by first | rfl | (simp only [belowO, belowH, plainLL_below _ (plainStrs _), Bool.and_self, Bool.and_true] <;> rfl)) (by repeat' (first | exact trivial | exact (renH_plain _ (h := .rows _ _) (plainStrs _)).symm | (with_reducible rfl) | (exact (renH_plain _ (h := .rows _ _) (plainStrs _)).trans (renH_plain _ (h := .rows _ _) (plainStrs _)).symm) | (exact rows_eq (plainStrs _) (by simp [strRow, ofVal, List.take_of_length_le])) | exact rfl | ((conv => whnf); refine ⟨?_, ?_⟩))) rfl ?_; exact ⟨rfl, rfl, rfl⟩)
    | (refine FIN.at h0 [2] (.tup [.agg [.int .i64 0, .str [], .str [], .str []], .int .i64 0, errSV 0]) [(0, errHp i 90)] rfl rfl rfl (by first | rfl | (simp only [belowO, belowH, plainLL_below _ (plainStrs _), Bool.and_self, Bool.and_true] <;> rfl)) (by repeat' (first | exact trivial | exact (renH_plain _ (h := .rows _ _) (plainStrs _)).symm | (with_reducible rfl) | (exact (renH_plain _ (h := .rows _ _) (plainStrs _)).trans (renH_plain _ (h := .rows _ _) (plainStrs _)).symm) | (exact rows_eq (plainStrs _) (by simp [strRow, ofVal, List.take_of_length_le])) | exact rfl | ((conv => whnf); refine ⟨?_, ?_⟩))) rfl ?_; exact ⟨rfl, rfl, rfl⟩)
/-- A term with the place behind it, or an error with its place. -/
def TermQ (u : (Int × Int) ⊕ (Tm × Int)) : SV → Hps → Nat → Prop := fun r O nx => match u with
  | .inl e => (∃ (x : Tm) (n : Int), r = .tup [x.sv, .int .i64 n, errSV 0]) ∧ O = [(0, errHp e.1 e.2)] ∧ nx = 1
  | .inr (t, n) => r = .tup [t.sv, .int .i64 n, .val .nilIface] ∧ O = [] ∧ nx = 0
theorem CALL.termErr {M : Mx} {f : FuncId} {args : List SV} {O : Hps} {nx : Nat} {K : SV → Hps → Nat → Prop} {e : Int × Int} (sp : Does M.P M.C.T f 0 args [] [] (TermQ (.inl e))) (hp : plainL args = true) (hK : ∀ (x : Tm) (n : Int), K (.tup [x.sv, .int .i64 n, errSV nx]) ((nx, errHp e.1 e.2) :: O) (nx + 1)) : CALL M f args O nx K := by
  refine CALL.of [] sp rfl (fun i hi => by cases hi) (renL_plain _ hp).symm (plainL_below 0 hp) (fun p hp => by cases hp) (fun j hj => by cases hj) (fun p hp => by cases hp) ?_
  rintro r' O' nx' ⟨⟨x, n, rfl⟩, rfl, rfl⟩
  have := hK x n
  simp only [Tm.sv, errSV, errHp, ren, renB, renO, renH, renL, cname_ge (L := []) (nx := nx) (k := 0) rfl, namesOf, List.map_nil, outside_nil, List.cons_append, List.nil_append] at this ⊢
  exact this
theorem CALL.termOk {M : Mx} {f : FuncId} {args : List SV} {O : Hps} {nx : Nat} {K : SV → Hps → Nat → Prop} {t : Tm} {n : Int} (sp : Does M.P M.C.T f 0 args [] [] (TermQ (.inr (t, n)))) (hp : plainL args = true) (hK : K (.tup [t.sv, .int .i64 n, .val .nilIface]) O nx) : CALL M f args O nx K :=
  CALL.value (r := .tup [t.sv, .int .i64 n, .val .nilIface]) sp hp rfl hK
theorem nextBlank_does (s : List UInt8) (i : Nat) (hs : s.length ≤ 140737488351232) (hi : i < s.length) : Does Tryz.prog tab 41 0 [.str s, .int .i64 (i : Int)] [] [] (TermQ (blankAt s i)) := by
  have hsm : Sm s := by omega
  have hw1 : IntKind.i64.wrap ((i : Int) + 1) = ((i + 1 : Nat) : Int) := by rw [wrap64 (by omega) (by omega)]; omega
  have hw2 : IntKind.i64.wrap ((i : Int) + 2) = ((i + 2 : Nat) : Int) := by rw [wrap64 (by omega) (by omega)]; omega
  have hc2 : ((i + 2 : Nat) : Int) = (i : Int) + 2 := by omega
  have hc1 : ((i + 1 : Nat) : Int) = (i : Int) + 1 := by omega
  have hle := run_le LabelI s (i + 2)
  refine Does.enter tabOK (g := 41) (fn := Tryz.f41) Tryz.call41 Tryz.func41 rfl 54 rfl rfl [.cell 4 24, .tmp 5, .tmp 6] rfl ?_
  intro w0 F η0 h0
  conv => whnf
  rw [hw1]
  repeat' ((first | with_reducible refine IF.tt ?_ | with_reducible refine IF.ff ?_ | with_reducible refine ADD.mk (fun _ _ => ?_) | with_reducible refine NEED.mk (Det.of rfl) ?_ | refine NEED.mk (det_pos (by omega)) ?_ | with_reducible refine FORK.mk ?_ ?_ | (rw [hw2]; refine CALL.value (nLabelAt_does s _ hsm) rfl rfl ?_; conv => whnf) | (rw [hw1]; refine CALL.err (at_does _ _) rfl ?_; conv => whnf) | (rw [hw2]; refine CALL.err (at_does _ _) rfl ?_; conv => whnf) | (refine CALL.err (at_does _ _) rfl ?_; conv => whnf) | refine NEED.au ?_ | ((with_reducible apply GET.at); rfl) | ((with_reducible apply GETG.at); rfl) | ((with_reducible refine UNK.mk (fun h => ?_) ?_) <;> try (exfalso; omega)) | ((with_reducible refine IF.mk (fun h => ?_) (fun h => ?_)) <;> (try simp (disch := omega) only [hsB, hsC, lnB, wrap64, wrap32, simprocAttr] at h) <;> try (exfalso; omega))) <;> conv => whnf)
  · have hb : blankAt s i = .inl (i + 1, 90) := by
      unfold blankAt; rw [if_pos (by omega)]
    rw [hb]
    first
      | (refine FIN.at h0 [0] (.tup [.agg [.int .i64 0, .str [], .str [], .str []], .int .i64 0, errSV 0]) [(0, errHp ((i + 1 : Nat) : Int) 90)] rfl rfl rfl (by first | rfl | (simp only [belowO, belowH, plainLL_below _ (plainStrs _), Bool.and_self, Bool.and_true] <;> rfl)) (by repeat' (first | exact trivial | exact (renH_plain _ (h := .rows _ _) (plainStrs _)).symm | (with_reducible rfl) | (exact (renH_plain _ (h := .rows _ _) (plainStrs _)).trans (renH_plain _ (h := .rows _ _) (plainStrs _)).symm) | (exact rows_eq (plainStrs _) (by simp [strRow, ofVal, List.take_of_length_le])) | exact rfl | ((conv => whnf); refine ⟨?_, ?_⟩))) rfl ?_; exact ⟨⟨zeroTm, 0, rfl⟩, by rw [hc1], rfl⟩)
      | (refine FIN.at h0 [1] (.tup [.agg [.int .i64 0, .str [], .str [], .str []], .int .i64 0, errSV 0]) [(0, errHp ((i + 1 : Nat) : Int) 90)] rfl rfl rfl (by first | rfl | (simp only [belowO, belowH, plainLL_below _ (plainStrs _), Bool.and_self, Bool.and_true] <;> rfl)) (by repeat' (first | exact trivial | exact (renH_plain _ (h := .rows _ _) (plainStrs _)).symm | (with_reducible rfl) | (exact (renH_plain _ (h := .rows _ _) (plainStrs _)).trans (renH_plain _ (h := .rows _ _) (plainStrs _)).symm) | (exact rows_eq (plainStrs _) (by simp [strRow, ofVal, List.take_of_length_le])) | exact rfl | ((conv => whnf); refine ⟨?_, ?_⟩))) rfl ?_; exact ⟨⟨zeroTm, 0, rfl⟩, by rw [hc1], rfl⟩)
      | (refine FIN.at h0 [2] (.tup [.agg [.int .i64 0, .str [], .str [], .str []], .int .i64 0, errSV 0]) [(0, errHp ((i + 1 : Nat) : Int) 90)] rfl rfl rfl (by first | rfl | (simp only [belowO, belowH, plainLL_below _ (plainStrs _), Bool.and_self, Bool.and_true] <;> rfl)) (by repeat' (first | exact trivial | exact (renH_plain _ (h := .rows _ _) (plainStrs _)).symm | (with_reducible rfl) | (exact (renH_plain _ (h := .rows _ _) (plainStrs _)).trans (renH_plain _ (h := .rows _ _) (plainStrs _)).symm) | (exact rows_eq (plainStrs _) (by simp [strRow, ofVal, List.take_of_length_le])) | exact rfl | ((conv => whnf); refine ⟨?_, ?_⟩))) rfl ?_; exact ⟨⟨zeroTm, 0, rfl⟩, by rw [hc1], rfl⟩)
  · have hb : blankAt s i = .inl (i + 2, 60) := by
      unfold blankAt; rw [if_neg (by omega), if_pos h]
    rw [hb]
    first
      | (refine FIN.at h0 [0] (.tup [.agg [.int .i64 0, .str [], .str [], .str []], .int .i64 0, errSV 0]) [(0, errHp ((i + 2 : Nat) : Int) 60)] rfl rfl rfl (by first | rfl | (simp only [belowO, belowH, plainLL_below _ (plainStrs _), Bool.and_self, Bool.and_true] <;> rfl)) (by repeat' (first | exact trivial | exact (renH_plain _ (h := .rows _ _) (plainStrs _)).symm | (with_reducible rfl) | (exact (renH_plain _ (h := .rows _ _) (plainStrs _)).trans (renH_plain _ (h := .rows _ _) (plainStrs _)).symm) | (exact rows_eq (plainStrs _) (by simp [strRow, ofVal, List.take_of_length_le])) | exact rfl | ((conv => whnf); refine ⟨?_, ?_⟩))) rfl ?_; exact ⟨⟨zeroTm, 0, rfl⟩, by rw [hc2], rfl⟩)
      | (refine FIN.at h0 [1] (.tup [.agg [.int .i64 0, .str [], .str [], .str []], .int .i64 0, errSV 0]) [(0, errHp ((i + 2 : Nat) : Int) 60)] rfl rfl rfl (by first | rfl | (simp only [belowO, belowH, plainLL_below _ (plainStrs _), Bool.and_self, Bool.and_true] <;> rfl)) (by repeat' (first | exact trivial | exact (renH_plain _ (h := .rows _ _) (plainStrs _)).symm | (with_reducible rfl) | (exact (renH_plain _ (h := .rows _ _) (plainStrs _)).trans (renH_plain _ (h := .rows _ _) (plainStrs _)).symm) | (exact rows_eq (plainStrs _) (by simp [strRow, ofVal, List.take_of_length_le])) | exact rfl | ((conv => whnf); refine ⟨?_, ?_⟩))) rfl ?_; exact ⟨⟨zeroTm, 0, rfl⟩, by rw [hc2], rfl⟩)
      | (refine FIN.at h0 [2] (.tup [.agg [.int .i64 0, .str [], .str [], .str []], .int .i64 0, errSV 0]) [(0, errHp ((i + 2 : Nat) : Int) 60)] rfl rfl rfl (by first | rfl | (simp only [belowO, belowH, plainLL_below _ (plainStrs _), Bool.and_self, Bool.and_true] <;> rfl)) (by repeat' (first | exact trivial | exact (renH_plain _ (h := .rows _ _) (plainStrs _)).symm | (with_reducible rfl) | (exact (renH_plain _ (h := .rows _ _) (plainStrs _)).trans (renH_plain _ (h := .rows _ _) (plainStrs _)).symm) | (exact rows_eq (plainStrs _) (by simp [strRow, ofVal, List.take_of_length_le])) | exact rfl | ((conv => whnf); refine ⟨?_, ?_⟩))) rfl ?_; exact ⟨⟨zeroTm, 0, rfl⟩, by rw [hc2], rfl⟩)
  · have hb : blankAt s i = .inl (i, 2) := by
      unfold blankAt; rw [if_neg (by omega), if_neg (by assumption), if_pos h]
    rw [hb]
    first
      | (refine FIN.at h0 [0] (.tup [.agg [.int .i64 0, .str [], .str [], .str []], .int .i64 0, errSV 0]) [(0, errHp (i : Int) 2)] rfl rfl rfl (by first | rfl | (simp only [belowO, belowH, plainLL_below _ (plainStrs _), Bool.and_self, Bool.and_true] <;> rfl)) (by repeat' (first | exact trivial | exact (renH_plain _ (h := .rows _ _) (plainStrs _)).symm | (with_reducible rfl) | (exact (renH_plain _ (h := .rows _ _) (plainStrs _)).trans (renH_plain _ (h := .rows _ _) (plainStrs _)).symm) | (exact rows_eq (plainStrs _) (by simp [strRow, ofVal, List.take_of_length_le])) | exact rfl | ((conv => whnf); refine ⟨?_, ?_⟩))) rfl ?_; exact ⟨⟨zeroTm, 0, rfl⟩, rfl, rfl⟩)
      | (refine FIN.at h0 [1] (.tup [.agg [.int .i64 0, .str [], .str [], .str []], .int .i64 0, errSV 0]) [(0, errHp (i : Int) 2)] rfl rfl rfl (by first | rfl | (simp only [belowO, belowH, plainLL_below _ (plainStrs _), Bool.and_self, Bool.and_true] <;> rfl)) (by repeat' (first | exact trivial | exact (renH_plain _ (h := .rows _ _) (plainStrs _)).symm | (with_reducible rfl) | (exact (renH_plain _ (h := .rows _ _) (plainStrs _)).trans (renH_plain _ (h := .rows _ _) (plainStrs _)).symm) | (exact rows_eq (plainStrs _) (by simp [strRow, ofVal, List.take_of_length_le])) | exact rfl | ((conv => whnf); refine ⟨?_, ?_⟩))) rfl ?_; exact ⟨⟨zeroTm, 0, rfl⟩, rfl, rfl⟩)
      | (refine FIN.at h0 [2] (.tup [.agg [.int .i64 0, .str [], .str [], .str []], .int .i64 0, errSV 0]) [(0, errHp (i : Int) 2)] rfl rfl rfl (by first | rfl | (simp only [belowO, belowH, plainLL_below _ (plainStrs _), Bool.and_self, Bool.and_true] <;> rfl)) (by repeat' (first | exact trivial | exact (renH_plain _ (h := .rows _ _) (plainStrs _)).symm | (with_reducible rfl) | (exact (renH_plain _ (h := .rows _ _) (plainStrs _)).trans (renH_plain _ (h := .rows _ _) (plainStrs _)).symm) | (exact rows_eq (plainStrs _) (by simp [strRow, ofVal, List.take_of_length_le])) | exact rfl | ((conv => whnf); refine ⟨?_, ?_⟩))) rfl ?_; exact ⟨⟨zeroTm, 0, rfl⟩, rfl, rfl⟩)
  · have hr : 0 < runM LabelI s (i + 2 : Nat) := by omega
    have hr2 := hle.2 hr
    have hb : blankAt s i = .inr (⟨2, (s.drop (i + 2)).take (runM LabelI s (i + 2 : Nat)).toNat, [], []⟩, i + 2 + runM LabelI s (i + 2 : Nat)) := by
      unfold blankAt; rw [if_neg (by omega), if_neg (by assumption), if_neg (by omega)]
    have hw3 : IntKind.i64.wrap (((i + 2 : Nat) : Int) + runM LabelI s (i + 2 : Nat)) = (i : Int) + 2 + runM LabelI s (i + 2 : Nat) := by rw [wrap64 (by omega) (by omega)]; omega
    rw [hb, hw2, hw3, show ((i : Int) + 2 + runM LabelI s (i + 2 : Nat)).toNat - ((i + 2 : Nat) : Int).toNat = (runM LabelI s (i + 2 : Nat)).toNat by omega, show ((i + 2 : Nat) : Int).toNat = i + 2 by omega]
    exact FIN.val h0 rfl ⟨rfl, rfl, rfl⟩
theorem closing_does (s : List UInt8) (i : Nat) (hs : s.length ≤ 140737488351232) (hi : i < s.length) : Does Tryz.prog tab 60 0 [.str s, .int .i64 (i : Int)] [] [] (fun r O nx => match quotM s (i + 1) false with
    | .inl e => r = .tup [.int .i64 0, errSV 0] ∧ O = [(0, errHp e 90)] ∧ nx = 1
    | .inr e => r = .tup [.int .i64 e, .val .nilIface] ∧ O = [] ∧ nx = 0) := by
  have hw1 : IntKind.i64.wrap ((i : Int) + 1) = ((i + 1 : Nat) : Int) := by rw [wrap64 (by omega) (by omega)]; omega
  refine Does.enter tabOK (g := 60) (fn := Tryz.f60) Tryz.call60 Tryz.func60 rfl 41 rfl rfl [.tmp 4, .tmp 5] rfl ?_
  intro w0 F η0 h0
  conv => whnf
  rw [hw1]
  refine LOOP.go tabOK [0] (X := Nat × Bool) (fun x => x.1 ≤ s.length ∧ quotM s (i + 1) false = quotM s x.1 x.2) (fun x => [(6, .bool x.2), (7, .int .i64 (x.1 : Int))]) (fun _ => []) 0 (fun x => s.length - x.1) (i + 1, false) ⟨by simp only; omega, rfl⟩ ?_
  conv => whnf
  refine ⟨by (refine GOES.cutting h0 rfl rfl rfl (by first | rfl | simp [belowO, belowH, plainLL_below, plainLL_map, plainL, plain]) ?_ ?_ <;> (repeat' (first | (with_reducible rfl) | (exact congrArg (fun n => SV.sl _ _ _ n _) (by simp)) | (exact congrArg (Hp.rows _) (by simp)) | (exact congrArg (SV.int _) (by first | omega | (simp (disch := omega) only [lnB, wrap64, wrap32] <;> omega) | (simp; done) | (simp <;> omega))) | ((conv => whnf); refine ⟨?_, ?_⟩) | exact trivial | (simp; done) | rfl))), ?_⟩
  rintro ⟨j, sl⟩ ⟨hj, hc⟩
  dsimp only at hj hc ⊢
  conv => whnf
  repeat' ((first | with_reducible refine IF.tt ?_ | with_reducible refine IF.ff ?_ | with_reducible refine ADD.mk (fun _ _ => ?_) | with_reducible refine NEED.mk (Det.of rfl) ?_ | refine NEED.mk (det_pos (by omega)) ?_ | with_reducible refine FORK.mk ?_ ?_ | (refine CALL.err (at_does _ _) rfl ?_; conv => whnf) | refine NEED.au ?_ | ((with_reducible apply GET.at); rfl) | ((with_reducible apply GETG.at); rfl) | ((with_reducible refine UNK.mk (fun h => ?_) ?_) <;> try (exfalso; omega)) | ((with_reducible refine IF.mk (fun h => ?_) (fun h => ?_)) <;> (try simp (disch := omega) only [hsB, hsC, lnB, wrap64, wrap32, simprocAttr] at h) <;> try (exfalso; omega))) <;> conv => whnf)
  · replace hc := hc.trans (quot_nl (i := j) (by omega) h)
    refine FIN.at h0 [0] (.tup [.int .i64 0, errSV 0]) [(0, errHp (j : Int) 90)] rfl rfl rfl (by first | rfl | (simp only [belowO, belowH, plainLL_below _ (plainStrs _), Bool.and_self, Bool.and_true] <;> rfl)) (by repeat' (first | exact trivial | exact (renH_plain _ (h := .rows _ _) (plainStrs _)).symm | (with_reducible rfl) | (exact (renH_plain _ (h := .rows _ _) (plainStrs _)).trans (renH_plain _ (h := .rows _ _) (plainStrs _)).symm) | (exact rows_eq (plainStrs _) (by simp [strRow, ofVal, List.take_of_length_le])) | exact rfl | ((conv => whnf); refine ⟨?_, ?_⟩))) rfl ?_
    rw [hc]; exact ⟨rfl, rfl, rfl⟩
  · subst h
    replace hc := hc.trans (quot_sl (i := j) (by omega) (by omega))
    refine ⟨(j + 1, false), ⟨by simp only; omega, hc⟩, by simp only; omega, ?_⟩
    conv => whnf
    (refine GOES.cutting h0 rfl rfl rfl (by first | rfl | simp [belowO, belowH, plainLL_below, plainLL_map, plainL, plain]) ?_ ?_ <;> (repeat' (first | (with_reducible rfl) | (exact congrArg (fun n => SV.sl _ _ _ n _) (by simp)) | (exact congrArg (Hp.rows _) (by simp)) | (exact congrArg (SV.int _) (by first | omega | (simp (disch := omega) only [lnB, wrap64, wrap32] <;> omega) | (simp; done) | (simp <;> omega))) | ((conv => whnf); refine ⟨?_, ?_⟩) | exact trivial | (simp; done) | rfl)))
  · have h9 : sl = false := by assumption
    subst h9
    replace hc := hc.trans (quot_bs (i := j) (by omega) (by assumption))
    refine ⟨(j + 1, true), ⟨by simp only; omega, hc⟩, by simp only; omega, ?_⟩
    conv => whnf
    (refine GOES.cutting h0 rfl rfl rfl (by first | rfl | simp [belowO, belowH, plainLL_below, plainLL_map, plainL, plain]) ?_ ?_ <;> (repeat' (first | (with_reducible rfl) | (exact congrArg (fun n => SV.sl _ _ _ n _) (by simp)) | (exact congrArg (Hp.rows _) (by simp)) | (exact congrArg (SV.int _) (by first | omega | (simp (disch := omega) only [lnB, wrap64, wrap32] <;> omega) | (simp; done) | (simp <;> omega))) | ((conv => whnf); refine ⟨?_, ?_⟩) | exact trivial | (simp; done) | rfl)))
  · have h9 : sl = false := by assumption
    subst h9
    replace hc := hc.trans (quot_q (i := j) (by omega) (by assumption))
    refine FIN.val h0 rfl ?_
    rw [hc]; exact ⟨rfl, rfl, rfl⟩
  · have h9 : sl = false := by assumption
    subst h9
    replace hc := hc.trans (quot_on (i := j) (by omega) (by omega) (by assumption) (by assumption))
    refine ⟨(j + 1, false), ⟨by simp only; omega, hc⟩, by simp only; omega, ?_⟩
    conv => whnf
    (refine GOES.cutting h0 rfl rfl rfl (by first | rfl | simp [belowO, belowH, plainLL_below, plainLL_map, plainL, plain]) ?_ ?_ <;> (repeat' (first | (with_reducible rfl) | (exact congrArg (fun n => SV.sl _ _ _ n _) (by simp)) | (exact congrArg (Hp.rows _) (by simp)) | (exact congrArg (SV.int _) (by first | omega | (simp (disch := omega) only [lnB, wrap64, wrap32] <;> omega) | (simp; done) | (simp <;> omega))) | ((conv => whnf); refine ⟨?_, ?_⟩) | exact trivial | (simp; done) | rfl)))
  · have hc := hc.trans (quot_end (by omega))
    refine FIN.at h0 [0] (.tup [.int .i64 0, errSV 0]) [(0, errHp (s.length : Int) 90)] rfl rfl rfl (by first | rfl | (simp only [belowO, belowH, plainLL_below _ (plainStrs _), Bool.and_self, Bool.and_true] <;> rfl)) (by repeat' (first | exact trivial | exact (renH_plain _ (h := .rows _ _) (plainStrs _)).symm | (with_reducible rfl) | (exact (renH_plain _ (h := .rows _ _) (plainStrs _)).trans (renH_plain _ (h := .rows _ _) (plainStrs _)).symm) | (exact rows_eq (plainStrs _) (by simp [strRow, ofVal, List.take_of_length_le])) | exact rfl | ((conv => whnf); refine ⟨?_, ?_⟩))) rfl ?_
    rw [hc]; exact ⟨rfl, rfl, rfl⟩
theorem nextIRI_does (s : List UInt8) (i : Nat) (hs : s.length ≤ 140737488351232) (hi : i < s.length) (h60 : byteAt s i = 60) : Does Tryz.prog tab 40 0 [.str s, .int .i64 (i : Int)] [] [] (TermQ (iriTm (iriAt s i))) := by
  have hsm : Sm s := by omega
  have hw1 : IntKind.i64.wrap ((i : Int) + 1) = ((i + 1 : Nat) : Int) := by rw [wrap64 (by omega) (by omega)]; omega
  have hg := Lib.indexByte_ge (s.drop (i + 1)) 62
  have hlt := idx_lt 62 (s.drop (i + 1))
  have hid : Does Tryz.prog tab 55 0 [.str (s.drop ((i : Int)).toNat), .int .u8 62] [] [] (Val (.int .i64 (if Lib.indexByte (s.drop (i + 1)) 62 < 0 then -1 else Lib.indexByte (s.drop (i + 1)) 62 + 1))) := by
    rw [show ((i : Int)).toNat = i by omega, ← idx62 hi h60]
    exact indexByte_does _ 62
  rw [List.length_drop] at hlt
  rcases Int.lt_or_le (Lib.indexByte (s.drop (i + 1)) 62) 0 with hx | hx
  · rw [if_pos hx] at hid
    have hb : iriTm (iriAt s i) = .inl (s.length, 90) := by unfold iriAt; rw [if_pos hx]; try rfl
    refine Does.enter tabOK (g := 40) (fn := Tryz.f40) Tryz.call40 Tryz.func40 rfl 53 rfl rfl [.cell 4 24, .tmp 5, .tmp 6] rfl ?_
    intro w0 F η0 h0
    conv => whnf
    repeat' ((first | with_reducible refine IF.tt ?_ | with_reducible refine IF.ff ?_ | refine CALL.value (hid) rfl rfl ?_ | (refine CALL.err (at_does _ _) rfl ?_; conv => whnf) | refine NEED.au ?_ | ((with_reducible apply GET.at); rfl) | ((with_reducible apply GETG.at); rfl) | ((with_reducible refine UNK.mk (fun h => ?_) ?_) <;> try (exfalso; omega)) | ((with_reducible refine IF.mk (fun h => ?_) (fun h => ?_)) <;> (try simp (disch := omega) only [hsB, hsC, lnB, wrap64, wrap32, simprocAttr] at h) <;> try (exfalso; omega))) <;> conv => whnf)
    rw [hb]
    first
      | (refine FIN.at h0 [0] (.tup [.agg [.int .i64 0, .str [], .str [], .str []], .int .i64 0, errSV 0]) [(0, errHp (s.length : Int) 90)] rfl rfl rfl (by first | rfl | (simp only [belowO, belowH, plainLL_below _ (plainStrs _), Bool.and_self, Bool.and_true] <;> rfl)) (by repeat' (first | exact trivial | exact (renH_plain _ (h := .rows _ _) (plainStrs _)).symm | (with_reducible rfl) | (exact (renH_plain _ (h := .rows _ _) (plainStrs _)).trans (renH_plain _ (h := .rows _ _) (plainStrs _)).symm) | (exact rows_eq (plainStrs _) (by simp [strRow, ofVal, List.take_of_length_le])) | exact rfl | ((conv => whnf); refine ⟨?_, ?_⟩))) rfl ?_; exact ⟨⟨zeroTm, 0, rfl⟩, rfl, rfl⟩)
      | (refine FIN.at h0 [1] (.tup [.agg [.int .i64 0, .str [], .str [], .str []], .int .i64 0, errSV 0]) [(0, errHp (s.length : Int) 90)] rfl rfl rfl (by first | rfl | (simp only [belowO, belowH, plainLL_below _ (plainStrs _), Bool.and_self, Bool.and_true] <;> rfl)) (by repeat' (first | exact trivial | exact (renH_plain _ (h := .rows _ _) (plainStrs _)).symm | (with_reducible rfl) | (exact (renH_plain _ (h := .rows _ _) (plainStrs _)).trans (renH_plain _ (h := .rows _ _) (plainStrs _)).symm) | (exact rows_eq (plainStrs _) (by simp [strRow, ofVal, List.take_of_length_le])) | exact rfl | ((conv => whnf); refine ⟨?_, ?_⟩))) rfl ?_; exact ⟨⟨zeroTm, 0, rfl⟩, rfl, rfl⟩)
      | (refine FIN.at h0 [2] (.tup [.agg [.int .i64 0, .str [], .str [], .str []], .int .i64 0, errSV 0]) [(0, errHp (s.length : Int) 90)] rfl rfl rfl (by first | rfl | (simp only [belowO, belowH, plainLL_below _ (plainStrs _), Bool.and_self, Bool.and_true] <;> rfl)) (by repeat' (first | exact trivial | exact (renH_plain _ (h := .rows _ _) (plainStrs _)).symm | (with_reducible rfl) | (exact (renH_plain _ (h := .rows _ _) (plainStrs _)).trans (renH_plain _ (h := .rows _ _) (plainStrs _)).symm) | (exact rows_eq (plainStrs _) (by simp [strRow, ofVal, List.take_of_length_le])) | exact rfl | ((conv => whnf); refine ⟨?_, ?_⟩))) rfl ?_; exact ⟨⟨zeroTm, 0, rfl⟩, rfl, rfl⟩)
  · rw [if_neg (by omega)] at hid
    obtain ⟨n, hn⟩ : ∃ n : Nat, Lib.indexByte (s.drop (i + 1)) 62 = n := ⟨_, (Int.toNat_of_nonneg hx).symm⟩
    rw [hn] at hid hlt
    have hw2 : IntKind.i64.wrap ((i : Int) + ((n : Int) + 1)) = ((i + 1 + n : Nat) : Int) := by rw [wrap64 (by omega) (by omega)]; omega
    have hw3 : IntKind.i64.wrap (((i + 1 + n : Nat) : Int) + 1) = (i : Int) + 1 + n + 1 := by rw [wrap64 (by omega) (by omega)]; omega
    have hu := unescape_does ((s.drop (i + 1)).take n) 2 (by simp; omega)
    have hul := unesc_len 2 ((s.drop (i + 1)).take n) 0
    have hup := unesc_place 2 ((s.drop (i + 1)).take n) 0
    have htl : ((s.drop (i + 1)).take n).length = n := by simp; omega
    rw [htl] at hul hup
    have hb : iriTm (iriAt s i) = iriTm (match unescM 2 ((s.drop (i + 1)).take n) 0 with
        | .inl e => .inl (i + 1 + e.1, e.2)
        | .inr t => if iriM t ≠ 0 then .inl (i, iriM t) else .inr (t, i + 1 + n + 1)) := by
      unfold iriAt; rw [if_neg (by omega), hn]; try rfl
    refine Does.enter tabOK (g := 40) (fn := Tryz.f40) Tryz.call40 Tryz.func40 rfl 53 rfl rfl [.cell 4 24, .tmp 5, .tmp 6] rfl ?_
    intro w0 F η0 h0
    conv => whnf
    repeat' ((first | with_reducible refine IF.tt ?_ | with_reducible refine IF.ff ?_ | refine CALL.value (hid) rfl rfl ?_ | (rw [hw1, hw2]; refine NEED.mk ⟨by omega, by omega, by omega⟩ ?_; conv => whnf) | refine NEED.au ?_ | ((with_reducible apply GET.at); rfl) | ((with_reducible apply GETG.at); rfl) | ((with_reducible refine UNK.mk (fun h => ?_) ?_) <;> try (exfalso; omega)) | ((with_reducible refine IF.mk (fun h => ?_) (fun h => ?_)) <;> (try simp (disch := omega) only [hsB, hsC, lnB, wrap64, wrap32, simprocAttr] at h) <;> try (exfalso; omega))) <;> conv => whnf)
    rw [show ((i + 1 + n : Nat) : Int).toNat - ((i + 1 : Nat) : Int).toNat = n by omega, show ((i + 1 : Nat) : Int).toNat = i + 1 by omega]
    cases hc : unescM 2 ((s.drop (i + 1)).take n) 0 with
    | inl e =>
      rw [hc] at hu hb hup
      have he := hup e rfl
      have hmv := moved_does (e.1 : Int) e.2 ((i + 1 : Nat) : Int) (by omega) (by omega)
      refine CALL.errT [.str []] hu rfl rfl ?_
      conv => whnf
      repeat' ((first | with_reducible refine IF.tt ?_ | with_reducible refine IF.ff ?_ | refine NEED.au ?_ | ((with_reducible apply GET.at); rfl) | ((with_reducible apply GETG.at); rfl) | ((with_reducible refine UNK.mk (fun h => ?_) ?_) <;> try (exfalso; omega)) | ((with_reducible refine IF.mk (fun h => ?_) (fun h => ?_)) <;> (try simp (disch := omega) only [hsB, hsC, lnB, wrap64, wrap32, simprocAttr] at h) <;> try (exfalso; omega))) <;> conv => whnf)
      rw [hw1]
      refine CALL.at [1] (hmv) rfl rfl rfl rfl (by first | rfl | (simp only [belowO, belowH, plainLL_below _ (plainStrs _), Bool.and_self, Bool.and_true] <;> rfl)) (by first | rfl | (simp only [belowO, belowH, plainLL_below _ (plainStrs _), Bool.and_self, Bool.and_true] <;> rfl)) (by repeat' (first | exact trivial | exact (renH_plain _ (h := .rows _ _) (plainStrs _)).symm | exact rfl | exact (renH_plain _ (h := .rows _ _) (plainStrs _)).trans (renH_plain _ (h := .rows _ _) (plainStrs _)).symm | ((conv => whnf); refine ⟨?_, ?_⟩))) (by repeat' (first | exact trivial | exact (renH_plain _ (h := .rows _ _) (plainStrs _)).symm | exact rfl | exact (renH_plain _ (h := .rows _ _) (plainStrs _)).trans (renH_plain _ (h := .rows _ _) (plainStrs _)).symm | ((conv => whnf); refine ⟨?_, ?_⟩))) rfl rfl ?_
      rintro r O' nx' ⟨rfl, rfl, rfl⟩
      conv => whnf
      rw [hb, show ((e.1 : Int) + ((i + 1 : Nat) : Int)) = (i : Int) + 1 + e.1 by omega]
      first
        | (refine FIN.at h0 [0] (.tup [.agg [.int .i64 0, .str [], .str [], .str []], .int .i64 0, errSV 0]) [(0, errHp ((i : Int) + 1 + e.1) e.2)] rfl rfl rfl (by first | rfl | (simp only [belowO, belowH, plainLL_below _ (plainStrs _), Bool.and_self, Bool.and_true] <;> rfl)) (by repeat' (first | exact trivial | exact (renH_plain _ (h := .rows _ _) (plainStrs _)).symm | (with_reducible rfl) | (exact (renH_plain _ (h := .rows _ _) (plainStrs _)).trans (renH_plain _ (h := .rows _ _) (plainStrs _)).symm) | (exact rows_eq (plainStrs _) (by simp [strRow, ofVal, List.take_of_length_le])) | exact rfl | ((conv => whnf); refine ⟨?_, ?_⟩))) rfl ?_; exact ⟨⟨zeroTm, 0, rfl⟩, rfl, rfl⟩)
        | (refine FIN.at h0 [1] (.tup [.agg [.int .i64 0, .str [], .str [], .str []], .int .i64 0, errSV 0]) [(0, errHp ((i : Int) + 1 + e.1) e.2)] rfl rfl rfl (by first | rfl | (simp only [belowO, belowH, plainLL_below _ (plainStrs _), Bool.and_self, Bool.and_true] <;> rfl)) (by repeat' (first | exact trivial | exact (renH_plain _ (h := .rows _ _) (plainStrs _)).symm | (with_reducible rfl) | (exact (renH_plain _ (h := .rows _ _) (plainStrs _)).trans (renH_plain _ (h := .rows _ _) (plainStrs _)).symm) | (exact rows_eq (plainStrs _) (by simp [strRow, ofVal, List.take_of_length_le])) | exact rfl | ((conv => whnf); refine ⟨?_, ?_⟩))) rfl ?_; exact ⟨⟨zeroTm, 0, rfl⟩, rfl, rfl⟩)
        | (refine FIN.at h0 [2] (.tup [.agg [.int .i64 0, .str [], .str [], .str []], .int .i64 0, errSV 0]) [(0, errHp ((i : Int) + 1 + e.1) e.2)] rfl rfl rfl (by first | rfl | (simp only [belowO, belowH, plainLL_below _ (plainStrs _), Bool.and_self, Bool.and_true] <;> rfl)) (by repeat' (first | exact trivial | exact (renH_plain _ (h := .rows _ _) (plainStrs _)).symm | (with_reducible rfl) | (exact (renH_plain _ (h := .rows _ _) (plainStrs _)).trans (renH_plain _ (h := .rows _ _) (plainStrs _)).symm) | (exact rows_eq (plainStrs _) (by simp [strRow, ofVal, List.take_of_length_le])) | exact rfl | ((conv => whnf); refine ⟨?_, ?_⟩))) rfl ?_; exact ⟨⟨zeroTm, 0, rfl⟩, rfl, rfl⟩)
    | inr t =>
      rw [hc] at hu hb hul
      have ht := hul t rfl
      refine CALL.at [] (hu) rfl rfl rfl rfl (by first | rfl | (simp only [belowO, belowH, plainLL_below _ (plainStrs _), Bool.and_self, Bool.and_true] <;> rfl)) (by first | rfl | (simp only [belowO, belowH, plainLL_below _ (plainStrs _), Bool.and_self, Bool.and_true] <;> rfl)) (by repeat' (first | exact trivial | exact (renH_plain _ (h := .rows _ _) (plainStrs _)).symm | exact rfl | exact (renH_plain _ (h := .rows _ _) (plainStrs _)).trans (renH_plain _ (h := .rows _ _) (plainStrs _)).symm | ((conv => whnf); refine ⟨?_, ?_⟩))) (by repeat' (first | exact trivial | exact (renH_plain _ (h := .rows _ _) (plainStrs _)).symm | exact rfl | exact (renH_plain _ (h := .rows _ _) (plainStrs _)).trans (renH_plain _ (h := .rows _ _) (plainStrs _)).symm | ((conv => whnf); refine ⟨?_, ?_⟩))) rfl rfl ?_
      rintro r O' nx' ⟨rfl, rfl, rfl⟩
      conv => whnf
      repeat' ((first | with_reducible refine IF.tt ?_ | with_reducible refine IF.ff ?_ | refine CALL.value (iriCheck_does t (by omega)) rfl rfl ?_ | (refine CALL.err (at_does _ _) rfl ?_; conv => whnf) | refine NEED.au ?_ | ((with_reducible apply GET.at); rfl) | ((with_reducible apply GETG.at); rfl) | ((with_reducible refine UNK.mk (fun h => ?_) ?_) <;> try (exfalso; omega)) | ((with_reducible refine IF.mk (fun h => ?_) (fun h => ?_)) <;> (try simp (disch := omega) only [hsB, hsC, lnB, wrap64, wrap32, simprocAttr] at h) <;> try (exfalso; omega))) <;> conv => whnf)
      · rename_i h9
        have hb : iriTm (iriAt s i) = .inl (i, iriM t) := by rw [hb]; simp only; rw [if_pos h]; try rfl
        rw [hb]
        first
          | (refine FIN.at h0 [0] (.tup [.agg [.int .i64 0, .str [], .str [], .str []], .int .i64 0, errSV 0]) [(0, errHp (i : Int) (iriM t))] rfl rfl rfl (by first | rfl | (simp only [belowO, belowH, plainLL_below _ (plainStrs _), Bool.and_self, Bool.and_true] <;> rfl)) (by repeat' (first | exact trivial | exact (renH_plain _ (h := .rows _ _) (plainStrs _)).symm | (with_reducible rfl) | (exact (renH_plain _ (h := .rows _ _) (plainStrs _)).trans (renH_plain _ (h := .rows _ _) (plainStrs _)).symm) | (exact rows_eq (plainStrs _) (by simp [strRow, ofVal, List.take_of_length_le])) | exact rfl | ((conv => whnf); refine ⟨?_, ?_⟩))) rfl ?_; exact ⟨⟨zeroTm, 0, rfl⟩, rfl, rfl⟩)
          | (refine FIN.at h0 [1] (.tup [.agg [.int .i64 0, .str [], .str [], .str []], .int .i64 0, errSV 0]) [(0, errHp (i : Int) (iriM t))] rfl rfl rfl (by first | rfl | (simp only [belowO, belowH, plainLL_below _ (plainStrs _), Bool.and_self, Bool.and_true] <;> rfl)) (by repeat' (first | exact trivial | exact (renH_plain _ (h := .rows _ _) (plainStrs _)).symm | (with_reducible rfl) | (exact (renH_plain _ (h := .rows _ _) (plainStrs _)).trans (renH_plain _ (h := .rows _ _) (plainStrs _)).symm) | (exact rows_eq (plainStrs _) (by simp [strRow, ofVal, List.take_of_length_le])) | exact rfl | ((conv => whnf); refine ⟨?_, ?_⟩))) rfl ?_; exact ⟨⟨zeroTm, 0, rfl⟩, rfl, rfl⟩)
          | (refine FIN.at h0 [2] (.tup [.agg [.int .i64 0, .str [], .str [], .str []], .int .i64 0, errSV 0]) [(0, errHp (i : Int) (iriM t))] rfl rfl rfl (by first | rfl | (simp only [belowO, belowH, plainLL_below _ (plainStrs _), Bool.and_self, Bool.and_true] <;> rfl)) (by repeat' (first | exact trivial | exact (renH_plain _ (h := .rows _ _) (plainStrs _)).symm | (with_reducible rfl) | (exact (renH_plain _ (h := .rows _ _) (plainStrs _)).trans (renH_plain _ (h := .rows _ _) (plainStrs _)).symm) | (exact rows_eq (plainStrs _) (by simp [strRow, ofVal, List.take_of_length_le])) | exact rfl | ((conv => whnf); refine ⟨?_, ?_⟩))) rfl ?_; exact ⟨⟨zeroTm, 0, rfl⟩, rfl, rfl⟩)
      · have hb : iriTm (iriAt s i) = .inr (⟨1, t, [], []⟩, i + 1 + n + 1) := by rw [hb]; simp only; rw [if_neg (by simpa using h)]; try rfl
        rw [hb, hw2, hw3]
        exact FIN.val h0 rfl ⟨rfl, rfl, rfl⟩
set_option maxHeartbeats 4000000 in
theorem tlanguage_does (k : Int) (t y l : List UInt8) (s : List UInt8) (i : Nat) (hs : s.length ≤ 140737488351232) (hi : i < s.length) : Does Tryz.prog tab 62 0 [.agg [.int .i64 k, .str t, .str y, .str l], .str s, .int .i64 (i : Int)] [] [] (TermQ (tagTm k t (tagAt s i))) := by
  have hsm : Sm s := by omega
  have hw1 : IntKind.i64.wrap ((i : Int) + 1) = ((i + 1 : Nat) : Int) := by rw [wrap64 (by omega) (by omega)]; omega
  refine Does.enter tabOK (g := 62) (fn := Tryz.f62) Tryz.call62 Tryz.func62 rfl 81 rfl rfl [.cell 6 24, .tmp 7, .tmp 8] rfl ?_
  intro w0 F η0 h0
  conv => whnf
  rw [hw1]
  refine LOOP.go tabOK [1, 2, 3, 6] (X := Nat) (fun x => i + 1 ≤ x ∧ x ≤ s.length ∧ langEnd s (i + 1) = langEnd s x) (fun x => [(9, .int .i64 (x : Int))]) (fun _ => [(0, .box [.int .i64 k, .str t, .str y, .str l]), (1, .box [.int .i64 0, .str [], .str [], .str []])]) 2 (fun x => s.length - x) (i + 1) ⟨by omega, by omega, rfl⟩ ?_
  conv => whnf
  refine ⟨by (refine GOES.cutting h0 rfl rfl rfl (by first | rfl | simp [belowO, belowH, plainLL_below, plainLL_map, plainL, plain]) ?_ ?_ <;> (repeat' (first | (with_reducible rfl) | (exact congrArg (fun n => SV.sl _ _ _ n _) (by simp)) | (exact congrArg (Hp.rows _) (by simp)) | (exact congrArg (SV.int _) (by first | omega | (simp (disch := omega) only [lnB, wrap64, wrap32] <;> omega) | (simp; done) | (simp <;> omega))) | ((conv => whnf); refine ⟨?_, ?_⟩) | exact trivial | (simp; done) | rfl))), ?_⟩
  rintro j ⟨hij, hj, hc⟩
  dsimp only at hj hc ⊢
  have hb := byteAt_lt s j
  have ho := or32 hb
  have hlb : langB (byteAt s j) ↔ (byteAt s j = 45 ∨ (48 ≤ byteAt s j ∧ byteAt s j ≤ 57) ∨ (97 ≤ byteAt s j ∧ byteAt s j ≤ 122) ∨ (65 ≤ byteAt s j ∧ byteAt s j ≤ 90)) := Iff.rfl
  have htl : ((s.drop (i + 1)).take (j - (i + 1))).length = j - (i + 1) := by simp; omega
  have hcut : List.take (((j : Nat) : Int).toNat - ((i + 1 : Nat) : Int).toNat) (List.drop ((i + 1 : Nat) : Int).toNat s) = (s.drop (i + 1)).take (j - (i + 1)) := by
    rw [show ((j : Nat) : Int).toNat = j by omega, show ((i + 1 : Nat) : Int).toNat = i + 1 by omega]
  conv => whnf
  repeat' ((first | with_reducible refine IF.tt ?_ | with_reducible refine IF.ff ?_ | refine NEED.au ?_ | ((with_reducible apply GET.at); rfl) | ((with_reducible apply GETG.at); rfl) | ((with_reducible refine UNK.mk (fun h => ?_) ?_) <;> try (exfalso; omega)) | ((with_reducible refine IF.mk (fun h => ?_) (fun h => ?_)) <;> (try simp (disch := omega) only [hsB, hsC, lnB, wrap64, wrap32, simprocAttr] at h) <;> try (exfalso; omega))) <;> conv => whnf)
  · have hlt : j < s.length := by omega
    refine ⟨j + 1, ⟨by omega, by omega, ?_⟩, by omega, ?_⟩
    · rw [hc, langEnd_step hlt (hlb.2 (by omega))]
    · conv => whnf
      (refine GOES.cutting h0 rfl rfl rfl (by first | rfl | simp [belowO, belowH, plainLL_below, plainLL_map, plainL, plain]) ?_ ?_ <;> (repeat' (first | (with_reducible rfl) | (exact congrArg (fun n => SV.sl _ _ _ n _) (by simp)) | (exact congrArg (Hp.rows _) (by simp)) | (exact congrArg (SV.int _) (by first | omega | (simp (disch := omega) only [lnB, wrap64, wrap32] <;> omega) | (simp; done) | (simp <;> omega))) | ((conv => whnf); refine ⟨?_, ?_⟩) | exact trivial | (simp; done) | rfl)))
  · have hle : langEnd s (i + 1) = j := by rw [hc, langEnd_stop (fun hh => by have := hlb.1 hh.2; omega)]
    have hT : tagAt s i = .inl (i, 2) := by unfold tagAt; rw [hle, if_pos (by simp at h; omega)]
    rw [hT]
    repeat' ((first | with_reducible refine IF.tt ?_ | with_reducible refine IF.ff ?_ | refine DRAWN.of (id := 6) tabOK mixed plNext11 (by kernel_rfl) ?_ | refine DRAWN.of (id := 9) tabOK mixed plNext12 (by kernel_rfl) ?_ | with_reducible refine ADD.mk (fun _ _ => ?_) | with_reducible refine NEED.mk (Det.of rfl) ?_ | refine NEED.mk (det_pos (by omega)) ?_ | with_reducible refine FORK.mk ?_ ?_ | (refine CALL.err (at_does _ _) rfl ?_; conv => whnf) | refine NEED.au ?_ | ((with_reducible apply GET.at); rfl) | ((with_reducible apply GETG.at); rfl) | ((with_reducible refine UNK.mk (fun h => ?_) ?_) <;> try (exfalso; omega)) | ((with_reducible refine IF.mk (fun h => ?_) (fun h => ?_)) <;> (try simp (disch := omega) only [hsB, hsC, lnB, wrap64, wrap32, simprocAttr] at h) <;> try (exfalso; omega))) <;> conv => whnf)
    all_goals
      refine FIN.at h0 [2] (.tup [.agg [.int .i64 k, .str t, .str y, .str l], .int .i64 0, errSV 0]) [(0, errHp (i : Int) 2)] rfl rfl rfl (by first | rfl | (simp only [belowO, belowH, plainLL_below _ (plainStrs _), Bool.and_self, Bool.and_true] <;> rfl)) (by repeat' (first | exact trivial | exact (renH_plain _ (h := .rows _ _) (plainStrs _)).symm | (with_reducible rfl) | (exact (renH_plain _ (h := .rows _ _) (plainStrs _)).trans (renH_plain _ (h := .rows _ _) (plainStrs _)).symm) | (exact rows_eq (plainStrs _) (by simp [strRow, ofVal, List.take_of_length_le])) | exact rfl | ((conv => whnf); refine ⟨?_, ?_⟩))) rfl ?_
      exact ⟨⟨⟨k, t, y, l⟩, 0, rfl⟩, rfl, rfl⟩
  · have hle : langEnd s (i + 1) = j := by rw [hc, langEnd_stop (fun hh => by have := hlb.1 hh.2; omega)]
    have hsmall : j - (i + 1) ≤ 65536 := by
      have h9 := h
      rw [show ((i : Int) + 1).toNat = i + 1 by omega, show ((j : Nat) : Int).toNat = j by omega, htl] at h9
      omega
    have htd := tag_does ((s.drop (i + 1)).take (j - (i + 1))) (by omega)
    have hld := lower_does ((s.drop (i + 1)).take (j - (i + 1))) (by omega)
    rw [hw1, hcut]
    rcases Bool.eq_false_or_eq_true (tagP (splitM ((s.drop (i + 1)).take (j - (i + 1))))) with hp | hp
    · rw [if_pos hp] at htd
      have hT : tagAt s i = .inr (lowerM ((s.drop (i + 1)).take (j - (i + 1))), (j : Int)) := by unfold tagAt; rw [hle, if_neg (by omega), if_pos hp]
      refine CALL.value htd rfl rfl ?_
      conv => whnf
      repeat' ((first | with_reducible refine IF.tt ?_ | with_reducible refine IF.ff ?_ | refine CALL.value (hld) rfl rfl ?_ | refine NEED.au ?_ | ((with_reducible apply GET.at); rfl) | ((with_reducible apply GETG.at); rfl) | ((with_reducible refine UNK.mk (fun h => ?_) ?_) <;> try (exfalso; omega)) | ((with_reducible refine IF.mk (fun h => ?_) (fun h => ?_)) <;> (try simp (disch := omega) only [hsB, hsC, lnB, wrap64, wrap32, simprocAttr] at h) <;> try (exfalso; omega))) <;> conv => whnf)
      rw [hT]
      exact FIN.val h0 rfl ⟨rfl, rfl, rfl⟩
    · rw [if_neg (by simp [hp])] at htd
      have hT : tagAt s i = .inl (i + 1, 61) := by unfold tagAt; rw [hle, if_neg (by omega), if_neg (by simp [hp])]
      refine CALL.value htd rfl rfl ?_
      conv => whnf
      repeat' ((first | with_reducible refine IF.tt ?_ | with_reducible refine IF.ff ?_ | refine DRAWN.of (id := 6) tabOK mixed plNext11 (by kernel_rfl) ?_ | refine DRAWN.of (id := 9) tabOK mixed plNext12 (by kernel_rfl) ?_ | with_reducible refine ADD.mk (fun _ _ => ?_) | with_reducible refine NEED.mk (Det.of rfl) ?_ | refine NEED.mk (det_pos (by omega)) ?_ | with_reducible refine FORK.mk ?_ ?_ | (refine CALL.err (at_does _ _) rfl ?_; conv => whnf) | refine NEED.au ?_ | ((with_reducible apply GET.at); rfl) | ((with_reducible apply GETG.at); rfl) | ((with_reducible refine UNK.mk (fun h => ?_) ?_) <;> try (exfalso; omega)) | ((with_reducible refine IF.mk (fun h => ?_) (fun h => ?_)) <;> (try simp (disch := omega) only [hsB, hsC, lnB, wrap64, wrap32, simprocAttr] at h) <;> try (exfalso; omega))) <;> conv => whnf)
      all_goals
        rw [hT]
        try rw [hw1]
        have hi1 : ((i + 1 : Nat) : Int) = (i : Int) + 1 := by omega
        try rw [hi1]
        first
          | (refine FIN.at h0 [3] (.tup [.agg [.int .i64 k, .str t, .str y, .str l], .int .i64 0, errSV 0]) [(0, errHp ((i : Int) + 1) 61)] rfl rfl rfl (by first | rfl | (simp only [belowO, belowH, plainLL_below _ (plainStrs _), Bool.and_self, Bool.and_true] <;> rfl)) (by repeat' (first | exact trivial | exact (renH_plain _ (h := .rows _ _) (plainStrs _)).symm | (with_reducible rfl) | (exact (renH_plain _ (h := .rows _ _) (plainStrs _)).trans (renH_plain _ (h := .rows _ _) (plainStrs _)).symm) | (exact rows_eq (plainStrs _) (by simp [strRow, ofVal, List.take_of_length_le])) | exact rfl | ((conv => whnf); refine ⟨?_, ?_⟩))) rfl ?_
             exact ⟨⟨⟨k, t, y, l⟩, 0, rfl⟩, rfl, rfl⟩)
          | trace_state
end Go.Proofs.YtillkgjdbnjnoaaGreatDoor
/- term.Next, walked: literals, Next, Parse. Conditions: none. -/
set_option linter.unusedVariables false
set_option linter.unusedSimpArgs false
set_option maxRecDepth 20000
set_option maxHeartbeats 8000000
namespace Go.Proofs.YtillkgjdbnjnoaaGreatDoor
open Go.Sx Go.Our
def plNext30 : Plan := (planOf [(1, 1), (0, 2), (2, 3), (3, 0), (4, 1), (5, 1)])
def plNext31 : Plan := (.take 1 1 (.take 2 1 (.take 3 1 (.fork 0 3 4 0 (planOf [(4, 0), (5, 0), (6, 1), (7, 1)]) (planOf [(0, 2), (5, 0), (6, 1), (7, 1)])))))
def plNext32 : Plan := (planOf [(1, 1), (2, 1), (0, 2), (3, 3), (4, 0), (5, 1), (6, 1)])
def plNext33 : Plan := (.take 1 1 (.fork 0 3 2 0 (planOf [(2, 0), (3, 0), (4, 1), (5, 1)]) (planOf [(0, 2), (3, 0), (4, 1), (5, 1)])))
def plNext34 : Plan := (planOf [(1, 1), (2, 1), (3, 1), (0, 2), (4, 3), (5, 0), (6, 1), (7, 1)])
def plNext35 : Plan := (.take 1 1 (.take 2 1 (.fork 0 3 3 0 (planOf [(3, 0), (4, 0), (5, 1), (6, 1)]) (planOf [(0, 2), (4, 0), (5, 1), (6, 1)]))))
theorem notB {b : Bool} (h : (!b) = true) : b = false := by cases b <;> simp_all
theorem notB2 {b : Bool} (h : (!b) = false) : b = true := by cases b <;> simp_all
theorem slHasPrefix_does (s p : List UInt8) (hs : Sm s) : Does Tryz.prog tab 93 0 [.str s, .str p] [] [] (Val (.bool (decide (p <+: s)))) := by
  refine Does.enter tabOK (g := 93) (fn := Tryz.f93) Tryz.call93 Tryz.func93 rfl 18 rfl rfl [.tmp 4] rfl ?_
  intro w0 F η0 h0
  conv => whnf
  repeat' ((first | with_reducible refine IF.tt ?_ | with_reducible refine IF.ff ?_ | refine NEED.au ?_ | ((with_reducible apply GET.at); rfl) | ((with_reducible apply GETG.at); rfl) | ((with_reducible refine UNK.mk (fun h => ?_) ?_) <;> try (exfalso; omega)) | ((with_reducible refine IF.mk (fun h => ?_) (fun h => ?_)) <;> (try simp (disch := omega) only [hsB, hsC, lnB, wrap64, wrap32, simprocAttr] at h) <;> try (exfalso; omega))) <;> conv => whnf)
  refine FIN.value h0 rfl (congrArg SV.bool ?_)
  rw [Bool.eq_iff_iff]
  simp only [Bool.cond_eq_ite, decide_eq_true_eq, Bool.if_false_right, Bool.and_eq_true, beq_iff_eq, Int.toNat_natCast]
  constructor
  · rintro ⟨h1, h2⟩; rw [← h2]; exact List.take_prefix _ _
  · intro h; exact ⟨by have := h.length_le; omega, (List.prefix_iff_eq_take.1 h).symm⟩
theorem hasPrefix_does (s p : List UInt8) (hs : Sm s) : Does Tryz.prog tab 61 0 [.str s, .str p] [] [] (Val (.bool (decide (p <+: s)))) := by
  refine Does.enter tabOK (g := 61) (fn := Tryz.f61) Tryz.call61 Tryz.func61 rfl 8 rfl rfl [.tmp 4] rfl ?_
  intro w0 F η0 h0
  conv => whnf
  repeat' ((first | with_reducible refine IF.tt ?_ | with_reducible refine IF.ff ?_ | refine CALL.value (slHasPrefix_does _ _ hs) rfl rfl ?_ | refine NEED.au ?_ | ((with_reducible apply GET.at); rfl) | ((with_reducible apply GETG.at); rfl) | ((with_reducible refine UNK.mk (fun h => ?_) ?_) <;> try (exfalso; omega)) | ((with_reducible refine IF.mk (fun h => ?_) (fun h => ?_)) <;> (try simp (disch := omega) only [hsB, hsC, lnB, wrap64, wrap32, simprocAttr] at h) <;> try (exfalso; omega))) <;> conv => whnf)
  exact FIN.value h0 rfl rfl
theorem pfx1 {s : List UInt8} {e : Nat} {c : UInt8} : [c] <+: s.drop e ↔ (e < s.length ∧ byteAt s e = (c.toNat : Int)) := by
  unfold byteAt
  rw [Int.toNat_natCast]
  rcases Nat.lt_or_ge e s.length with h | h
  · rw [drop_cons h]
    simp only [List.cons_prefix_cons, List.nil_prefix, and_true, h, true_and]
    constructor
    · rintro rfl; rfl
    · intro h1; exact (UInt8.toNat.inj (by omega)).symm
  · rw [List.drop_eq_nil_of_le h]
    simp; omega
theorem pfx2 {s : List UInt8} {e : Nat} {c d : UInt8} : [c, d] <+: s.drop e ↔ (e + 1 < s.length ∧ byteAt s e = (c.toNat : Int) ∧ byteAt s (e + 1 : Nat) = (d.toNat : Int)) := by
  rcases Nat.lt_or_ge e s.length with h | h
  · rw [drop_cons h, List.cons_prefix_cons, pfx1]
    unfold byteAt
    simp only [Int.toNat_natCast]
    constructor
    · rintro ⟨rfl, h1, h2⟩; exact ⟨h1, rfl, h2⟩
    · rintro ⟨h1, h2, h3⟩; exact ⟨(UInt8.toNat.inj (by omega)).symm, h1, h3⟩
  · rw [List.drop_eq_nil_of_le h]
    simp; omega
theorem hp1_does (s : List UInt8) (e : Nat) (c : UInt8) (hs : Sm s) : Does Tryz.prog tab 61 0 [.str (s.drop ((e : Nat) : Int).toNat), .str [c]] [] [] (Val (.bool (decide (e < s.length ∧ byteAt s e = (c.toNat : Int))))) := by
  have := hasPrefix_does (s.drop e) [c] (by simp; omega)
  rw [show ((e : Nat) : Int).toNat = e by omega]
  rwa [decide_eq_decide.2 pfx1] at this
theorem hp2_does (s : List UInt8) (e : Nat) (c d : UInt8) (hs : Sm s) : Does Tryz.prog tab 61 0 [.str (s.drop ((e : Nat) : Int).toNat), .str [c, d]] [] [] (Val (.bool (decide (e + 1 < s.length ∧ byteAt s e = (c.toNat : Int) ∧ byteAt s (e + 1 : Nat) = (d.toNat : Int))))) := by
  have := hasPrefix_does (s.drop e) [c, d] (by simp; omega)
  rw [show ((e : Nat) : Int).toNat = e by omega]
  rwa [decide_eq_decide.2 pfx2] at this
set_option maxHeartbeats 4000000 in
theorem nextLiteral_does (s : List UInt8) (i : Nat) (hs : s.length ≤ 140737488351232) (hi : i < s.length) : Does Tryz.prog tab 42 0 [.str s, .int .i64 (i : Int)] [] [] (TermQ (litAt s i)) := by
  have hsm : Sm s := by omega
  have hw1 : IntKind.i64.wrap ((i : Int) + 1) = ((i + 1 : Nat) : Int) := by rw [wrap64 (by omega) (by omega)]; omega
  have hcl := closing_does s i hs hi
  have hqf := quot_fits s (i + 1) false
  cases hq : quotM s (i + 1) false with
  | inl e =>
    rw [hq] at hcl
    have hL : litAt s i = .inl (e, 90) := by unfold litAt; rw [hq]
    rw [hL]
    refine Does.enter tabOK (g := 42) (fn := Tryz.f42) Tryz.call42 Tryz.func42 rfl 106 rfl rfl [.cell 4 24, .tmp 5, .tmp 6] rfl ?_
    intro w0 F η0 h0
    conv => whnf
    refine CALL.errT [.int .i64 0] hcl rfl rfl ?_
    conv => whnf
    repeat' ((first | with_reducible refine IF.tt ?_ | with_reducible refine IF.ff ?_ | refine NEED.au ?_ | ((with_reducible apply GET.at); rfl) | ((with_reducible apply GETG.at); rfl) | ((with_reducible refine UNK.mk (fun h => ?_) ?_) <;> try (exfalso; omega)) | ((with_reducible refine IF.mk (fun h => ?_) (fun h => ?_)) <;> (try simp (disch := omega) only [hsB, hsC, lnB, wrap64, wrap32, simprocAttr] at h) <;> try (exfalso; omega))) <;> conv => whnf)
    (refine FIN.at h0 [2] (.tup [.agg [.int .i64 0, .str [], .str [], .str []], .int .i64 0, errSV 0]) [(0, errHp (e : Int) 90)] rfl rfl rfl (by first | rfl | (simp only [belowO, belowH, plainLL_below _ (plainStrs _), Bool.and_self, Bool.and_true] <;> rfl)) (by repeat' (first | exact trivial | exact (renH_plain _ (h := .rows _ _) (plainStrs _)).symm | (with_reducible rfl) | (exact (renH_plain _ (h := .rows _ _) (plainStrs _)).trans (renH_plain _ (h := .rows _ _) (plainStrs _)).symm) | (exact rows_eq (plainStrs _) (by simp [strRow, ofVal, List.take_of_length_le])) | exact rfl | ((conv => whnf); refine ⟨?_, ?_⟩))) rfl ?_; exact ⟨⟨zeroTm, 0, rfl⟩, rfl, rfl⟩)
  | inr e =>
    rw [hq] at hcl
    have he := hqf.1 e hq
    have hcl : Does Tryz.prog tab 60 0 [.str s, .int .i64 (i : Int)] [] [] (Val (.tup [.int .i64 e, .val .nilIface])) := hcl
    have hcut : List.take (((e : Nat) : Int).toNat - ((i + 1 : Nat) : Int).toNat) (List.drop ((i + 1 : Nat) : Int).toNat s) = (s.drop (i + 1)).take (e - (i + 1)) := by
      rw [show ((e : Nat) : Int).toNat = e by omega, show ((i + 1 : Nat) : Int).toNat = i + 1 by omega]
    have htl : ((s.drop (i + 1)).take (e - (i + 1))).length = e - (i + 1) := by simp; omega
    have hu := unescape_does ((s.drop (i + 1)).take (e - (i + 1))) 1 (by omega)
    have hup := unesc_place 1 ((s.drop (i + 1)).take (e - (i + 1))) 0
    have hul := unesc_len 1 ((s.drop (i + 1)).take (e - (i + 1))) 0
    cases hc : unescM 1 ((s.drop (i + 1)).take (e - (i + 1))) 0 with
    | inl x =>
      rw [hc] at hu
      have hx := hup x hc
      have hL : litAt s i = .inl (i + 1 + x.1, x.2) := by unfold litAt; rw [hq]; simp only; rw [hc]
      rw [hL]
      have hmv := moved_does (x.1 : Int) x.2 ((i + 1 : Nat) : Int) (by omega) (by omega)
      refine Does.enter tabOK (g := 42) (fn := Tryz.f42) Tryz.call42 Tryz.func42 rfl 106 rfl rfl [.cell 4 24, .tmp 5, .tmp 6] rfl ?_
      intro w0 F η0 h0
      conv => whnf
      repeat' ((first | with_reducible refine IF.tt ?_ | with_reducible refine IF.ff ?_ | refine CALL.value (hcl) rfl rfl ?_ | refine NEED.au ?_ | ((with_reducible apply GET.at); rfl) | ((with_reducible apply GETG.at); rfl) | ((with_reducible refine UNK.mk (fun h => ?_) ?_) <;> try (exfalso; omega)) | ((with_reducible refine IF.mk (fun h => ?_) (fun h => ?_)) <;> (try simp (disch := omega) only [hsB, hsC, lnB, wrap64, wrap32, simprocAttr] at h) <;> try (exfalso; omega))) <;> conv => whnf)
      rw [hw1, hcut]
      refine CALL.errT [.str []] hu rfl rfl ?_
      conv => whnf
      repeat' ((first | with_reducible refine IF.tt ?_ | with_reducible refine IF.ff ?_ | refine DRAWN.of (id := 9) tabOK mixed plNext30 (by kernel_rfl) ?_ | refine DRAWN.of (id := 7) tabOK mixed plNext31 (by kernel_rfl) ?_ | refine DRAWN.of (id := 16) tabOK mixed plNext32 (by kernel_rfl) ?_ | with_reducible refine ADD.mk (fun _ _ => ?_) | with_reducible refine NEED.mk (Det.of rfl) ?_ | refine NEED.mk (det_pos (by omega)) ?_ | with_reducible refine FORK.mk ?_ ?_ | refine NEED.au ?_ | ((with_reducible apply GET.at); rfl) | ((with_reducible apply GETG.at); rfl) | ((with_reducible refine UNK.mk (fun h => ?_) ?_) <;> try (exfalso; omega)) | ((with_reducible refine IF.mk (fun h => ?_) (fun h => ?_)) <;> (try simp (disch := omega) only [hsB, hsC, lnB, wrap64, wrap32, simprocAttr] at h) <;> try (exfalso; omega))) <;> conv => whnf)
      all_goals
        rw [hw1]
        refine CALL.at [2] (hmv) rfl rfl rfl rfl (by first | rfl | (simp only [belowO, belowH, plainLL_below _ (plainStrs _), Bool.and_self, Bool.and_true] <;> rfl)) (by first | rfl | (simp only [belowO, belowH, plainLL_below _ (plainStrs _), Bool.and_self, Bool.and_true] <;> rfl)) (by repeat' (first | exact trivial | exact (renH_plain _ (h := .rows _ _) (plainStrs _)).symm | exact rfl | exact (renH_plain _ (h := .rows _ _) (plainStrs _)).trans (renH_plain _ (h := .rows _ _) (plainStrs _)).symm | ((conv => whnf); refine ⟨?_, ?_⟩))) (by repeat' (first | exact trivial | exact (renH_plain _ (h := .rows _ _) (plainStrs _)).symm | exact rfl | exact (renH_plain _ (h := .rows _ _) (plainStrs _)).trans (renH_plain _ (h := .rows _ _) (plainStrs _)).symm | ((conv => whnf); refine ⟨?_, ?_⟩))) rfl rfl ?_
        rintro r O' nx' ⟨rfl, rfl, rfl⟩
        conv => whnf
        repeat' ((first | with_reducible refine IF.tt ?_ | with_reducible refine IF.ff ?_ | refine DRAWN.of (id := 9) tabOK mixed plNext30 (by kernel_rfl) ?_ | refine DRAWN.of (id := 7) tabOK mixed plNext31 (by kernel_rfl) ?_ | refine DRAWN.of (id := 16) tabOK mixed plNext32 (by kernel_rfl) ?_ | with_reducible refine ADD.mk (fun _ _ => ?_) | with_reducible refine NEED.mk (Det.of rfl) ?_ | refine NEED.mk (det_pos (by omega)) ?_ | with_reducible refine FORK.mk ?_ ?_ | refine NEED.au ?_ | ((with_reducible apply GET.at); rfl) | ((with_reducible apply GETG.at); rfl) | ((with_reducible refine UNK.mk (fun h => ?_) ?_) <;> try (exfalso; omega)) | ((with_reducible refine IF.mk (fun h => ?_) (fun h => ?_)) <;> (try simp (disch := omega) only [hsB, hsC, lnB, wrap64, wrap32, simprocAttr] at h) <;> try (exfalso; omega))) <;> conv => whnf)
      all_goals
        rw [show ((x.1 : Int) + ((i + 1 : Nat) : Int)) = (i : Int) + 1 + x.1 by omega]
        (refine FIN.at h0 [3] (.tup [.agg [.int .i64 0, .str [], .str [], .str []], .int .i64 0, errSV 0]) [(0, errHp ((i : Int) + 1 + x.1) x.2)] rfl rfl rfl (by first | rfl | (simp only [belowO, belowH, plainLL_below _ (plainStrs _), Bool.and_self, Bool.and_true] <;> rfl)) (by repeat' (first | exact trivial | exact (renH_plain _ (h := .rows _ _) (plainStrs _)).symm | (with_reducible rfl) | (exact (renH_plain _ (h := .rows _ _) (plainStrs _)).trans (renH_plain _ (h := .rows _ _) (plainStrs _)).symm) | (exact rows_eq (plainStrs _) (by simp [strRow, ofVal, List.take_of_length_le])) | exact rfl | ((conv => whnf); refine ⟨?_, ?_⟩))) rfl ?_; exact ⟨⟨zeroTm, 0, rfl⟩, rfl, rfl⟩)
    | inr t =>
      have hu : Does Tryz.prog tab 58 0 [.str ((s.drop (i + 1)).take (e - (i + 1))), .int .i64 1] [] [] (Val (.tup [.str t, .val .nilIface])) := by rw [hc] at hu; exact hu
      have ht := hul t hc
      clear hup hul
      rcases Nat.lt_or_ge 65536 t.length with hbig | hbig
      · have hL : litAt s i = .inl (i, 2) := by unfold litAt; rw [hq]; simp only; rw [hc]; simp only; rw [if_pos hbig]
        rw [hL]
        refine Does.enter tabOK (g := 42) (fn := Tryz.f42) Tryz.call42 Tryz.func42 rfl 106 rfl rfl [.cell 4 24, .tmp 5, .tmp 6] rfl ?_
        intro w0 F η0 h0
        conv => whnf
        repeat' ((first | with_reducible refine IF.tt ?_ | with_reducible refine IF.ff ?_ | refine CALL.value (hcl) rfl rfl ?_ | refine NEED.au ?_ | ((with_reducible apply GET.at); rfl) | ((with_reducible apply GETG.at); rfl) | ((with_reducible refine UNK.mk (fun h => ?_) ?_) <;> try (exfalso; omega)) | ((with_reducible refine IF.mk (fun h => ?_) (fun h => ?_)) <;> (try simp (disch := omega) only [hsB, hsC, lnB, wrap64, wrap32, simprocAttr] at h) <;> try (exfalso; omega))) <;> conv => whnf)
        rw [hw1, hcut]
        refine CALL.value hu rfl rfl ?_
        conv => whnf
        repeat' ((first | with_reducible refine IF.tt ?_ | with_reducible refine IF.ff ?_ | refine DRAWN.of (id := 9) tabOK mixed plNext33 (by kernel_rfl) ?_ | refine DRAWN.of (id := 7) tabOK mixed plNext34 (by kernel_rfl) ?_ | refine DRAWN.of (id := 16) tabOK mixed plNext35 (by kernel_rfl) ?_ | with_reducible refine ADD.mk (fun _ _ => ?_) | with_reducible refine NEED.mk (Det.of rfl) ?_ | refine NEED.mk (det_pos (by omega)) ?_ | with_reducible refine FORK.mk ?_ ?_ | (refine CALL.err (at_does _ _) rfl ?_; conv => whnf) | refine NEED.au ?_ | ((with_reducible apply GET.at); rfl) | ((with_reducible apply GETG.at); rfl) | ((with_reducible refine UNK.mk (fun h => ?_) ?_) <;> try (exfalso; omega)) | ((with_reducible refine IF.mk (fun h => ?_) (fun h => ?_)) <;> (try simp (disch := omega) only [hsB, hsC, lnB, wrap64, wrap32, simprocAttr] at h) <;> try (exfalso; omega))) <;> conv => whnf)
        all_goals
          (refine FIN.at h0 [2] (.tup [.agg [.int .i64 0, .str [], .str [], .str []], .int .i64 0, errSV 0]) [(0, errHp (i : Int) 2)] rfl rfl rfl (by first | rfl | (simp only [belowO, belowH, plainLL_below _ (plainStrs _), Bool.and_self, Bool.and_true] <;> rfl)) (by repeat' (first | exact trivial | exact (renH_plain _ (h := .rows _ _) (plainStrs _)).symm | (with_reducible rfl) | (exact (renH_plain _ (h := .rows _ _) (plainStrs _)).trans (renH_plain _ (h := .rows _ _) (plainStrs _)).symm) | (exact rows_eq (plainStrs _) (by simp [strRow, ofVal, List.take_of_length_le])) | exact rfl | ((conv => whnf); refine ⟨?_, ?_⟩))) rfl ?_; exact ⟨⟨zeroTm, 0, rfl⟩, rfl, rfl⟩)
      · have hL : litAt s i = typeAt t s (e + 1) := by unfold litAt; rw [hq]; simp only; rw [hc]; simp only; rw [if_neg (by omega)]
        rw [hL]
        have hwe : IntKind.i64.wrap ((e : Int) + 1) = ((e + 1 : Nat) : Int) := by rw [wrap64 (by omega) (by omega)]; omega
        have h64 := hp1_does s (e + 1) 64 hsm
        have h94 := hp2_does s (e + 1) 94 94 hsm
        refine Does.enter tabOK (g := 42) (fn := Tryz.f42) Tryz.call42 Tryz.func42 rfl 106 rfl rfl [.cell 4 24, .tmp 5, .tmp 6] rfl ?_
        intro w0 F η0 h0
        conv => whnf
        repeat' ((first | with_reducible refine IF.tt ?_ | with_reducible refine IF.ff ?_ | refine CALL.value (hcl) rfl rfl ?_ | refine NEED.au ?_ | ((with_reducible apply GET.at); rfl) | ((with_reducible apply GETG.at); rfl) | ((with_reducible refine UNK.mk (fun h => ?_) ?_) <;> try (exfalso; omega)) | ((with_reducible refine IF.mk (fun h => ?_) (fun h => ?_)) <;> (try simp (disch := omega) only [hsB, hsC, lnB, wrap64, wrap32, simprocAttr] at h) <;> try (exfalso; omega))) <;> conv => whnf)
        rw [hw1, hcut]
        refine CALL.value hu rfl rfl ?_
        conv => whnf
        repeat' ((first | with_reducible refine IF.tt ?_ | with_reducible refine IF.ff ?_ | refine NEED.au ?_ | ((with_reducible apply GET.at); rfl) | ((with_reducible apply GETG.at); rfl) | ((with_reducible refine UNK.mk (fun h => ?_) ?_) <;> try (exfalso; omega)) | ((with_reducible refine IF.mk (fun h => ?_) (fun h => ?_)) <;> (try simp (disch := omega) only [hsB, hsC, lnB, wrap64, wrap32, simprocAttr] at h) <;> try (exfalso; omega))) <;> conv => whnf)
        rw [hwe]
        refine CALL.value h64 rfl rfl ?_
        conv => whnf
        refine IF.mk (fun h => ?_) (fun h => ?_)
        · have h : e + 1 < s.length ∧ byteAt s ((e + 1 : Nat) : Int) = 64 := of_decide_eq_true h
          have hT : typeAt t s (e + 1) = tagTm 3 t (tagAt s (e + 1)) := by unfold typeAt; rw [if_pos h]
          have htl := tlanguage_does 3 t plainB [] s (e + 1) hs (by omega)
          rw [← hT] at htl
          conv => whnf
          cases hR : typeAt t s (e + 1) with
          | inl x =>
            rw [hR] at htl
            refine CALL.termErr htl rfl fun y n => ?_
            conv => whnf
            repeat' ((first | with_reducible refine IF.tt ?_ | with_reducible refine IF.ff ?_ | refine NEED.au ?_ | ((with_reducible apply GET.at); rfl) | ((with_reducible apply GETG.at); rfl) | ((with_reducible refine UNK.mk (fun h => ?_) ?_) <;> try (exfalso; omega)) | ((with_reducible refine IF.mk (fun h => ?_) (fun h => ?_)) <;> (try simp (disch := omega) only [hsB, hsC, lnB, wrap64, wrap32, simprocAttr] at h) <;> try (exfalso; omega))) <;> conv => whnf)
            refine FIN.at h0 [3] (.tup [.agg [.int .i64 y.k, .str y.t, .str y.y, .str y.l], .int .i64 n, errSV 0]) [(0, errHp x.1 x.2)] rfl rfl rfl (by first | rfl | (simp only [belowO, belowH, plainLL_below _ (plainStrs _), Bool.and_self, Bool.and_true] <;> rfl)) (by repeat' (first | exact trivial | exact (renH_plain _ (h := .rows _ _) (plainStrs _)).symm | (with_reducible rfl) | (exact (renH_plain _ (h := .rows _ _) (plainStrs _)).trans (renH_plain _ (h := .rows _ _) (plainStrs _)).symm) | (exact rows_eq (plainStrs _) (by simp [strRow, ofVal, List.take_of_length_le])) | exact rfl | ((conv => whnf); refine ⟨?_, ?_⟩))) rfl ?_
            exact ⟨⟨y, n, rfl⟩, rfl, rfl⟩
          | inr x =>
            obtain ⟨y, n⟩ := x
            rw [hR] at htl
            refine CALL.termOk htl rfl ?_
            conv => whnf
            repeat' ((first | with_reducible refine IF.tt ?_ | with_reducible refine IF.ff ?_ | refine NEED.au ?_ | ((with_reducible apply GET.at); rfl) | ((with_reducible apply GETG.at); rfl) | ((with_reducible refine UNK.mk (fun h => ?_) ?_) <;> try (exfalso; omega)) | ((with_reducible refine IF.mk (fun h => ?_) (fun h => ?_)) <;> (try simp (disch := omega) only [hsB, hsC, lnB, wrap64, wrap32, simprocAttr] at h) <;> try (exfalso; omega))) <;> conv => whnf)
            exact FIN.val h0 rfl ⟨rfl, rfl, rfl⟩
        · have h : ¬ (e + 1 < s.length ∧ byteAt s ((e + 1 : Nat) : Int) = 64) := of_decide_eq_false h
          conv => whnf
          repeat' ((first | with_reducible refine IF.tt ?_ | with_reducible refine IF.ff ?_ | refine NEED.au ?_ | ((with_reducible apply GET.at); rfl) | ((with_reducible apply GETG.at); rfl) | ((with_reducible refine UNK.mk (fun h => ?_) ?_) <;> try (exfalso; omega)) | ((with_reducible refine IF.mk (fun h => ?_) (fun h => ?_)) <;> (try simp (disch := omega) only [hsB, hsC, lnB, wrap64, wrap32, simprocAttr] at h) <;> try (exfalso; omega))) <;> conv => whnf)
          refine CALL.value h94 rfl rfl ?_
          conv => whnf
          refine IF.mk (fun h2 => ?_) (fun h2 => ?_)
          · have h2 : e + 1 + 1 < s.length ∧ byteAt s ((e + 1 : Nat) : Int) = 94 ∧ byteAt s ((e + 1 + 1 : Nat) : Int) = 94 := of_decide_eq_true h2
            have hwf : IntKind.i64.wrap (((e + 1 : Nat) : Int) + 2) = ((e + 1 + 2 : Nat) : Int) := by rw [wrap64 (by omega) (by omega)]; omega
            have h60 := hp1_does s (e + 1 + 2) 60 hsm
            conv => whnf
            repeat' ((first | with_reducible refine IF.tt ?_ | with_reducible refine IF.ff ?_ | refine NEED.au ?_ | ((with_reducible apply GET.at); rfl) | ((with_reducible apply GETG.at); rfl) | ((with_reducible refine UNK.mk (fun h => ?_) ?_) <;> try (exfalso; omega)) | ((with_reducible refine IF.mk (fun h => ?_) (fun h => ?_)) <;> (try simp (disch := omega) only [hsB, hsC, lnB, wrap64, wrap32, simprocAttr] at h) <;> try (exfalso; omega))) <;> conv => whnf)
            rw [hwf]
            refine CALL.value h60 rfl rfl ?_
            conv => whnf
            refine IF.mk (fun h3 => ?_) (fun h3 => ?_)
            · have h3 : ¬ (e + 1 + 2 < s.length ∧ byteAt s ((e + 1 + 2 : Nat) : Int) = 60) := of_decide_eq_false (notB h3)
              have hT : typeAt t s (e + 1) = .inl ((e + 1 : Nat) + 2, 90) := by unfold typeAt; rw [if_neg h, if_pos h2, if_pos h3]
              rw [hT]
              conv => whnf
              repeat' ((first | with_reducible refine IF.tt ?_ | with_reducible refine IF.ff ?_ | refine DRAWN.of (id := 9) tabOK mixed plNext33 (by kernel_rfl) ?_ | refine DRAWN.of (id := 7) tabOK mixed plNext34 (by kernel_rfl) ?_ | refine DRAWN.of (id := 16) tabOK mixed plNext35 (by kernel_rfl) ?_ | with_reducible refine ADD.mk (fun _ _ => ?_) | with_reducible refine NEED.mk (Det.of rfl) ?_ | refine NEED.mk (det_pos (by omega)) ?_ | with_reducible refine FORK.mk ?_ ?_ | (refine CALL.err (at_does _ _) rfl ?_; conv => whnf) | refine NEED.au ?_ | ((with_reducible apply GET.at); rfl) | ((with_reducible apply GETG.at); rfl) | ((with_reducible refine UNK.mk (fun h => ?_) ?_) <;> try (exfalso; omega)) | ((with_reducible refine IF.mk (fun h => ?_) (fun h => ?_)) <;> (try simp (disch := omega) only [hsB, hsC, lnB, wrap64, wrap32, simprocAttr] at h) <;> try (exfalso; omega))) <;> conv => whnf)
              all_goals
                try rw [hwe]
                try rw [hwf]
                rw [show ((e + 1 + 2 : Nat) : Int) = ((e + 1 : Nat) : Int) + 2 by omega]
                (refine FIN.at h0 [3] (.tup [.agg [.int .i64 0, .str [], .str [], .str []], .int .i64 0, errSV 0]) [(0, errHp (((e + 1 : Nat) : Int) + 2) 90)] rfl rfl rfl (by first | rfl | (simp only [belowO, belowH, plainLL_below _ (plainStrs _), Bool.and_self, Bool.and_true] <;> rfl)) (by repeat' (first | exact trivial | exact (renH_plain _ (h := .rows _ _) (plainStrs _)).symm | (with_reducible rfl) | (exact (renH_plain _ (h := .rows _ _) (plainStrs _)).trans (renH_plain _ (h := .rows _ _) (plainStrs _)).symm) | (exact rows_eq (plainStrs _) (by simp [strRow, ofVal, List.take_of_length_le])) | exact rfl | ((conv => whnf); refine ⟨?_, ?_⟩))) rfl ?_; exact ⟨⟨zeroTm, 0, rfl⟩, rfl, rfl⟩)
            · have h3 : e + 1 + 2 < s.length ∧ byteAt s ((e + 1 + 2 : Nat) : Int) = 60 := of_decide_eq_true (notB2 h3)
              have hni := nextIRI_does s (e + 1 + 2) hs h3.1 h3.2
              have hT : typeAt t s (e + 1) = (match iriAt s (e + 1 + 2) with
                | .inl x => .inl x
                | .inr (y, n) => if y = taggedB then .inl ((e + 1 : Nat), 71) else .inr (⟨3, t, y, []⟩, n)) := by unfold typeAt; rw [if_neg h, if_pos h2, if_neg (fun hh => hh h3)]; try rfl
              conv => whnf
              repeat' ((first | with_reducible refine IF.tt ?_ | with_reducible refine IF.ff ?_ | refine NEED.au ?_ | ((with_reducible apply GET.at); rfl) | ((with_reducible apply GETG.at); rfl) | ((with_reducible refine UNK.mk (fun h => ?_) ?_) <;> try (exfalso; omega)) | ((with_reducible refine IF.mk (fun h => ?_) (fun h => ?_)) <;> (try simp (disch := omega) only [hsB, hsC, lnB, wrap64, wrap32, simprocAttr] at h) <;> try (exfalso; omega))) <;> conv => whnf)
              rw [hwf]
              cases hR : iriAt s (e + 1 + 2) with
              | inl x =>
                rw [hR] at hni hT
                rw [hT]
                refine CALL.termErr hni rfl fun y n => ?_
                conv => whnf
                repeat' ((first | with_reducible refine IF.tt ?_ | with_reducible refine IF.ff ?_ | refine DRAWN.of (id := 9) tabOK mixed plNext30 (by kernel_rfl) ?_ | refine DRAWN.of (id := 7) tabOK mixed plNext34 (by kernel_rfl) ?_ | refine DRAWN.of (id := 16) tabOK mixed plNext32 (by kernel_rfl) ?_ | with_reducible refine ADD.mk (fun _ _ => ?_) | with_reducible refine NEED.mk (Det.of rfl) ?_ | refine NEED.mk (det_pos (by omega)) ?_ | with_reducible refine FORK.mk ?_ ?_ | refine NEED.au ?_ | ((with_reducible apply GET.at); rfl) | ((with_reducible apply GETG.at); rfl) | ((with_reducible refine UNK.mk (fun h => ?_) ?_) <;> try (exfalso; omega)) | ((with_reducible refine IF.mk (fun h => ?_) (fun h => ?_)) <;> (try simp (disch := omega) only [hsB, hsC, lnB, wrap64, wrap32, simprocAttr] at h) <;> try (exfalso; omega))) <;> conv => whnf)
                refine FIN.at h0 [3] (.tup [.agg [.int .i64 3, .str t, .str y.t, .str []], .int .i64 n, errSV 0]) [(0, errHp x.1 x.2)] rfl rfl rfl (by first | rfl | (simp only [belowO, belowH, plainLL_below _ (plainStrs _), Bool.and_self, Bool.and_true] <;> rfl)) (by repeat' (first | exact trivial | exact (renH_plain _ (h := .rows _ _) (plainStrs _)).symm | (with_reducible rfl) | (exact (renH_plain _ (h := .rows _ _) (plainStrs _)).trans (renH_plain _ (h := .rows _ _) (plainStrs _)).symm) | (exact rows_eq (plainStrs _) (by simp [strRow, ofVal, List.take_of_length_le])) | exact rfl | ((conv => whnf); refine ⟨?_, ?_⟩))) rfl ?_
                exact ⟨⟨⟨3, t, y.t, []⟩, n, rfl⟩, rfl, rfl⟩
              | inr x =>
                obtain ⟨y, n⟩ := x
                rw [hR] at hni hT
                refine CALL.termOk hni rfl ?_
                conv => whnf
                repeat' ((first | with_reducible refine IF.tt ?_ | with_reducible refine IF.ff ?_ | refine DRAWN.of (id := 9) tabOK mixed plNext33 (by kernel_rfl) ?_ | refine DRAWN.of (id := 7) tabOK mixed plNext34 (by kernel_rfl) ?_ | refine DRAWN.of (id := 16) tabOK mixed plNext35 (by kernel_rfl) ?_ | with_reducible refine ADD.mk (fun _ _ => ?_) | with_reducible refine NEED.mk (Det.of rfl) ?_ | refine NEED.mk (det_pos (by omega)) ?_ | with_reducible refine FORK.mk ?_ ?_ | (refine CALL.err (at_does _ _) rfl ?_; conv => whnf) | refine NEED.au ?_ | ((with_reducible apply GET.at); rfl) | ((with_reducible apply GETG.at); rfl) | ((with_reducible refine UNK.mk (fun h => ?_) ?_) <;> try (exfalso; omega)) | ((with_reducible refine IF.mk (fun h => ?_) (fun h => ?_)) <;> (try simp (disch := omega) only [hsB, hsC, lnB, wrap64, wrap32, simprocAttr] at h) <;> try (exfalso; omega))) <;> conv => whnf)
                · have hy : y = taggedB := by assumption
                  have hT : typeAt t s (e + 1) = .inl ((e + 1 : Nat), 71) := by rw [hT]; simp only; rw [if_pos hy]
                  rw [hT]
                  refine FIN.at h0 [4] (.tup [.agg [.int .i64 3, .str t, .str y, .str []], .int .i64 n, errSV 0]) [(0, errHp ((e + 1 : Nat) : Int) 71)] rfl rfl rfl (by first | rfl | (simp only [belowO, belowH, plainLL_below _ (plainStrs _), Bool.and_self, Bool.and_true] <;> rfl)) (by repeat' (first | exact trivial | exact (renH_plain _ (h := .rows _ _) (plainStrs _)).symm | (with_reducible rfl) | (exact (renH_plain _ (h := .rows _ _) (plainStrs _)).trans (renH_plain _ (h := .rows _ _) (plainStrs _)).symm) | (exact rows_eq (plainStrs _) (by simp [strRow, ofVal, List.take_of_length_le])) | exact rfl | ((conv => whnf); refine ⟨?_, ?_⟩))) rfl ?_
                  exact ⟨⟨⟨3, t, y, []⟩, n, rfl⟩, rfl, rfl⟩
                · have hy : ¬ y = taggedB := by assumption
                  have hT : typeAt t s (e + 1) = .inr (⟨3, t, y, []⟩, n) := by rw [hT]; simp only; rw [if_neg hy]
                  rw [hT]
                  exact FIN.val h0 rfl ⟨rfl, rfl, rfl⟩
          · have h2 : ¬ (e + 1 + 1 < s.length ∧ byteAt s ((e + 1 : Nat) : Int) = 94 ∧ byteAt s ((e + 1 + 1 : Nat) : Int) = 94) := of_decide_eq_false h2
            have hT : typeAt t s (e + 1) = .inr (⟨3, t, plainB, []⟩, (e + 1 : Nat)) := by unfold typeAt; rw [if_neg h, if_neg h2]
            rw [hT]
            conv => whnf
            repeat' ((first | with_reducible refine IF.tt ?_ | with_reducible refine IF.ff ?_ | refine NEED.au ?_ | ((with_reducible apply GET.at); rfl) | ((with_reducible apply GETG.at); rfl) | ((with_reducible refine UNK.mk (fun h => ?_) ?_) <;> try (exfalso; omega)) | ((with_reducible refine IF.mk (fun h => ?_) (fun h => ?_)) <;> (try simp (disch := omega) only [hsB, hsC, lnB, wrap64, wrap32, simprocAttr] at h) <;> try (exfalso; omega))) <;> conv => whnf)
            exact FIN.val h0 rfl ⟨rfl, rfl, rfl⟩
/-- Next, at any place. -/
def NextQ (u : (Int × Int) ⊕ (Tm × Int)) : SV → Hps → Nat → Prop := fun r O nx => match u with
  | .inl e => if e.1 = -1 then r = .tup [zeroTm.sv, .int .i64 0, .ifc TER (.int .i64 e.2)] ∧ O = [] ∧ nx = 0
    else r = .tup [zeroTm.sv, .int .i64 0, errSV 0] ∧ O = [(0, errHp e.1 e.2)] ∧ nx = 1
  | .inr (t, n) => r = .tup [t.sv, .int .i64 n, .val .nilIface] ∧ O = [] ∧ nx = 0
theorem tnext_does (s : List UInt8) (a : Int) (hs : s.length ≤ 140737488351232) : Does Tryz.prog tab 22 0 [.str s, .int .i64 a] [] [] (NextQ (nextM s a)) := by
  have hsm : Sm s := by omega
  by_cases ha : a < 0 ∨ (s.length : Int) < a
  · have hN : nextM s a = .inl (-1, 90) := by unfold nextM; rw [if_pos ha]
    rw [hN]
    refine Does.enter tabOK (g := 22) (fn := Tryz.f22) Tryz.call22 Tryz.func22 rfl 48 rfl rfl [.cell 4 24, .tmp 5, .tmp 6] rfl ?_
    intro w0 F η0 h0
    conv => whnf
    repeat' ((first | with_reducible refine IF.tt ?_ | with_reducible refine IF.ff ?_ | refine NEED.au ?_ | ((with_reducible apply GET.at); rfl) | ((with_reducible apply GETG.at); rfl) | ((with_reducible refine UNK.mk (fun h => ?_) ?_) <;> try (exfalso; omega)) | ((with_reducible refine IF.mk (fun h => ?_) (fun h => ?_)) <;> (try simp (disch := omega) only [hsB, hsC, lnB, wrap64, wrap32, simprocAttr] at h) <;> try (exfalso; omega))) <;> conv => whnf)
    · exact FIN.val h0 rfl ⟨rfl, rfl, rfl⟩
  · obtain ⟨i, rfl⟩ : ∃ i : Nat, a = i := ⟨a.toNat, by omega⟩
    have hi : i ≤ s.length := by omega
    have hN : nextM s (i : Int) = nextN s i := by unfold nextM; rw [if_neg ha, Int.toNat_natCast]
    have hpl := nextN_place s i
    rw [hN]
    have hnt : ∀ k : Int × Int, k = ((i : Int), 90) → Does Tryz.prog tab 39 0 [.str s, .int .i64 (i : Int)] [] [] (TermQ (.inl k)) := by
      rintro k rfl
      exact (nothing_does s i).mono fun r O nx ⟨h1, h2, h3⟩ => ⟨⟨zeroTm, 0, h1⟩, h2, h3⟩
    rcases Nat.lt_or_ge i s.length with hlt | hge
    · have hb := byteAt_lt s i
      have hir := nextIRI_does s i hs hlt
      have hbl := nextBlank_does s i hs hlt
      have hli := nextLiteral_does s i hs hlt
      by_cases h60 : byteAt s i = 60
      · have hX : nextN s i = iriTm (iriAt s i) := by unfold nextN; rw [if_neg (by omega), if_pos h60]
        have hir := hir h60
        rw [← hX] at hir
        clear hbl hli hnt hX
        cases hR : nextN s i with
        | inl e =>
          rw [hR] at hir
          have hne : ¬ e.1 = -1 := by have := hpl e hR; omega
          refine Does.enter tabOK (g := 22) (fn := Tryz.f22) Tryz.call22 Tryz.func22 rfl 48 rfl rfl [.cell 4 24, .tmp 5, .tmp 6] rfl ?_
          intro w0 F η0 h0
          conv => whnf
          repeat' ((first | with_reducible refine IF.tt ?_ | with_reducible refine IF.ff ?_ | refine NEED.au ?_ | ((with_reducible apply GET.at); rfl) | ((with_reducible apply GETG.at); rfl) | ((with_reducible refine UNK.mk (fun h => ?_) ?_) <;> try (exfalso; omega)) | ((with_reducible refine IF.mk (fun h => ?_) (fun h => ?_)) <;> (try simp (disch := omega) only [hsB, hsC, lnB, wrap64, wrap32, simprocAttr] at h) <;> try (exfalso; omega))) <;> conv => whnf)
          all_goals
            refine CALL.termErr hir rfl fun y n => ?_
            conv => whnf
            repeat' ((first | with_reducible refine IF.tt ?_ | with_reducible refine IF.ff ?_ | refine NEED.au ?_ | ((with_reducible apply GET.at); rfl) | ((with_reducible apply GETG.at); rfl) | ((with_reducible refine UNK.mk (fun h => ?_) ?_) <;> try (exfalso; omega)) | ((with_reducible refine IF.mk (fun h => ?_) (fun h => ?_)) <;> (try simp (disch := omega) only [hsB, hsC, lnB, wrap64, wrap32, simprocAttr] at h) <;> try (exfalso; omega))) <;> conv => whnf)
            refine FIN.at h0 [1] (.tup [.agg [.int .i64 0, .str [], .str [], .str []], .int .i64 0, errSV 0]) [(0, errHp e.1 e.2)] rfl rfl rfl (by first | rfl | (simp only [belowO, belowH, plainLL_below _ (plainStrs _), Bool.and_self, Bool.and_true] <;> rfl)) (by repeat' (first | exact trivial | exact (renH_plain _ (h := .rows _ _) (plainStrs _)).symm | (with_reducible rfl) | (exact (renH_plain _ (h := .rows _ _) (plainStrs _)).trans (renH_plain _ (h := .rows _ _) (plainStrs _)).symm) | (exact rows_eq (plainStrs _) (by simp [strRow, ofVal, List.take_of_length_le])) | exact rfl | ((conv => whnf); refine ⟨?_, ?_⟩))) rfl ?_
            unfold NextQ
            show if e.1 = -1 then _ else _
            rw [if_neg hne]
            exact ⟨rfl, rfl, rfl⟩
        | inr x =>
          obtain ⟨t, n⟩ := x
          rw [hR] at hir
          refine Does.enter tabOK (g := 22) (fn := Tryz.f22) Tryz.call22 Tryz.func22 rfl 48 rfl rfl [.cell 4 24, .tmp 5, .tmp 6] rfl ?_
          intro w0 F η0 h0
          conv => whnf
          repeat' ((first | with_reducible refine IF.tt ?_ | with_reducible refine IF.ff ?_ | refine NEED.au ?_ | ((with_reducible apply GET.at); rfl) | ((with_reducible apply GETG.at); rfl) | ((with_reducible refine UNK.mk (fun h => ?_) ?_) <;> try (exfalso; omega)) | ((with_reducible refine IF.mk (fun h => ?_) (fun h => ?_)) <;> (try simp (disch := omega) only [hsB, hsC, lnB, wrap64, wrap32, simprocAttr] at h) <;> try (exfalso; omega))) <;> conv => whnf)
          all_goals
            refine CALL.termOk hir rfl ?_
            conv => whnf
            repeat' ((first | with_reducible refine IF.tt ?_ | with_reducible refine IF.ff ?_ | refine NEED.au ?_ | ((with_reducible apply GET.at); rfl) | ((with_reducible apply GETG.at); rfl) | ((with_reducible refine UNK.mk (fun h => ?_) ?_) <;> try (exfalso; omega)) | ((with_reducible refine IF.mk (fun h => ?_) (fun h => ?_)) <;> (try simp (disch := omega) only [hsB, hsC, lnB, wrap64, wrap32, simprocAttr] at h) <;> try (exfalso; omega))) <;> conv => whnf)
            exact FIN.val h0 rfl ⟨rfl, rfl, rfl⟩
      by_cases h95 : byteAt s i = 95
      · have hX : nextN s i = blankAt s i := by unfold nextN; rw [if_neg (by omega), if_neg h60, if_pos h95]
        rw [← hX] at hbl
        clear hir hli hnt hX
        cases hR : nextN s i with
        | inl e =>
          rw [hR] at hbl
          have hne : ¬ e.1 = -1 := by have := hpl e hR; omega
          refine Does.enter tabOK (g := 22) (fn := Tryz.f22) Tryz.call22 Tryz.func22 rfl 48 rfl rfl [.cell 4 24, .tmp 5, .tmp 6] rfl ?_
          intro w0 F η0 h0
          conv => whnf
          repeat' ((first | with_reducible refine IF.tt ?_ | with_reducible refine IF.ff ?_ | refine NEED.au ?_ | ((with_reducible apply GET.at); rfl) | ((with_reducible apply GETG.at); rfl) | ((with_reducible refine UNK.mk (fun h => ?_) ?_) <;> try (exfalso; omega)) | ((with_reducible refine IF.mk (fun h => ?_) (fun h => ?_)) <;> (try simp (disch := omega) only [hsB, hsC, lnB, wrap64, wrap32, simprocAttr] at h) <;> try (exfalso; omega))) <;> conv => whnf)
          all_goals
            refine CALL.termErr hbl rfl fun y n => ?_
            conv => whnf
            repeat' ((first | with_reducible refine IF.tt ?_ | with_reducible refine IF.ff ?_ | refine NEED.au ?_ | ((with_reducible apply GET.at); rfl) | ((with_reducible apply GETG.at); rfl) | ((with_reducible refine UNK.mk (fun h => ?_) ?_) <;> try (exfalso; omega)) | ((with_reducible refine IF.mk (fun h => ?_) (fun h => ?_)) <;> (try simp (disch := omega) only [hsB, hsC, lnB, wrap64, wrap32, simprocAttr] at h) <;> try (exfalso; omega))) <;> conv => whnf)
            refine FIN.at h0 [1] (.tup [.agg [.int .i64 0, .str [], .str [], .str []], .int .i64 0, errSV 0]) [(0, errHp e.1 e.2)] rfl rfl rfl (by first | rfl | (simp only [belowO, belowH, plainLL_below _ (plainStrs _), Bool.and_self, Bool.and_true] <;> rfl)) (by repeat' (first | exact trivial | exact (renH_plain _ (h := .rows _ _) (plainStrs _)).symm | (with_reducible rfl) | (exact (renH_plain _ (h := .rows _ _) (plainStrs _)).trans (renH_plain _ (h := .rows _ _) (plainStrs _)).symm) | (exact rows_eq (plainStrs _) (by simp [strRow, ofVal, List.take_of_length_le])) | exact rfl | ((conv => whnf); refine ⟨?_, ?_⟩))) rfl ?_
            unfold NextQ
            show if e.1 = -1 then _ else _
            rw [if_neg hne]
            exact ⟨rfl, rfl, rfl⟩
        | inr x =>
          obtain ⟨t, n⟩ := x
          rw [hR] at hbl
          refine Does.enter tabOK (g := 22) (fn := Tryz.f22) Tryz.call22 Tryz.func22 rfl 48 rfl rfl [.cell 4 24, .tmp 5, .tmp 6] rfl ?_
          intro w0 F η0 h0
          conv => whnf
          repeat' ((first | with_reducible refine IF.tt ?_ | with_reducible refine IF.ff ?_ | refine NEED.au ?_ | ((with_reducible apply GET.at); rfl) | ((with_reducible apply GETG.at); rfl) | ((with_reducible refine UNK.mk (fun h => ?_) ?_) <;> try (exfalso; omega)) | ((with_reducible refine IF.mk (fun h => ?_) (fun h => ?_)) <;> (try simp (disch := omega) only [hsB, hsC, lnB, wrap64, wrap32, simprocAttr] at h) <;> try (exfalso; omega))) <;> conv => whnf)
          all_goals
            refine CALL.termOk hbl rfl ?_
            conv => whnf
            repeat' ((first | with_reducible refine IF.tt ?_ | with_reducible refine IF.ff ?_ | refine NEED.au ?_ | ((with_reducible apply GET.at); rfl) | ((with_reducible apply GETG.at); rfl) | ((with_reducible refine UNK.mk (fun h => ?_) ?_) <;> try (exfalso; omega)) | ((with_reducible refine IF.mk (fun h => ?_) (fun h => ?_)) <;> (try simp (disch := omega) only [hsB, hsC, lnB, wrap64, wrap32, simprocAttr] at h) <;> try (exfalso; omega))) <;> conv => whnf)
            exact FIN.val h0 rfl ⟨rfl, rfl, rfl⟩
      by_cases h34 : byteAt s i = 34
      · have hX : nextN s i = litAt s i := by unfold nextN; rw [if_neg (by omega), if_neg h60, if_neg h95, if_pos h34]
        rw [← hX] at hli
        clear hir hbl hnt hX
        cases hR : nextN s i with
        | inl e =>
          rw [hR] at hli
          have hne : ¬ e.1 = -1 := by have := hpl e hR; omega
          refine Does.enter tabOK (g := 22) (fn := Tryz.f22) Tryz.call22 Tryz.func22 rfl 48 rfl rfl [.cell 4 24, .tmp 5, .tmp 6] rfl ?_
          intro w0 F η0 h0
          conv => whnf
          repeat' ((first | with_reducible refine IF.tt ?_ | with_reducible refine IF.ff ?_ | refine NEED.au ?_ | ((with_reducible apply GET.at); rfl) | ((with_reducible apply GETG.at); rfl) | ((with_reducible refine UNK.mk (fun h => ?_) ?_) <;> try (exfalso; omega)) | ((with_reducible refine IF.mk (fun h => ?_) (fun h => ?_)) <;> (try simp (disch := omega) only [hsB, hsC, lnB, wrap64, wrap32, simprocAttr] at h) <;> try (exfalso; omega))) <;> conv => whnf)
          all_goals
            refine CALL.termErr hli rfl fun y n => ?_
            conv => whnf
            repeat' ((first | with_reducible refine IF.tt ?_ | with_reducible refine IF.ff ?_ | refine NEED.au ?_ | ((with_reducible apply GET.at); rfl) | ((with_reducible apply GETG.at); rfl) | ((with_reducible refine UNK.mk (fun h => ?_) ?_) <;> try (exfalso; omega)) | ((with_reducible refine IF.mk (fun h => ?_) (fun h => ?_)) <;> (try simp (disch := omega) only [hsB, hsC, lnB, wrap64, wrap32, simprocAttr] at h) <;> try (exfalso; omega))) <;> conv => whnf)
            refine FIN.at h0 [1] (.tup [.agg [.int .i64 0, .str [], .str [], .str []], .int .i64 0, errSV 0]) [(0, errHp e.1 e.2)] rfl rfl rfl (by first | rfl | (simp only [belowO, belowH, plainLL_below _ (plainStrs _), Bool.and_self, Bool.and_true] <;> rfl)) (by repeat' (first | exact trivial | exact (renH_plain _ (h := .rows _ _) (plainStrs _)).symm | (with_reducible rfl) | (exact (renH_plain _ (h := .rows _ _) (plainStrs _)).trans (renH_plain _ (h := .rows _ _) (plainStrs _)).symm) | (exact rows_eq (plainStrs _) (by simp [strRow, ofVal, List.take_of_length_le])) | exact rfl | ((conv => whnf); refine ⟨?_, ?_⟩))) rfl ?_
            unfold NextQ
            show if e.1 = -1 then _ else _
            rw [if_neg hne]
            exact ⟨rfl, rfl, rfl⟩
        | inr x =>
          obtain ⟨t, n⟩ := x
          rw [hR] at hli
          refine Does.enter tabOK (g := 22) (fn := Tryz.f22) Tryz.call22 Tryz.func22 rfl 48 rfl rfl [.cell 4 24, .tmp 5, .tmp 6] rfl ?_
          intro w0 F η0 h0
          conv => whnf
          repeat' ((first | with_reducible refine IF.tt ?_ | with_reducible refine IF.ff ?_ | refine NEED.au ?_ | ((with_reducible apply GET.at); rfl) | ((with_reducible apply GETG.at); rfl) | ((with_reducible refine UNK.mk (fun h => ?_) ?_) <;> try (exfalso; omega)) | ((with_reducible refine IF.mk (fun h => ?_) (fun h => ?_)) <;> (try simp (disch := omega) only [hsB, hsC, lnB, wrap64, wrap32, simprocAttr] at h) <;> try (exfalso; omega))) <;> conv => whnf)
          all_goals
            refine CALL.termOk hli rfl ?_
            conv => whnf
            repeat' ((first | with_reducible refine IF.tt ?_ | with_reducible refine IF.ff ?_ | refine NEED.au ?_ | ((with_reducible apply GET.at); rfl) | ((with_reducible apply GETG.at); rfl) | ((with_reducible refine UNK.mk (fun h => ?_) ?_) <;> try (exfalso; omega)) | ((with_reducible refine IF.mk (fun h => ?_) (fun h => ?_)) <;> (try simp (disch := omega) only [hsB, hsC, lnB, wrap64, wrap32, simprocAttr] at h) <;> try (exfalso; omega))) <;> conv => whnf)
            exact FIN.val h0 rfl ⟨rfl, rfl, rfl⟩
      · have hX : nextN s i = .inl (i, 90) := by unfold nextN; rw [if_neg (by omega), if_neg h60, if_neg h95, if_neg h34]
        have hn := hnt _ rfl
        rw [← hX] at hn
        clear hir hbl hli hnt
        cases hR : nextN s i with
        | inl e =>
          rw [hR] at hn
          have hne : ¬ e.1 = -1 := by have := hpl e hR; omega
          refine Does.enter tabOK (g := 22) (fn := Tryz.f22) Tryz.call22 Tryz.func22 rfl 48 rfl rfl [.cell 4 24, .tmp 5, .tmp 6] rfl ?_
          intro w0 F η0 h0
          conv => whnf
          repeat' ((first | with_reducible refine IF.tt ?_ | with_reducible refine IF.ff ?_ | refine NEED.au ?_ | ((with_reducible apply GET.at); rfl) | ((with_reducible apply GETG.at); rfl) | ((with_reducible refine UNK.mk (fun h => ?_) ?_) <;> try (exfalso; omega)) | ((with_reducible refine IF.mk (fun h => ?_) (fun h => ?_)) <;> (try simp (disch := omega) only [hsB, hsC, lnB, wrap64, wrap32, simprocAttr] at h) <;> try (exfalso; omega))) <;> conv => whnf)
          all_goals
            refine CALL.termErr hn rfl fun y n => ?_
            conv => whnf
            repeat' ((first | with_reducible refine IF.tt ?_ | with_reducible refine IF.ff ?_ | refine NEED.au ?_ | ((with_reducible apply GET.at); rfl) | ((with_reducible apply GETG.at); rfl) | ((with_reducible refine UNK.mk (fun h => ?_) ?_) <;> try (exfalso; omega)) | ((with_reducible refine IF.mk (fun h => ?_) (fun h => ?_)) <;> (try simp (disch := omega) only [hsB, hsC, lnB, wrap64, wrap32, simprocAttr] at h) <;> try (exfalso; omega))) <;> conv => whnf)
            refine FIN.at h0 [1] (.tup [.agg [.int .i64 0, .str [], .str [], .str []], .int .i64 0, errSV 0]) [(0, errHp e.1 e.2)] rfl rfl rfl (by first | rfl | (simp only [belowO, belowH, plainLL_below _ (plainStrs _), Bool.and_self, Bool.and_true] <;> rfl)) (by repeat' (first | exact trivial | exact (renH_plain _ (h := .rows _ _) (plainStrs _)).symm | (with_reducible rfl) | (exact (renH_plain _ (h := .rows _ _) (plainStrs _)).trans (renH_plain _ (h := .rows _ _) (plainStrs _)).symm) | (exact rows_eq (plainStrs _) (by simp [strRow, ofVal, List.take_of_length_le])) | exact rfl | ((conv => whnf); refine ⟨?_, ?_⟩))) rfl ?_
            unfold NextQ
            show if e.1 = -1 then _ else _
            rw [if_neg hne]
            exact ⟨rfl, rfl, rfl⟩
        | inr x =>
          obtain ⟨t, n⟩ := x
          rw [hR] at hn
          refine Does.enter tabOK (g := 22) (fn := Tryz.f22) Tryz.call22 Tryz.func22 rfl 48 rfl rfl [.cell 4 24, .tmp 5, .tmp 6] rfl ?_
          intro w0 F η0 h0
          conv => whnf
          repeat' ((first | with_reducible refine IF.tt ?_ | with_reducible refine IF.ff ?_ | refine NEED.au ?_ | ((with_reducible apply GET.at); rfl) | ((with_reducible apply GETG.at); rfl) | ((with_reducible refine UNK.mk (fun h => ?_) ?_) <;> try (exfalso; omega)) | ((with_reducible refine IF.mk (fun h => ?_) (fun h => ?_)) <;> (try simp (disch := omega) only [hsB, hsC, lnB, wrap64, wrap32, simprocAttr] at h) <;> try (exfalso; omega))) <;> conv => whnf)
          all_goals
            refine CALL.termOk hn rfl ?_
            conv => whnf
            repeat' ((first | with_reducible refine IF.tt ?_ | with_reducible refine IF.ff ?_ | refine NEED.au ?_ | ((with_reducible apply GET.at); rfl) | ((with_reducible apply GETG.at); rfl) | ((with_reducible refine UNK.mk (fun h => ?_) ?_) <;> try (exfalso; omega)) | ((with_reducible refine IF.mk (fun h => ?_) (fun h => ?_)) <;> (try simp (disch := omega) only [hsB, hsC, lnB, wrap64, wrap32, simprocAttr] at h) <;> try (exfalso; omega))) <;> conv => whnf)
            exact FIN.val h0 rfl ⟨rfl, rfl, rfl⟩
    · have hX : nextN s i = .inl (i, 90) := by unfold nextN; rw [if_pos hge]
      have hn := hnt _ rfl
      rw [← hX] at hn
      clear hnt
      cases hR : nextN s i with
      | inl e =>
        rw [hR] at hn
        have hne : ¬ e.1 = -1 := by have := hpl e hR; omega
        refine Does.enter tabOK (g := 22) (fn := Tryz.f22) Tryz.call22 Tryz.func22 rfl 48 rfl rfl [.cell 4 24, .tmp 5, .tmp 6] rfl ?_
        intro w0 F η0 h0
        conv => whnf
        repeat' ((first | with_reducible refine IF.tt ?_ | with_reducible refine IF.ff ?_ | refine NEED.au ?_ | ((with_reducible apply GET.at); rfl) | ((with_reducible apply GETG.at); rfl) | ((with_reducible refine UNK.mk (fun h => ?_) ?_) <;> try (exfalso; omega)) | ((with_reducible refine IF.mk (fun h => ?_) (fun h => ?_)) <;> (try simp (disch := omega) only [hsB, hsC, lnB, wrap64, wrap32, simprocAttr] at h) <;> try (exfalso; omega))) <;> conv => whnf)
        all_goals
          refine CALL.termErr hn rfl fun y n => ?_
          conv => whnf
          repeat' ((first | with_reducible refine IF.tt ?_ | with_reducible refine IF.ff ?_ | refine NEED.au ?_ | ((with_reducible apply GET.at); rfl) | ((with_reducible apply GETG.at); rfl) | ((with_reducible refine UNK.mk (fun h => ?_) ?_) <;> try (exfalso; omega)) | ((with_reducible refine IF.mk (fun h => ?_) (fun h => ?_)) <;> (try simp (disch := omega) only [hsB, hsC, lnB, wrap64, wrap32, simprocAttr] at h) <;> try (exfalso; omega))) <;> conv => whnf)
          refine FIN.at h0 [1] (.tup [.agg [.int .i64 0, .str [], .str [], .str []], .int .i64 0, errSV 0]) [(0, errHp e.1 e.2)] rfl rfl rfl (by first | rfl | (simp only [belowO, belowH, plainLL_below _ (plainStrs _), Bool.and_self, Bool.and_true] <;> rfl)) (by repeat' (first | exact trivial | exact (renH_plain _ (h := .rows _ _) (plainStrs _)).symm | (with_reducible rfl) | (exact (renH_plain _ (h := .rows _ _) (plainStrs _)).trans (renH_plain _ (h := .rows _ _) (plainStrs _)).symm) | (exact rows_eq (plainStrs _) (by simp [strRow, ofVal, List.take_of_length_le])) | exact rfl | ((conv => whnf); refine ⟨?_, ?_⟩))) rfl ?_
          unfold NextQ
          show if e.1 = -1 then _ else _
          rw [if_neg hne]
          exact ⟨rfl, rfl, rfl⟩
      | inr x =>
        obtain ⟨t, n⟩ := x
        rw [hR] at hn
        refine Does.enter tabOK (g := 22) (fn := Tryz.f22) Tryz.call22 Tryz.func22 rfl 48 rfl rfl [.cell 4 24, .tmp 5, .tmp 6] rfl ?_
        intro w0 F η0 h0
        conv => whnf
        repeat' ((first | with_reducible refine IF.tt ?_ | with_reducible refine IF.ff ?_ | refine NEED.au ?_ | ((with_reducible apply GET.at); rfl) | ((with_reducible apply GETG.at); rfl) | ((with_reducible refine UNK.mk (fun h => ?_) ?_) <;> try (exfalso; omega)) | ((with_reducible refine IF.mk (fun h => ?_) (fun h => ?_)) <;> (try simp (disch := omega) only [hsB, hsC, lnB, wrap64, wrap32, simprocAttr] at h) <;> try (exfalso; omega))) <;> conv => whnf)
        all_goals
          refine CALL.termOk hn rfl ?_
          conv => whnf
          repeat' ((first | with_reducible refine IF.tt ?_ | with_reducible refine IF.ff ?_ | refine NEED.au ?_ | ((with_reducible apply GET.at); rfl) | ((with_reducible apply GETG.at); rfl) | ((with_reducible refine UNK.mk (fun h => ?_) ?_) <;> try (exfalso; omega)) | ((with_reducible refine IF.mk (fun h => ?_) (fun h => ?_)) <;> (try simp (disch := omega) only [hsB, hsC, lnB, wrap64, wrap32, simprocAttr] at h) <;> try (exfalso; omega))) <;> conv => whnf)
          exact FIN.val h0 rfl ⟨rfl, rfl, rfl⟩
theorem parse_does (s : List UInt8) (hs : s.length ≤ 140737488351232) : Does Tryz.prog tab 13 0 [.str s] [] [] (fun r O nx => match parseM s with
    | .inl e => r = .tup [zeroTm.sv, errSV 0] ∧ O = [(0, errHp e.1 e.2)] ∧ nx = 1
    | .inr t => r = .tup [t.sv, .val .nilIface] ∧ O = [] ∧ nx = 0) := by
  have hpl := nextN_place s 0
  have hN : nextM s 0 = nextN s 0 := by unfold nextM; rw [if_neg (by omega)]; try rfl
  have hnx := tnext_does s 0 hs
  rw [hN] at hnx
  cases hX : nextN s 0 with
  | inl e =>
    rw [hX] at hnx
    have hP : parseM s = .inl e := by unfold parseM; rw [hX]
    have hne : ¬ e.1 = -1 := by have := hpl e hX; omega
    have hnx : Does Tryz.prog tab 22 0 [.str s, .int .i64 0] [] [] (NewErrT [zeroTm.sv, .int .i64 0] e.1 e.2) := by
      unfold NextQ at hnx
      simp only [hne, if_false] at hnx
      exact hnx
    rw [hP]
    refine Does.enter tabOK (g := 13) (fn := Tryz.f13) Tryz.call13 Tryz.func13 rfl 28 rfl rfl [.cell 2 24, .tmp 3] rfl ?_
    intro w0 F η0 h0
    conv => whnf
    refine CALL.errT _ hnx rfl rfl ?_
    conv => whnf
    repeat' ((first | with_reducible refine IF.tt ?_ | with_reducible refine IF.ff ?_ | with_reducible refine ADD.mk (fun _ _ => ?_) | with_reducible refine NEED.mk (Det.of rfl) ?_ | refine NEED.mk (det_pos (by omega)) ?_ | with_reducible refine FORK.mk ?_ ?_ | refine NEED.au ?_ | ((with_reducible apply GET.at); rfl) | ((with_reducible apply GETG.at); rfl) | ((with_reducible refine UNK.mk (fun h => ?_) ?_) <;> try (exfalso; omega)) | ((with_reducible refine IF.mk (fun h => ?_) (fun h => ?_)) <;> (try simp (disch := omega) only [hsB, hsC, lnB, wrap64, wrap32, simprocAttr] at h) <;> try (exfalso; omega))) <;> conv => whnf)
    refine FIN.at h0 [1] (.tup [.agg [.int .i64 0, .str [], .str [], .str []], errSV 0]) [(0, errHp e.1 e.2)] rfl rfl rfl (by first | rfl | (simp only [belowO, belowH, plainLL_below _ (plainStrs _), Bool.and_self, Bool.and_true] <;> rfl)) (by repeat' (first | exact trivial | exact (renH_plain _ (h := .rows _ _) (plainStrs _)).symm | (with_reducible rfl) | (exact (renH_plain _ (h := .rows _ _) (plainStrs _)).trans (renH_plain _ (h := .rows _ _) (plainStrs _)).symm) | (exact rows_eq (plainStrs _) (by simp [strRow, ofVal, List.take_of_length_le])) | exact rfl | ((conv => whnf); refine ⟨?_, ?_⟩))) rfl ?_
    exact ⟨rfl, rfl, rfl⟩
  | inr x =>
    obtain ⟨t, n⟩ := x
    rw [hX] at hnx
    have hnx : Does Tryz.prog tab 22 0 [.str s, .int .i64 0] [] [] (Val (.tup [t.sv, .int .i64 n, .val .nilIface])) := hnx
    by_cases hn : n < s.length
    · have hP : parseM s = .inl (n, 90) := by unfold parseM; rw [hX]; simp only; rw [if_pos hn]
      rw [hP]
      refine Does.enter tabOK (g := 13) (fn := Tryz.f13) Tryz.call13 Tryz.func13 rfl 28 rfl rfl [.cell 2 24, .tmp 3] rfl ?_
      intro w0 F η0 h0
      conv => whnf
      repeat' ((first | with_reducible refine IF.tt ?_ | with_reducible refine IF.ff ?_ | with_reducible refine ADD.mk (fun _ _ => ?_) | with_reducible refine NEED.mk (Det.of rfl) ?_ | refine NEED.mk (det_pos (by omega)) ?_ | with_reducible refine FORK.mk ?_ ?_ | refine CALL.value (hnx) rfl rfl ?_ | (refine CALL.err (at_does _ _) rfl ?_; conv => whnf) | refine NEED.au ?_ | ((with_reducible apply GET.at); rfl) | ((with_reducible apply GETG.at); rfl) | ((with_reducible refine UNK.mk (fun h => ?_) ?_) <;> try (exfalso; omega)) | ((with_reducible refine IF.mk (fun h => ?_) (fun h => ?_)) <;> (try simp (disch := omega) only [hsB, hsC, lnB, wrap64, wrap32, simprocAttr] at h) <;> try (exfalso; omega))) <;> conv => whnf)
      refine FIN.at h0 [2] (.tup [.agg [.int .i64 0, .str [], .str [], .str []], errSV 0]) [(0, errHp n 90)] rfl rfl rfl (by first | rfl | (simp only [belowO, belowH, plainLL_below _ (plainStrs _), Bool.and_self, Bool.and_true] <;> rfl)) (by repeat' (first | exact trivial | exact (renH_plain _ (h := .rows _ _) (plainStrs _)).symm | (with_reducible rfl) | (exact (renH_plain _ (h := .rows _ _) (plainStrs _)).trans (renH_plain _ (h := .rows _ _) (plainStrs _)).symm) | (exact rows_eq (plainStrs _) (by simp [strRow, ofVal, List.take_of_length_le])) | exact rfl | ((conv => whnf); refine ⟨?_, ?_⟩))) rfl ?_
      exact ⟨rfl, rfl, rfl⟩
    · have hP : parseM s = .inr t := by unfold parseM; rw [hX]; simp only; rw [if_neg hn]
      rw [hP]
      refine Does.enter tabOK (g := 13) (fn := Tryz.f13) Tryz.call13 Tryz.func13 rfl 28 rfl rfl [.cell 2 24, .tmp 3] rfl ?_
      intro w0 F η0 h0
      conv => whnf
      repeat' ((first | with_reducible refine IF.tt ?_ | with_reducible refine IF.ff ?_ | with_reducible refine ADD.mk (fun _ _ => ?_) | with_reducible refine NEED.mk (Det.of rfl) ?_ | refine NEED.mk (det_pos (by omega)) ?_ | with_reducible refine FORK.mk ?_ ?_ | refine CALL.value (hnx) rfl rfl ?_ | refine NEED.au ?_ | ((with_reducible apply GET.at); rfl) | ((with_reducible apply GETG.at); rfl) | ((with_reducible refine UNK.mk (fun h => ?_) ?_) <;> try (exfalso; omega)) | ((with_reducible refine IF.mk (fun h => ?_) (fun h => ?_)) <;> (try simp (disch := omega) only [hsB, hsC, lnB, wrap64, wrap32, simprocAttr] at h) <;> try (exfalso; omega))) <;> conv => whnf)
      exact FIN.val h0 rfl ⟨rfl, rfl, rfl⟩
end Go.Proofs.YtillkgjdbnjnoaaGreatDoor
/- term.Text and the reference's, walked. Conditions: none. -/
set_option linter.unusedVariables false
set_option linter.unusedSimpArgs false
set_option maxRecDepth 20000
set_option maxHeartbeats 8000000
namespace Go.Proofs.YtillkgjdbnjnoaaGreatDoor
open Go.Sx Go.Our
theorem angM_len (s : List UInt8) : (angM s).length ≤ 6 * s.length + 2 := by
  have := escM_len 2 s
  unfold angM; simp; omega
theorem angled_does (s : List UInt8) (hs : s.length ≤ 65536) (hc : chk s 0 < 0) : Does Tryz.prog tab 20 0 [.str s] [] [] (Val (.str (angM s))) := by
  have hl := escM_len 2 s
  refine Does.enter tabOK (g := 20) (fn := Tryz.f20) Tryz.call20 Tryz.func20 rfl 13 rfl rfl [.tmp 2] rfl ?_
  intro w0 F η0 h0
  conv => whnf
  repeat' ((first | with_reducible refine IF.tt ?_ | with_reducible refine IF.ff ?_ | refine CALL.value (escape_does s 2 (by omega) hc) rfl rfl ?_ | refine NEED.au ?_ | ((with_reducible apply GET.at); rfl) | ((with_reducible apply GETG.at); rfl) | ((with_reducible refine UNK.mk (fun h => ?_) ?_) <;> try (exfalso; omega)) | ((with_reducible refine IF.mk (fun h => ?_) (fun h => ?_)) <;> (try simp (disch := omega) only [hsB, hsC, lnB, wrap64, wrap32, simprocAttr] at h) <;> try (exfalso; omega))) <;> conv => whnf)
  exact FIN.value h0 rfl rfl
theorem text_does (x : Tm) (hx : TmSm x) : Does Tryz.prog tab 12 0 [.agg [.int .i64 x.k, .str x.t, .str x.y, .str x.l]] [] [] (Val (.tup [.str (textM x), .int .i64 (checkM x)])) := by
  have hck := @check_text x
  have hck0 := @check_kind x
  have hre := @refM_ok x.y
  have hl1 := escM_len 1 x.t
  have hl2 := angM_len x.y
  refine Does.enter tabOK (g := 12) (fn := Tryz.f12) Tryz.call12 Tryz.func12 rfl 53 rfl rfl [.tmp 2, .tmp 3] rfl ?_
  intro w0 F η0 h0
  conv => whnf
  repeat' ((first | with_reducible refine IF.tt ?_ | with_reducible refine IF.ff ?_ | refine CALL.value (tcheck_does x hx) rfl rfl ?_ | refine CALL.value (angled_does x.t (by have := hck (by assumption); omega) ((hck (by assumption)).2.1 (by omega))) rfl rfl ?_ | refine CALL.value (escape_does x.t 1 (by have := hck (by assumption); omega) ((hck (by assumption)).2.1 (by omega))) rfl rfl ?_ | refine CALL.value (angled_does x.y (hre ((hck (by assumption)).2.2 (by have := hck0 (by assumption); omega)).1).1 (hre ((hck (by assumption)).2.2 (by have := hck0 (by assumption); omega)).1).2) rfl rfl ?_ | (refine NEED.mk (by have h3 := hre ((hck (by assumption)).2.2 (by have := hck0 (by assumption); omega)).1; simp; omega) ?_; conv => whnf) | refine NEED.au ?_ | ((with_reducible apply GET.at); rfl) | ((with_reducible apply GETG.at); rfl) | ((with_reducible refine UNK.mk (fun h => ?_) ?_) <;> try (exfalso; omega)) | ((with_reducible refine IF.mk (fun h => ?_) (fun h => ?_)) <;> (try simp (disch := omega) only [hsB, hsC, lnB, wrap64, wrap32, simprocAttr] at h) <;> try (exfalso; omega))) <;> conv => whnf)
  all_goals
    refine FIN.value h0 rfl ?_
    unfold textM
    try simp (disch := first | assumption | omega) only [↓if_pos, ↓if_neg]
    try first
      | rfl
      | (have h9 : checkM x = 0 := by assumption
         simp_all [plainB])
end Go.Proofs.YtillkgjdbnjnoaaGreatDoor
/- Chapter 7's example: a literal with a language, there and back; walked. Conditions: none. -/
set_option linter.unusedVariables false
set_option linter.unusedSimpArgs false
set_option maxRecDepth 20000
set_option maxHeartbeats 8000000
namespace Go.Proofs.YtillkgjdbnjnoaaGreatDoor
open Go.Sx Go.Our
def awakeTm : Tm := ⟨3, [97, 34, 98], taggedB, [101, 110]⟩
theorem awake_check : checkM awakeTm = 0 := by decide +kernel
theorem awake_text : textM awakeTm = [34, 97, 92, 34, 98, 34, 64, 101, 110] := by decide +kernel
theorem awake_parse : parseM [34, 97, 92, 117, 48, 48, 50, 50, 98, 34, 64, 69, 78] = .inr awakeTm := by decide +kernel
theorem parseOk_does {s : List UInt8} {x : Tm} (hs : s.length ≤ 140737488351232) (h : parseM s = .inr x) : Does Tryz.prog tab 13 0 [.str s] [] [] (Val (.tup [x.sv, .val .nilIface])) := by
  have := parse_does s hs
  rw [h] at this; exact this
theorem awake_does : Does Tryz.prog tab 4 0 [] [] [] (Val (.bool true)) := by
  have ht := text_does awakeTm ⟨by decide, by decide, by decide⟩
  have hp := parseOk_does (by decide) awake_parse
  rw [awake_check, awake_text] at ht
  unfold awakeTm taggedB at ht
  refine Does.enter tabOK (g := 4) (fn := Tryz.f4) Tryz.call4 Tryz.func4 rfl 31 rfl rfl [.tmp 0] rfl ?_
  intro w0 F η0 h0
  conv => whnf
  repeat' ((first | with_reducible refine IF.tt ?_ | with_reducible refine IF.ff ?_ | with_reducible refine ADD.mk (fun _ _ => ?_) | with_reducible refine NEED.mk (Det.of rfl) ?_ | refine NEED.mk (det_pos (by omega)) ?_ | with_reducible refine FORK.mk ?_ ?_ | refine CALL.value (ht) rfl rfl ?_ | refine CALL.value (hp) rfl rfl ?_ | refine NEED.au ?_ | ((with_reducible apply GET.at); rfl) | ((with_reducible apply GETG.at); rfl) | ((with_reducible refine UNK.mk (fun h => ?_) ?_) <;> try (exfalso; omega)) | ((with_reducible refine IF.mk (fun h => ?_) (fun h => ?_)) <;> (try simp (disch := omega) only [hsB, hsC, lnB, wrap64, wrap32, simprocAttr] at h) <;> try (exfalso; omega))) <;> conv => whnf)
  all_goals first
    | exact FIN.value h0 rfl rfl
    | (exfalso; simp_all; done)
    | trace_state
end Go.Proofs.YtillkgjdbnjnoaaGreatDoor
/- Loops that leave most of the heap alone. Conditions: none. -/
set_option linter.unusedVariables false
set_option linter.unusedSimpArgs false
namespace Go.Sx
open Go
/-- What stays of a heap, by names. -/
def keepHK : List Nat → Hps → (Hps → Prop) → Prop
  | [], _, K => K []
  | i :: is, O, K => match lkp i O with
    | some h => keepHK is O fun r => K ((i, h) :: r)
    | none => STOP "kept"
def appHK : Hps → Hps → (Hps → Prop) → Prop
  | [], r, K => K r
  | (i, h) :: l, r, K => appHK l r fun r => K ((i, h) :: r)
theorem keepHK_iff : ∀ {ts : List Nat} {O : Hps} {K : Hps → Prop}, keepHK ts O K → ∃ r, K r
  | [], O, K, h => ⟨_, h⟩
  | t :: ts, O, K, h => by
    simp only [keepHK] at h
    split at h
    · obtain ⟨r, hr⟩ := keepHK_iff h; exact ⟨_, hr⟩
    · exact h.out.elim
theorem appHK_iff : ∀ {l r : Hps} {K : Hps → Prop}, appHK l r K ↔ K (l ++ r)
  | [], r, K => Iff.rfl
  | (t, v) :: l, r, K => by simp only [appHK, List.cons_append, appHK_iff]
theorem belowO_cons {m i : Nat} {h : Hp} {O : Hps} (h1 : Nat.blt i m = true) (h2 : belowH m h = true) (h3 : belowO m O = true) : belowO m ((i, h) :: O) = true := by simp only [belowO, h1, h2, h3, Bool.and_self]
theorem belowH_rows {m es : Nat} {rs : List (List SV)} (h : plainLL rs = true) : belowH m (.rows es rs) = true := by simp only [belowH, plainLL_below _ h]
theorem belowH_renrows {m es : Nat} {σ : Nat → Nat} {rs : List (List SV)} (h : plainLL rs = true) : belowH m (renH σ (.rows es rs)) = true := by rw [renH_plain _ (h := .rows es rs) h]; exact belowH_rows h
theorem box_int {k : IntKind} {a b : Int} (h : a = b) : Hp.box [.int k a] = Hp.box [.int k b] := by rw [h]
theorem box_sl {b : Blk} {r es n n' : Nat} {lim : Option Nat} (h : n = n') : Hp.box [.sl b r es n lim] = Hp.box [.sl b r es n' lim] := by rw [h]
section
variable {M : Mx} {fr : Fr} {O : Hps} {nx : Nat}
/-- A loop, of whose heap the entries ko stay as they are. -/
theorem LOOP.gok {body : Code} {Q : Post} (hT : TabOK M.P M.C.T) (ks ko : List Nat) {X : Type} (P : X → Prop) (chg : X → Fr) (Ox : X → Hps) (n0 : Nat) (μ : X → Nat) (x0 : X) (hP : P x0)
    (h : keepK ks fr fun fr0 => keepHK ko O fun O0 => (appK (chg x0) fr0 fun fr' => appHK (Ox x0) O0 fun O' => GOES M fr O nx fr' O' n0) ∧
      ∀ x, P x → appK (chg x) fr0 fun fr1 => appHK (Ox x) O0 fun O1 => run M body fr1 O1 n0 fun e fr O nx => match e with
        | .normal => ∃ x', P x' ∧ μ x' < μ x ∧ appK (chg x') fr0 fun fr' => appHK (Ox x') O0 fun O' => GOES M fr O nx fr' O' n0
        | e => Q e fr O nx) : LOOP M body fr O nx Q := by
  obtain ⟨fr0, h⟩ := keepK_iff h
  obtain ⟨O0, h1, h2⟩ := keepHK_iff h
  simp only [appK_iff, appHK_iff] at h1 h2
  exact LOOP.inv hT P (fun x => (chg x ++ fr0, Ox x ++ O0, n0)) μ x0 hP h1 h2
/-- A nil slice in a box's cell, ahead of a loop. -/
theorem LOOP.nilCell {body : Code} {Q : Post} (i j es : Nat) {row row' : List SV} (hi : lkp i O = some (.box row)) (hr : nilAt nx es j row = some row') (k : LOOP M body fr ((nx, .rows es []) :: setK i (.box row') O) (nx + 1) Q) : LOOP M body fr O nx Q :=
  LOOP.goes ⟨fun η a w hm => let ⟨η', hp, H⟩ := hm.heap.nilCell hi hr; ⟨η', H, hm.size, hm.nds, hm.defers.mono hp, ro_mono hp hm.ro, fun t v ht => (hm.frame t v ht).mono hp⟩⟩ k
end
end Go.Sx
