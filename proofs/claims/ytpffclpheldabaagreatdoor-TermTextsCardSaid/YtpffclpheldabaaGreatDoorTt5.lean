/- TermTexts: the row and its card out of the walk. Conditions: none beyond the statement's own. -/
import Derived.Test.YtpffclpheldabaaGreatDoorCards
import Derived.Test.YtpffclpheldabaaGreatDoorTie
import Derived.Test.YtpffclpheldabaaGreatDoorTt4
/- The reference's tags, walked: whether it is one. Conditions: none. -/
set_option linter.unusedVariables false
set_option linter.unusedSimpArgs false
set_option maxRecDepth 20000
namespace Go.Proofs.YtpffclpheldabaaGreatDoor
open Go.Sx Go.Our
theorem low_x (s : List UInt8) : (lowerM s != [120]) = !privateM s := by rw [private_lower]; rfl
theorem low_x' (s : List UInt8) : (lowerM s == [120]) = privateM s := by rw [private_lower]
def rd6' (i m : Nat) : Hp := .box [.sl (.loc 2) i 1 m none]
def tz6 : Hp := .box [.str [], .str [], .str [], .str [], .val (.slice none 0 0), .val (.slice none 0 0), .str []]
def frT : Fr := [(2, .ptr (.loc 0) 0 0 0), (4, .ptr (.loc 1) 0 0 0), (5, .ptr (.loc 3) 0 0 0)]
def OT (ps : List (List UInt8)) (a : Nat) (L E S R : List UInt8) : Hps := [(0, tz6), (1, tg6 L E S R 4 0 5 0 []), (2, .rows 1 (ps.map strRow)), (3, rd6' a (ps.length - a)), (4, .rows 1 []), (5, .rows 1 [])]
def contP (l : List (List UInt8)) : Bool := match varsP [] l with
  | none => false
  | some (l, seen) => match extsP seen l with
    | none => false
    | some l => lastP l
theorem more44 : moreM 4 4 false = fun s => madeM s 4 4 true := funext (more_made 4 4)
theorem variant_len {s : List UInt8} (h : variantM s = true) : 4 ≤ s.length := by
  unfold variantM at h
  simp only [Bool.or_eq_true, Bool.and_eq_true] at h
  rcases h with h | h
  · have := made_len h; omega
  · have := made_len h.1; omega
set_option maxHeartbeats 8000000 in
theorem tag6_does (s : List UInt8) (hs : s.length ≤ 8589934592) : Does Tryz.prog tab 104 0 [.str s] [] [] (Val (.tup [.agg (anyN 7), .int .i64 (if tagP (splitM s) = true then 0 else 61)])) := by
  have hbulk := split_bulk s
  have hlen := split_len s
  have hne := split_ne s
  generalize hps : splitM s = ps at *
  have hb : bulkM ps + ps.length ≤ 34359738368 := by unfold bulkM; omega
  have hsm := bulk_sm (ps := ps) (by omega)
  obtain ⟨p0, hp0⟩ : ∃ p0, ps[0]? = some p0 := by
    cases ps with
    | nil => exact (hne rfl).elim
    | cons a t => exact ⟨a, rfl⟩
  have hp0l := hsm p0 (List.mem_of_getElem? hp0)
  have hhead : headIs privateM ps = privateM p0 := by
    cases ps with
    | nil => cases hp0
    | cons a t => have : a = p0 := by simpa using hp0
                  subst this; rfl
  refine Does.enter tabOK (g := 104) (fn := Tryz.f104) Tryz.call104 Tryz.func104 rfl 152 rfl rfl [.cell 2 118, .tmp 3] rfl ?_
  intro w0 F η0 h0
  conv => whnf
  apply loopOnce (X := Nat × List UInt8 × List UInt8 × List UInt8 × List UInt8) (n := 6) (fun x => tagP ps = contP (ps.drop x.1) ∧ x.1 ≤ ps.length) (fun _ => frT) (fun x => OT ps x.1 x.2.1 x.2.2.1 x.2.2.2.1 x.2.2.2.2)
  intro K
  refine CALL.newS (r6parts_does s (by omega)) rfl (plainStrs _) ?_
  rw [hps, List.length_map]
  have hpos : 0 < ps.length := (List.getElem?_eq_some_iff.1 hp0).1
  conv => whnf
  repeat' (first | ((with_reducible refine IF.tt ?_); conv => whnf) | ((with_reducible refine IF.ff ?_); conv => whnf) | (refine GET.at (row := strRow p0) (by rw [List.getElem?_map, show 0 + (0 : Int).toNat = 0 by simp, hp0]; rfl) ?_; conv => whnf) | ((with_reducible refine NEED.mk ?_ ?_); (first | with_reducible rfl | omega | (simp (disch := omega) only [lnB, wrap64, wrap32] <;> omega) | (intro h; (try simp (disch := omega) only [hsB, hsC, lnB, wrap64, wrap32, Int.reduceBEq, Int.reduceBNe, Int.reduceEq, Int.reduceNe, Int.reduceLT, Int.reduceLE, Int.reduceGT, Int.reduceGE, Int.reduceAdd, Int.reduceSub, Int.reduceMul, Int.reduceNeg, reduceCtorEq] at h); (first | omega | (simp (disch := omega) only [lnB, wrap64, wrap32] <;> omega))) | (exact needApp 256 rfl rfl (by simp) (by simp) (by omega)) | (simp <;> omega)); conv => whnf) | ((with_reducible apply GET.at); (rfl); conv => whnf) | ((with_reducible apply GETG.at); (rfl); conv => whnf) | ((with_reducible refine IF.mk (fun h => ?_) (fun h => ?_)) <;> (try simp (disch := omega) only [hsB, hsC, lnB, wrap64, wrap32, Int.reduceBEq, Int.reduceBNe, Int.reduceEq, Int.reduceNe, Int.reduceLT, Int.reduceLE, Int.reduceGT, Int.reduceGE, Int.reduceAdd, Int.reduceSub, Int.reduceMul, Int.reduceNeg, reduceCtorEq] at h) <;> (try (exfalso; omega)) <;> conv => whnf))
  refine CALL.nilCell 1 4 1 rfl rfl ?_
  refine CALL.nilCell 1 5 1 rfl rfl ?_
  refine CALL.value (r6lower_does _ hp0l) rfl rfl ?_
  conv => whnf
  refine IF.mk (fun h => ?_) (fun h => ?_)
  · rw [low_x] at h
    have hpr : headIs privateM ps = false := by rw [hhead]; simpa using h
    have hcont : ∀ l, langP (ps.drop 0) = some l → tagP ps = contP (skipIf regionM (skipIf (fun s => madeM s 4 4 true) l)) := by
      intro l hl
      have hl : langP ps = some l := hl
      unfold tagP contP
      rw [if_neg (by simp [hpr]), hl]
      simp only [restP]
      cases varsP [] (skipIf regionM (skipIf (fun s => madeM s 4 4 true) l)) with
      | none => rfl
      | some x => obtain ⟨l', seen⟩ := x; rfl
    conv => whnf
    refine CALL.at [3, 2, 1, 4, 5] (language6_does ps (by omega) 0 ps.length (by omega)) rfl rfl rfl rfl (by first | rfl | (simp only [belowO, belowH, plainLL_below _ (plainStrs _), Bool.and_self, Bool.and_true] <;> rfl)) (by first | rfl | (simp only [belowO, belowH, plainLL_below _ (plainStrs _), Bool.and_self, Bool.and_true] <;> rfl)) (by repeat' (first | exact trivial | exact (renH_plain _ (h := .rows _ _) (plainStrs _)).symm | exact rfl | exact (renH_plain _ (h := .rows _ _) (plainStrs _)).trans (renH_plain _ (h := .rows _ _) (plainStrs _)).symm | ((conv => whnf); refine ⟨?_, ?_⟩))) (by repeat' (first | exact trivial | exact (renH_plain _ (h := .rows _ _) (plainStrs _)).symm | exact rfl | exact (renH_plain _ (h := .rows _ _) (plainStrs _)).trans (renH_plain _ (h := .rows _ _) (plainStrs _)).symm | ((conv => whnf); refine ⟨?_, ?_⟩))) rfl rfl ?_
    rintro r O' nx' ⟨i1, m1, L, E, him1, rfl, hL, rfl, rfl⟩
    cases h2 : langP (ps.drop 0) with
    | none =>
      have htag : tagP ps = false := by
        have h2 : langP ps = none := h2
        unfold tagP; rw [if_neg (by simp [hpr]), h2]
      rw [Option.isSome_none]
      conv => whnf
      repeat' (first | ((with_reducible refine IF.tt ?_); conv => whnf) | ((with_reducible refine IF.ff ?_); conv => whnf) | ((with_reducible refine NEED.mk ?_ ?_); (first | with_reducible rfl | omega | (simp (disch := omega) only [lnB, wrap64, wrap32] <;> omega) | (intro h; (try simp (disch := omega) only [hsB, hsC, lnB, wrap64, wrap32, Int.reduceBEq, Int.reduceBNe, Int.reduceEq, Int.reduceNe, Int.reduceLT, Int.reduceLE, Int.reduceGT, Int.reduceGE, Int.reduceAdd, Int.reduceSub, Int.reduceMul, Int.reduceNeg, reduceCtorEq] at h); (first | omega | (simp (disch := omega) only [lnB, wrap64, wrap32] <;> omega))) | (exact needApp 256 rfl rfl (by simp) (by simp) (by omega)) | (simp <;> omega)); conv => whnf) | ((with_reducible apply GET.at); (rfl); conv => whnf) | ((with_reducible apply GETG.at); (rfl); conv => whnf) | ((with_reducible refine IF.mk (fun h => ?_) (fun h => ?_)) <;> (try simp (disch := omega) only [hsB, hsC, lnB, wrap64, wrap32, Int.reduceBEq, Int.reduceBNe, Int.reduceEq, Int.reduceNe, Int.reduceLT, Int.reduceLE, Int.reduceGT, Int.reduceGE, Int.reduceAdd, Int.reduceSub, Int.reduceMul, Int.reduceNeg, reduceCtorEq] at h) <;> (try (exfalso; omega)) <;> conv => whnf))
      refine FIN.anyA 7 h0 rfl rfl rfl ⟨?_, rfl, rfl⟩
      rw [htag]; rfl
    | some l1 =>
      obtain ⟨hl1, hLne⟩ := hL l1 h2
      subst hl1
      have hc1 := hcont _ h2
      rw [Option.isSome_some]
      conv => whnf
      repeat' (first | ((with_reducible refine IF.tt ?_); conv => whnf) | ((with_reducible refine IF.ff ?_); conv => whnf) | (refine IF.yes (b := L != []) (by simpa using hLne) ?_; conv => whnf) | ((with_reducible refine NEED.mk ?_ ?_); (first | with_reducible rfl | omega | (simp (disch := omega) only [lnB, wrap64, wrap32] <;> omega) | (intro h; (try simp (disch := omega) only [hsB, hsC, lnB, wrap64, wrap32, Int.reduceBEq, Int.reduceBNe, Int.reduceEq, Int.reduceNe, Int.reduceLT, Int.reduceLE, Int.reduceGT, Int.reduceGE, Int.reduceAdd, Int.reduceSub, Int.reduceMul, Int.reduceNeg, reduceCtorEq] at h); (first | omega | (simp (disch := omega) only [lnB, wrap64, wrap32] <;> omega))) | (exact needApp 256 rfl rfl (by simp) (by simp) (by omega)) | (simp <;> omega)); conv => whnf) | ((with_reducible apply GET.at); (rfl); conv => whnf) | ((with_reducible apply GETG.at); (rfl); conv => whnf) | ((with_reducible refine IF.mk (fun h => ?_) (fun h => ?_)) <;> (try simp (disch := omega) only [hsB, hsC, lnB, wrap64, wrap32, Int.reduceBEq, Int.reduceBNe, Int.reduceEq, Int.reduceNe, Int.reduceLT, Int.reduceLE, Int.reduceGT, Int.reduceGE, Int.reduceAdd, Int.reduceSub, Int.reduceMul, Int.reduceNeg, reduceCtorEq] at h) <;> (try (exfalso; omega)) <;> conv => whnf))
      refine CALL.at [3, 2] (more_does 4 4 false ps hsm i1 m1 him1) rfl rfl rfl rfl (by first | rfl | (simp only [belowO, belowH, plainLL_below _ (plainStrs _), Bool.and_self, Bool.and_true] <;> rfl)) (by first | rfl | (simp only [belowO, belowH, plainLL_below _ (plainStrs _), Bool.and_self, Bool.and_true] <;> rfl)) (by repeat' (first | exact trivial | exact (renH_plain _ (h := .rows _ _) (plainStrs _)).symm | exact rfl | exact (renH_plain _ (h := .rows _ _) (plainStrs _)).trans (renH_plain _ (h := .rows _ _) (plainStrs _)).symm | ((conv => whnf); refine ⟨?_, ?_⟩))) (by repeat' (first | exact trivial | exact (renH_plain _ (h := .rows _ _) (plainStrs _)).symm | exact rfl | exact (renH_plain _ (h := .rows _ _) (plainStrs _)).trans (renH_plain _ (h := .rows _ _) (plainStrs _)).symm | ((conv => whnf); refine ⟨?_, ?_⟩))) rfl rfl ?_
      rintro r O' nx' ⟨rfl, rfl, rfl⟩
      rw [more44]
      conv => whnf
      (repeat (first | ((with_reducible refine IF.tt ?_); conv => whnf) | ((with_reducible refine IF.ff ?_); conv => whnf)))
      refine IF.mk (fun h4 => ?_) (fun h4 => ?_)
      · obtain ⟨w1, hw1, hwm1⟩ := sees_yes h4
        have hlt1 := (List.getElem?_eq_some_iff.1 hw1).1
        obtain ⟨k1, rfl⟩ : ∃ k1, m1 = k1 + 1 := ⟨m1 - 1, by omega⟩
        rw [skip_yes hw1 hwm1] at hc1
        conv => whnf
        refine CALL.at [3, 2] (next6_does ps i1 k1 him1 w1 hw1) rfl rfl rfl rfl (by first | rfl | (simp only [belowO, belowH, plainLL_below _ (plainStrs _), Bool.and_self, Bool.and_true] <;> rfl)) (by first | rfl | (simp only [belowO, belowH, plainLL_below _ (plainStrs _), Bool.and_self, Bool.and_true] <;> rfl)) (by repeat' (first | exact trivial | exact (renH_plain _ (h := .rows _ _) (plainStrs _)).symm | exact rfl | exact (renH_plain _ (h := .rows _ _) (plainStrs _)).trans (renH_plain _ (h := .rows _ _) (plainStrs _)).symm | ((conv => whnf); refine ⟨?_, ?_⟩))) (by repeat' (first | exact trivial | exact (renH_plain _ (h := .rows _ _) (plainStrs _)).symm | exact rfl | exact (renH_plain _ (h := .rows _ _) (plainStrs _)).trans (renH_plain _ (h := .rows _ _) (plainStrs _)).symm | ((conv => whnf); refine ⟨?_, ?_⟩))) rfl rfl ?_
        rintro r O' nx' ⟨rfl, rfl, rfl⟩
        conv => whnf
        repeat' (first | ((with_reducible refine IF.tt ?_); conv => whnf) | ((with_reducible refine IF.ff ?_); conv => whnf) | (refine IF.yes (b := L != []) (by simpa using hLne) ?_; conv => whnf) | ((with_reducible refine NEED.mk ?_ ?_); (first | with_reducible rfl | omega | (simp (disch := omega) only [lnB, wrap64, wrap32] <;> omega) | (intro h; (try simp (disch := omega) only [hsB, hsC, lnB, wrap64, wrap32, Int.reduceBEq, Int.reduceBNe, Int.reduceEq, Int.reduceNe, Int.reduceLT, Int.reduceLE, Int.reduceGT, Int.reduceGE, Int.reduceAdd, Int.reduceSub, Int.reduceMul, Int.reduceNeg, reduceCtorEq] at h); (first | omega | (simp (disch := omega) only [lnB, wrap64, wrap32] <;> omega))) | (exact needApp 256 rfl rfl (by simp) (by simp) (by omega)) | (simp <;> omega)); conv => whnf) | ((with_reducible apply GET.at); (rfl); conv => whnf) | ((with_reducible apply GETG.at); (rfl); conv => whnf) | ((with_reducible refine IF.mk (fun h => ?_) (fun h => ?_)) <;> (try simp (disch := omega) only [hsB, hsC, lnB, wrap64, wrap32, Int.reduceBEq, Int.reduceBNe, Int.reduceEq, Int.reduceNe, Int.reduceLT, Int.reduceLE, Int.reduceGT, Int.reduceGE, Int.reduceAdd, Int.reduceSub, Int.reduceMul, Int.reduceNeg, reduceCtorEq] at h) <;> (try (exfalso; omega)) <;> conv => whnf))
        refine CALL.at [3, 2] (more_does 2 2 false ps hsm (i1 + 1) (k1) (by omega)) rfl rfl rfl rfl (by first | rfl | (simp only [belowO, belowH, plainLL_below _ (plainStrs _), Bool.and_self, Bool.and_true] <;> rfl)) (by first | rfl | (simp only [belowO, belowH, plainLL_below _ (plainStrs _), Bool.and_self, Bool.and_true] <;> rfl)) (by repeat' (first | exact trivial | exact (renH_plain _ (h := .rows _ _) (plainStrs _)).symm | exact rfl | exact (renH_plain _ (h := .rows _ _) (plainStrs _)).trans (renH_plain _ (h := .rows _ _) (plainStrs _)).symm | ((conv => whnf); refine ⟨?_, ?_⟩))) (by repeat' (first | exact trivial | exact (renH_plain _ (h := .rows _ _) (plainStrs _)).symm | exact rfl | exact (renH_plain _ (h := .rows _ _) (plainStrs _)).trans (renH_plain _ (h := .rows _ _) (plainStrs _)).symm | ((conv => whnf); refine ⟨?_, ?_⟩))) rfl rfl ?_
        rintro r O' nx' ⟨rfl, rfl, rfl⟩
        conv => whnf
        (repeat (first | ((with_reducible refine IF.tt ?_); conv => whnf) | ((with_reducible refine IF.ff ?_); conv => whnf)))
        refine IF.mk (fun h5 => ?_) (fun h5 => ?_)
        · have hsee : ∃ q, ps[i1 + 1]? = some q ∧ regionM q = true := by
            obtain ⟨q, hq, hqm⟩ := sees_yes h5
            exact ⟨q, hq, by rw [region_more, hqm]; rfl⟩
          conv => whnf
          repeat' (first | ((with_reducible refine IF.tt ?_); conv => whnf) | ((with_reducible refine IF.ff ?_); conv => whnf) | ((with_reducible refine NEED.mk ?_ ?_); (first | with_reducible rfl | omega | (simp (disch := omega) only [lnB, wrap64, wrap32] <;> omega) | (intro h; (try simp (disch := omega) only [hsB, hsC, lnB, wrap64, wrap32, Int.reduceBEq, Int.reduceBNe, Int.reduceEq, Int.reduceNe, Int.reduceLT, Int.reduceLE, Int.reduceGT, Int.reduceGE, Int.reduceAdd, Int.reduceSub, Int.reduceMul, Int.reduceNeg, reduceCtorEq] at h); (first | omega | (simp (disch := omega) only [lnB, wrap64, wrap32] <;> omega))) | (exact needApp 256 rfl rfl (by simp) (by simp) (by omega)) | (simp <;> omega)); conv => whnf) | ((with_reducible apply GET.at); (rfl); conv => whnf) | ((with_reducible apply GETG.at); (rfl); conv => whnf) | ((with_reducible refine IF.mk (fun h => ?_) (fun h => ?_)) <;> (try simp (disch := omega) only [hsB, hsC, lnB, wrap64, wrap32, Int.reduceBEq, Int.reduceBNe, Int.reduceEq, Int.reduceNe, Int.reduceLT, Int.reduceLE, Int.reduceGT, Int.reduceGE, Int.reduceAdd, Int.reduceSub, Int.reduceMul, Int.reduceNeg, reduceCtorEq] at h) <;> (try (exfalso; omega)) <;> conv => whnf))
          obtain ⟨q, hq, hqm⟩ := hsee
          have hlt2 := (List.getElem?_eq_some_iff.1 hq).1
          obtain ⟨k2, hk2⟩ : ∃ k2, k1 = k2 + 1 := ⟨k1 - 1, by omega⟩
          have htag : tagP ps = contP (ps.drop (i1 + 1 + 1)) := by rw [hc1, skip_yes hq hqm]
          rw [hk2]
          conv => whnf
          refine CALL.at [3, 2] (next6_does ps (i1 + 1) k2 (by omega) q hq) rfl rfl rfl rfl (by first | rfl | (simp only [belowO, belowH, plainLL_below _ (plainStrs _), Bool.and_self, Bool.and_true] <;> rfl)) (by first | rfl | (simp only [belowO, belowH, plainLL_below _ (plainStrs _), Bool.and_self, Bool.and_true] <;> rfl)) (by repeat' (first | exact trivial | exact (renH_plain _ (h := .rows _ _) (plainStrs _)).symm | exact rfl | exact (renH_plain _ (h := .rows _ _) (plainStrs _)).trans (renH_plain _ (h := .rows _ _) (plainStrs _)).symm | ((conv => whnf); refine ⟨?_, ?_⟩))) (by repeat' (first | exact trivial | exact (renH_plain _ (h := .rows _ _) (plainStrs _)).symm | exact rfl | exact (renH_plain _ (h := .rows _ _) (plainStrs _)).trans (renH_plain _ (h := .rows _ _) (plainStrs _)).symm | ((conv => whnf); refine ⟨?_, ?_⟩))) rfl rfl ?_
          rintro r O' nx' ⟨rfl, rfl, rfl⟩
          conv => whnf
          refine LOOP.goes (fr' := frT) (O' := OT ps (i1 + 1 + 1) L E w1 q) (n1 := 6) ?_ (K (i1 + 1 + 1, L, E, w1, q) ⟨htag, by simp only; omega⟩)
          unfold frT OT
          rw [show ps.length - (i1 + 1 + 1) = k2 by omega]
          (refine GOES.keeping h0 [0, 1, 2, 3, 4, 5] rfl rfl rfl (by first | rfl | (simp only [belowO, belowH, plainLL_below _ (plainStrs _), Bool.and_self, Bool.and_true] <;> rfl)) ?_ ?_ <;> (repeat' (first | (with_reducible rfl) | (exact rows_eq (plainStrs _) (renLL_plain _ (plainStrs _))) | (exact rows_eq (plainStrs _) (by simp [strRow, ofVal, List.take_of_length_le])) | (exact sl_eq rfl (by simp)) | (exact congrArg (SV.int _) (by first | omega | (simp (disch := omega) only [lnB, wrap64, wrap32] <;> omega) | (simp; done) | (simp <;> omega))) | ((conv => whnf); refine ⟨?_, ?_⟩) | exact trivial | (simp only [ren, renB]; done) | rfl)))
        · conv => whnf
          repeat' (first | ((with_reducible refine IF.tt ?_); conv => whnf) | ((with_reducible refine IF.ff ?_); conv => whnf) | ((with_reducible refine NEED.mk ?_ ?_); (first | with_reducible rfl | omega | (simp (disch := omega) only [lnB, wrap64, wrap32] <;> omega) | (intro h; (try simp (disch := omega) only [hsB, hsC, lnB, wrap64, wrap32, Int.reduceBEq, Int.reduceBNe, Int.reduceEq, Int.reduceNe, Int.reduceLT, Int.reduceLE, Int.reduceGT, Int.reduceGE, Int.reduceAdd, Int.reduceSub, Int.reduceMul, Int.reduceNeg, reduceCtorEq] at h); (first | omega | (simp (disch := omega) only [lnB, wrap64, wrap32] <;> omega))) | (exact needApp 256 rfl rfl (by simp) (by simp) (by omega)) | (simp <;> omega)); conv => whnf) | ((with_reducible apply GET.at); (rfl); conv => whnf) | ((with_reducible apply GETG.at); (rfl); conv => whnf) | ((with_reducible refine IF.mk (fun h => ?_) (fun h => ?_)) <;> (try simp (disch := omega) only [hsB, hsC, lnB, wrap64, wrap32, Int.reduceBEq, Int.reduceBNe, Int.reduceEq, Int.reduceNe, Int.reduceLT, Int.reduceLE, Int.reduceGT, Int.reduceGE, Int.reduceAdd, Int.reduceSub, Int.reduceMul, Int.reduceNeg, reduceCtorEq] at h) <;> (try (exfalso; omega)) <;> conv => whnf))
          refine CALL.at [3, 2] (more_does 3 3 true ps hsm (i1 + 1) (k1) (by omega)) rfl rfl rfl rfl (by first | rfl | (simp only [belowO, belowH, plainLL_below _ (plainStrs _), Bool.and_self, Bool.and_true] <;> rfl)) (by first | rfl | (simp only [belowO, belowH, plainLL_below _ (plainStrs _), Bool.and_self, Bool.and_true] <;> rfl)) (by repeat' (first | exact trivial | exact (renH_plain _ (h := .rows _ _) (plainStrs _)).symm | exact rfl | exact (renH_plain _ (h := .rows _ _) (plainStrs _)).trans (renH_plain _ (h := .rows _ _) (plainStrs _)).symm | ((conv => whnf); refine ⟨?_, ?_⟩))) (by repeat' (first | exact trivial | exact (renH_plain _ (h := .rows _ _) (plainStrs _)).symm | exact rfl | exact (renH_plain _ (h := .rows _ _) (plainStrs _)).trans (renH_plain _ (h := .rows _ _) (plainStrs _)).symm | ((conv => whnf); refine ⟨?_, ?_⟩))) rfl rfl ?_
          rintro r O' nx' ⟨rfl, rfl, rfl⟩
          conv => whnf
          (repeat (first | ((with_reducible refine IF.tt ?_); conv => whnf) | ((with_reducible refine IF.ff ?_); conv => whnf)))
          refine IF.mk (fun h6 => ?_) (fun h6 => ?_)
          · have hsee : ∃ q, ps[i1 + 1]? = some q ∧ regionM q = true := by
              obtain ⟨q, hq, hqm⟩ := sees_yes h6
              exact ⟨q, hq, by rw [region_more, hqm, Bool.or_true]⟩
            conv => whnf
            repeat' (first | ((with_reducible refine IF.tt ?_); conv => whnf) | ((with_reducible refine IF.ff ?_); conv => whnf) | ((with_reducible refine NEED.mk ?_ ?_); (first | with_reducible rfl | omega | (simp (disch := omega) only [lnB, wrap64, wrap32] <;> omega) | (intro h; (try simp (disch := omega) only [hsB, hsC, lnB, wrap64, wrap32, Int.reduceBEq, Int.reduceBNe, Int.reduceEq, Int.reduceNe, Int.reduceLT, Int.reduceLE, Int.reduceGT, Int.reduceGE, Int.reduceAdd, Int.reduceSub, Int.reduceMul, Int.reduceNeg, reduceCtorEq] at h); (first | omega | (simp (disch := omega) only [lnB, wrap64, wrap32] <;> omega))) | (exact needApp 256 rfl rfl (by simp) (by simp) (by omega)) | (simp <;> omega)); conv => whnf) | ((with_reducible apply GET.at); (rfl); conv => whnf) | ((with_reducible apply GETG.at); (rfl); conv => whnf) | ((with_reducible refine IF.mk (fun h => ?_) (fun h => ?_)) <;> (try simp (disch := omega) only [hsB, hsC, lnB, wrap64, wrap32, Int.reduceBEq, Int.reduceBNe, Int.reduceEq, Int.reduceNe, Int.reduceLT, Int.reduceLE, Int.reduceGT, Int.reduceGE, Int.reduceAdd, Int.reduceSub, Int.reduceMul, Int.reduceNeg, reduceCtorEq] at h) <;> (try (exfalso; omega)) <;> conv => whnf))
            obtain ⟨q, hq, hqm⟩ := hsee
            have hlt2 := (List.getElem?_eq_some_iff.1 hq).1
            obtain ⟨k2, hk2⟩ : ∃ k2, k1 = k2 + 1 := ⟨k1 - 1, by omega⟩
            have htag : tagP ps = contP (ps.drop (i1 + 1 + 1)) := by rw [hc1, skip_yes hq hqm]
            rw [hk2]
            conv => whnf
            refine CALL.at [3, 2] (next6_does ps (i1 + 1) k2 (by omega) q hq) rfl rfl rfl rfl (by first | rfl | (simp only [belowO, belowH, plainLL_below _ (plainStrs _), Bool.and_self, Bool.and_true] <;> rfl)) (by first | rfl | (simp only [belowO, belowH, plainLL_below _ (plainStrs _), Bool.and_self, Bool.and_true] <;> rfl)) (by repeat' (first | exact trivial | exact (renH_plain _ (h := .rows _ _) (plainStrs _)).symm | exact rfl | exact (renH_plain _ (h := .rows _ _) (plainStrs _)).trans (renH_plain _ (h := .rows _ _) (plainStrs _)).symm | ((conv => whnf); refine ⟨?_, ?_⟩))) (by repeat' (first | exact trivial | exact (renH_plain _ (h := .rows _ _) (plainStrs _)).symm | exact rfl | exact (renH_plain _ (h := .rows _ _) (plainStrs _)).trans (renH_plain _ (h := .rows _ _) (plainStrs _)).symm | ((conv => whnf); refine ⟨?_, ?_⟩))) rfl rfl ?_
            rintro r O' nx' ⟨rfl, rfl, rfl⟩
            conv => whnf
            refine LOOP.goes (fr' := frT) (O' := OT ps (i1 + 1 + 1) L E w1 q) (n1 := 6) ?_ (K (i1 + 1 + 1, L, E, w1, q) ⟨htag, by simp only; omega⟩)
            unfold frT OT
            rw [show ps.length - (i1 + 1 + 1) = k2 by omega]
            (refine GOES.keeping h0 [0, 1, 2, 3, 4, 5] rfl rfl rfl (by first | rfl | (simp only [belowO, belowH, plainLL_below _ (plainStrs _), Bool.and_self, Bool.and_true] <;> rfl)) ?_ ?_ <;> (repeat' (first | (with_reducible rfl) | (exact rows_eq (plainStrs _) (renLL_plain _ (plainStrs _))) | (exact rows_eq (plainStrs _) (by simp [strRow, ofVal, List.take_of_length_le])) | (exact sl_eq rfl (by simp)) | (exact congrArg (SV.int _) (by first | omega | (simp (disch := omega) only [lnB, wrap64, wrap32] <;> omega) | (simp; done) | (simp <;> omega))) | ((conv => whnf); refine ⟨?_, ?_⟩) | exact trivial | (simp only [ren, renB]; done) | rfl)))
          · have hsee : seesM regionM ps (i1 + 1) = false := by
              unfold seesM at *
              cases hq : ps[i1 + 1]? with
              | none => rfl
              | some q => rw [hq] at h5 h6; simp only at h5 h6 ⊢; rw [region_more, h5]; exact h6
            have htag : tagP ps = contP (ps.drop (i1 + 1)) := by rw [hc1, skip_no hsee]
            conv => whnf
            repeat' (first | ((with_reducible refine IF.tt ?_); conv => whnf) | ((with_reducible refine IF.ff ?_); conv => whnf) | ((with_reducible refine NEED.mk ?_ ?_); (first | with_reducible rfl | omega | (simp (disch := omega) only [lnB, wrap64, wrap32] <;> omega) | (intro h; (try simp (disch := omega) only [hsB, hsC, lnB, wrap64, wrap32, Int.reduceBEq, Int.reduceBNe, Int.reduceEq, Int.reduceNe, Int.reduceLT, Int.reduceLE, Int.reduceGT, Int.reduceGE, Int.reduceAdd, Int.reduceSub, Int.reduceMul, Int.reduceNeg, reduceCtorEq] at h); (first | omega | (simp (disch := omega) only [lnB, wrap64, wrap32] <;> omega))) | (exact needApp 256 rfl rfl (by simp) (by simp) (by omega)) | (simp <;> omega)); conv => whnf) | ((with_reducible apply GET.at); (rfl); conv => whnf) | ((with_reducible apply GETG.at); (rfl); conv => whnf) | ((with_reducible refine IF.mk (fun h => ?_) (fun h => ?_)) <;> (try simp (disch := omega) only [hsB, hsC, lnB, wrap64, wrap32, Int.reduceBEq, Int.reduceBNe, Int.reduceEq, Int.reduceNe, Int.reduceLT, Int.reduceLE, Int.reduceGT, Int.reduceGE, Int.reduceAdd, Int.reduceSub, Int.reduceMul, Int.reduceNeg, reduceCtorEq] at h) <;> (try (exfalso; omega)) <;> conv => whnf))
            refine LOOP.goes (fr' := frT) (O' := OT ps (i1 + 1) L E w1 []) (n1 := 6) ?_ (K (i1 + 1, L, E, w1, []) ⟨htag, by simp only; omega⟩)
            unfold frT OT
            rw [show ps.length - (i1 + 1) = k1 by omega]
            (refine GOES.keeping h0 [0, 1, 2, 3, 4, 5] rfl rfl rfl (by first | rfl | (simp only [belowO, belowH, plainLL_below _ (plainStrs _), Bool.and_self, Bool.and_true] <;> rfl)) ?_ ?_ <;> (repeat' (first | (with_reducible rfl) | (exact rows_eq (plainStrs _) (renLL_plain _ (plainStrs _))) | (exact rows_eq (plainStrs _) (by simp [strRow, ofVal, List.take_of_length_le])) | (exact sl_eq rfl (by simp)) | (exact congrArg (SV.int _) (by first | omega | (simp (disch := omega) only [lnB, wrap64, wrap32] <;> omega) | (simp; done) | (simp <;> omega))) | ((conv => whnf); refine ⟨?_, ?_⟩) | exact trivial | (simp only [ren, renB]; done) | rfl)))
      · rw [skip_no h4] at hc1
        conv => whnf
        repeat' (first | ((with_reducible refine IF.tt ?_); conv => whnf) | ((with_reducible refine IF.ff ?_); conv => whnf) | (refine IF.yes (b := L != []) (by simpa using hLne) ?_; conv => whnf) | ((with_reducible refine NEED.mk ?_ ?_); (first | with_reducible rfl | omega | (simp (disch := omega) only [lnB, wrap64, wrap32] <;> omega) | (intro h; (try simp (disch := omega) only [hsB, hsC, lnB, wrap64, wrap32, Int.reduceBEq, Int.reduceBNe, Int.reduceEq, Int.reduceNe, Int.reduceLT, Int.reduceLE, Int.reduceGT, Int.reduceGE, Int.reduceAdd, Int.reduceSub, Int.reduceMul, Int.reduceNeg, reduceCtorEq] at h); (first | omega | (simp (disch := omega) only [lnB, wrap64, wrap32] <;> omega))) | (exact needApp 256 rfl rfl (by simp) (by simp) (by omega)) | (simp <;> omega)); conv => whnf) | ((with_reducible apply GET.at); (rfl); conv => whnf) | ((with_reducible apply GETG.at); (rfl); conv => whnf) | ((with_reducible refine IF.mk (fun h => ?_) (fun h => ?_)) <;> (try simp (disch := omega) only [hsB, hsC, lnB, wrap64, wrap32, Int.reduceBEq, Int.reduceBNe, Int.reduceEq, Int.reduceNe, Int.reduceLT, Int.reduceLE, Int.reduceGT, Int.reduceGE, Int.reduceAdd, Int.reduceSub, Int.reduceMul, Int.reduceNeg, reduceCtorEq] at h) <;> (try (exfalso; omega)) <;> conv => whnf))
        refine CALL.at [3, 2] (more_does 2 2 false ps hsm (i1) (m1) (by omega)) rfl rfl rfl rfl (by first | rfl | (simp only [belowO, belowH, plainLL_below _ (plainStrs _), Bool.and_self, Bool.and_true] <;> rfl)) (by first | rfl | (simp only [belowO, belowH, plainLL_below _ (plainStrs _), Bool.and_self, Bool.and_true] <;> rfl)) (by repeat' (first | exact trivial | exact (renH_plain _ (h := .rows _ _) (plainStrs _)).symm | exact rfl | exact (renH_plain _ (h := .rows _ _) (plainStrs _)).trans (renH_plain _ (h := .rows _ _) (plainStrs _)).symm | ((conv => whnf); refine ⟨?_, ?_⟩))) (by repeat' (first | exact trivial | exact (renH_plain _ (h := .rows _ _) (plainStrs _)).symm | exact rfl | exact (renH_plain _ (h := .rows _ _) (plainStrs _)).trans (renH_plain _ (h := .rows _ _) (plainStrs _)).symm | ((conv => whnf); refine ⟨?_, ?_⟩))) rfl rfl ?_
        rintro r O' nx' ⟨rfl, rfl, rfl⟩
        conv => whnf
        (repeat (first | ((with_reducible refine IF.tt ?_); conv => whnf) | ((with_reducible refine IF.ff ?_); conv => whnf)))
        refine IF.mk (fun h5 => ?_) (fun h5 => ?_)
        · have hsee : ∃ q, ps[i1]? = some q ∧ regionM q = true := by
            obtain ⟨q, hq, hqm⟩ := sees_yes h5
            exact ⟨q, hq, by rw [region_more, hqm]; rfl⟩
          conv => whnf
          repeat' (first | ((with_reducible refine IF.tt ?_); conv => whnf) | ((with_reducible refine IF.ff ?_); conv => whnf) | ((with_reducible refine NEED.mk ?_ ?_); (first | with_reducible rfl | omega | (simp (disch := omega) only [lnB, wrap64, wrap32] <;> omega) | (intro h; (try simp (disch := omega) only [hsB, hsC, lnB, wrap64, wrap32, Int.reduceBEq, Int.reduceBNe, Int.reduceEq, Int.reduceNe, Int.reduceLT, Int.reduceLE, Int.reduceGT, Int.reduceGE, Int.reduceAdd, Int.reduceSub, Int.reduceMul, Int.reduceNeg, reduceCtorEq] at h); (first | omega | (simp (disch := omega) only [lnB, wrap64, wrap32] <;> omega))) | (exact needApp 256 rfl rfl (by simp) (by simp) (by omega)) | (simp <;> omega)); conv => whnf) | ((with_reducible apply GET.at); (rfl); conv => whnf) | ((with_reducible apply GETG.at); (rfl); conv => whnf) | ((with_reducible refine IF.mk (fun h => ?_) (fun h => ?_)) <;> (try simp (disch := omega) only [hsB, hsC, lnB, wrap64, wrap32, Int.reduceBEq, Int.reduceBNe, Int.reduceEq, Int.reduceNe, Int.reduceLT, Int.reduceLE, Int.reduceGT, Int.reduceGE, Int.reduceAdd, Int.reduceSub, Int.reduceMul, Int.reduceNeg, reduceCtorEq] at h) <;> (try (exfalso; omega)) <;> conv => whnf))
          obtain ⟨q, hq, hqm⟩ := hsee
          have hlt2 := (List.getElem?_eq_some_iff.1 hq).1
          obtain ⟨k2, hk2⟩ : ∃ k2, m1 = k2 + 1 := ⟨m1 - 1, by omega⟩
          have htag : tagP ps = contP (ps.drop (i1 + 1)) := by rw [hc1, skip_yes hq hqm]
          rw [hk2]
          conv => whnf
          refine CALL.at [3, 2] (next6_does ps (i1) k2 (by omega) q hq) rfl rfl rfl rfl (by first | rfl | (simp only [belowO, belowH, plainLL_below _ (plainStrs _), Bool.and_self, Bool.and_true] <;> rfl)) (by first | rfl | (simp only [belowO, belowH, plainLL_below _ (plainStrs _), Bool.and_self, Bool.and_true] <;> rfl)) (by repeat' (first | exact trivial | exact (renH_plain _ (h := .rows _ _) (plainStrs _)).symm | exact rfl | exact (renH_plain _ (h := .rows _ _) (plainStrs _)).trans (renH_plain _ (h := .rows _ _) (plainStrs _)).symm | ((conv => whnf); refine ⟨?_, ?_⟩))) (by repeat' (first | exact trivial | exact (renH_plain _ (h := .rows _ _) (plainStrs _)).symm | exact rfl | exact (renH_plain _ (h := .rows _ _) (plainStrs _)).trans (renH_plain _ (h := .rows _ _) (plainStrs _)).symm | ((conv => whnf); refine ⟨?_, ?_⟩))) rfl rfl ?_
          rintro r O' nx' ⟨rfl, rfl, rfl⟩
          conv => whnf
          refine LOOP.goes (fr' := frT) (O' := OT ps (i1 + 1) L E [] q) (n1 := 6) ?_ (K (i1 + 1, L, E, [], q) ⟨htag, by simp only; omega⟩)
          unfold frT OT
          rw [show ps.length - (i1 + 1) = k2 by omega]
          (refine GOES.keeping h0 [0, 1, 2, 3, 4, 5] rfl rfl rfl (by first | rfl | (simp only [belowO, belowH, plainLL_below _ (plainStrs _), Bool.and_self, Bool.and_true] <;> rfl)) ?_ ?_ <;> (repeat' (first | (with_reducible rfl) | (exact rows_eq (plainStrs _) (renLL_plain _ (plainStrs _))) | (exact rows_eq (plainStrs _) (by simp [strRow, ofVal, List.take_of_length_le])) | (exact sl_eq rfl (by simp)) | (exact congrArg (SV.int _) (by first | omega | (simp (disch := omega) only [lnB, wrap64, wrap32] <;> omega) | (simp; done) | (simp <;> omega))) | ((conv => whnf); refine ⟨?_, ?_⟩) | exact trivial | (simp only [ren, renB]; done) | rfl)))
        · conv => whnf
          repeat' (first | ((with_reducible refine IF.tt ?_); conv => whnf) | ((with_reducible refine IF.ff ?_); conv => whnf) | ((with_reducible refine NEED.mk ?_ ?_); (first | with_reducible rfl | omega | (simp (disch := omega) only [lnB, wrap64, wrap32] <;> omega) | (intro h; (try simp (disch := omega) only [hsB, hsC, lnB, wrap64, wrap32, Int.reduceBEq, Int.reduceBNe, Int.reduceEq, Int.reduceNe, Int.reduceLT, Int.reduceLE, Int.reduceGT, Int.reduceGE, Int.reduceAdd, Int.reduceSub, Int.reduceMul, Int.reduceNeg, reduceCtorEq] at h); (first | omega | (simp (disch := omega) only [lnB, wrap64, wrap32] <;> omega))) | (exact needApp 256 rfl rfl (by simp) (by simp) (by omega)) | (simp <;> omega)); conv => whnf) | ((with_reducible apply GET.at); (rfl); conv => whnf) | ((with_reducible apply GETG.at); (rfl); conv => whnf) | ((with_reducible refine IF.mk (fun h => ?_) (fun h => ?_)) <;> (try simp (disch := omega) only [hsB, hsC, lnB, wrap64, wrap32, Int.reduceBEq, Int.reduceBNe, Int.reduceEq, Int.reduceNe, Int.reduceLT, Int.reduceLE, Int.reduceGT, Int.reduceGE, Int.reduceAdd, Int.reduceSub, Int.reduceMul, Int.reduceNeg, reduceCtorEq] at h) <;> (try (exfalso; omega)) <;> conv => whnf))
          refine CALL.at [3, 2] (more_does 3 3 true ps hsm (i1) (m1) (by omega)) rfl rfl rfl rfl (by first | rfl | (simp only [belowO, belowH, plainLL_below _ (plainStrs _), Bool.and_self, Bool.and_true] <;> rfl)) (by first | rfl | (simp only [belowO, belowH, plainLL_below _ (plainStrs _), Bool.and_self, Bool.and_true] <;> rfl)) (by repeat' (first | exact trivial | exact (renH_plain _ (h := .rows _ _) (plainStrs _)).symm | exact rfl | exact (renH_plain _ (h := .rows _ _) (plainStrs _)).trans (renH_plain _ (h := .rows _ _) (plainStrs _)).symm | ((conv => whnf); refine ⟨?_, ?_⟩))) (by repeat' (first | exact trivial | exact (renH_plain _ (h := .rows _ _) (plainStrs _)).symm | exact rfl | exact (renH_plain _ (h := .rows _ _) (plainStrs _)).trans (renH_plain _ (h := .rows _ _) (plainStrs _)).symm | ((conv => whnf); refine ⟨?_, ?_⟩))) rfl rfl ?_
          rintro r O' nx' ⟨rfl, rfl, rfl⟩
          conv => whnf
          (repeat (first | ((with_reducible refine IF.tt ?_); conv => whnf) | ((with_reducible refine IF.ff ?_); conv => whnf)))
          refine IF.mk (fun h6 => ?_) (fun h6 => ?_)
          · have hsee : ∃ q, ps[i1]? = some q ∧ regionM q = true := by
              obtain ⟨q, hq, hqm⟩ := sees_yes h6
              exact ⟨q, hq, by rw [region_more, hqm, Bool.or_true]⟩
            conv => whnf
            repeat' (first | ((with_reducible refine IF.tt ?_); conv => whnf) | ((with_reducible refine IF.ff ?_); conv => whnf) | ((with_reducible refine NEED.mk ?_ ?_); (first | with_reducible rfl | omega | (simp (disch := omega) only [lnB, wrap64, wrap32] <;> omega) | (intro h; (try simp (disch := omega) only [hsB, hsC, lnB, wrap64, wrap32, Int.reduceBEq, Int.reduceBNe, Int.reduceEq, Int.reduceNe, Int.reduceLT, Int.reduceLE, Int.reduceGT, Int.reduceGE, Int.reduceAdd, Int.reduceSub, Int.reduceMul, Int.reduceNeg, reduceCtorEq] at h); (first | omega | (simp (disch := omega) only [lnB, wrap64, wrap32] <;> omega))) | (exact needApp 256 rfl rfl (by simp) (by simp) (by omega)) | (simp <;> omega)); conv => whnf) | ((with_reducible apply GET.at); (rfl); conv => whnf) | ((with_reducible apply GETG.at); (rfl); conv => whnf) | ((with_reducible refine IF.mk (fun h => ?_) (fun h => ?_)) <;> (try simp (disch := omega) only [hsB, hsC, lnB, wrap64, wrap32, Int.reduceBEq, Int.reduceBNe, Int.reduceEq, Int.reduceNe, Int.reduceLT, Int.reduceLE, Int.reduceGT, Int.reduceGE, Int.reduceAdd, Int.reduceSub, Int.reduceMul, Int.reduceNeg, reduceCtorEq] at h) <;> (try (exfalso; omega)) <;> conv => whnf))
            obtain ⟨q, hq, hqm⟩ := hsee
            have hlt2 := (List.getElem?_eq_some_iff.1 hq).1
            obtain ⟨k2, hk2⟩ : ∃ k2, m1 = k2 + 1 := ⟨m1 - 1, by omega⟩
            have htag : tagP ps = contP (ps.drop (i1 + 1)) := by rw [hc1, skip_yes hq hqm]
            rw [hk2]
            conv => whnf
            refine CALL.at [3, 2] (next6_does ps (i1) k2 (by omega) q hq) rfl rfl rfl rfl (by first | rfl | (simp only [belowO, belowH, plainLL_below _ (plainStrs _), Bool.and_self, Bool.and_true] <;> rfl)) (by first | rfl | (simp only [belowO, belowH, plainLL_below _ (plainStrs _), Bool.and_self, Bool.and_true] <;> rfl)) (by repeat' (first | exact trivial | exact (renH_plain _ (h := .rows _ _) (plainStrs _)).symm | exact rfl | exact (renH_plain _ (h := .rows _ _) (plainStrs _)).trans (renH_plain _ (h := .rows _ _) (plainStrs _)).symm | ((conv => whnf); refine ⟨?_, ?_⟩))) (by repeat' (first | exact trivial | exact (renH_plain _ (h := .rows _ _) (plainStrs _)).symm | exact rfl | exact (renH_plain _ (h := .rows _ _) (plainStrs _)).trans (renH_plain _ (h := .rows _ _) (plainStrs _)).symm | ((conv => whnf); refine ⟨?_, ?_⟩))) rfl rfl ?_
            rintro r O' nx' ⟨rfl, rfl, rfl⟩
            conv => whnf
            refine LOOP.goes (fr' := frT) (O' := OT ps (i1 + 1) L E [] q) (n1 := 6) ?_ (K (i1 + 1, L, E, [], q) ⟨htag, by simp only; omega⟩)
            unfold frT OT
            rw [show ps.length - (i1 + 1) = k2 by omega]
            (refine GOES.keeping h0 [0, 1, 2, 3, 4, 5] rfl rfl rfl (by first | rfl | (simp only [belowO, belowH, plainLL_below _ (plainStrs _), Bool.and_self, Bool.and_true] <;> rfl)) ?_ ?_ <;> (repeat' (first | (with_reducible rfl) | (exact rows_eq (plainStrs _) (renLL_plain _ (plainStrs _))) | (exact rows_eq (plainStrs _) (by simp [strRow, ofVal, List.take_of_length_le])) | (exact sl_eq rfl (by simp)) | (exact congrArg (SV.int _) (by first | omega | (simp (disch := omega) only [lnB, wrap64, wrap32] <;> omega) | (simp; done) | (simp <;> omega))) | ((conv => whnf); refine ⟨?_, ?_⟩) | exact trivial | (simp only [ren, renB]; done) | rfl)))
          · have hsee : seesM regionM ps (i1) = false := by
              unfold seesM at *
              cases hq : ps[i1]? with
              | none => rfl
              | some q => rw [hq] at h5 h6; simp only at h5 h6 ⊢; rw [region_more, h5]; exact h6
            have htag : tagP ps = contP (ps.drop (i1)) := by rw [hc1, skip_no hsee]
            conv => whnf
            repeat' (first | ((with_reducible refine IF.tt ?_); conv => whnf) | ((with_reducible refine IF.ff ?_); conv => whnf) | ((with_reducible refine NEED.mk ?_ ?_); (first | with_reducible rfl | omega | (simp (disch := omega) only [lnB, wrap64, wrap32] <;> omega) | (intro h; (try simp (disch := omega) only [hsB, hsC, lnB, wrap64, wrap32, Int.reduceBEq, Int.reduceBNe, Int.reduceEq, Int.reduceNe, Int.reduceLT, Int.reduceLE, Int.reduceGT, Int.reduceGE, Int.reduceAdd, Int.reduceSub, Int.reduceMul, Int.reduceNeg, reduceCtorEq] at h); (first | omega | (simp (disch := omega) only [lnB, wrap64, wrap32] <;> omega))) | (exact needApp 256 rfl rfl (by simp) (by simp) (by omega)) | (simp <;> omega)); conv => whnf) | ((with_reducible apply GET.at); (rfl); conv => whnf) | ((with_reducible apply GETG.at); (rfl); conv => whnf) | ((with_reducible refine IF.mk (fun h => ?_) (fun h => ?_)) <;> (try simp (disch := omega) only [hsB, hsC, lnB, wrap64, wrap32, Int.reduceBEq, Int.reduceBNe, Int.reduceEq, Int.reduceNe, Int.reduceLT, Int.reduceLE, Int.reduceGT, Int.reduceGE, Int.reduceAdd, Int.reduceSub, Int.reduceMul, Int.reduceNeg, reduceCtorEq] at h) <;> (try (exfalso; omega)) <;> conv => whnf))
            refine LOOP.goes (fr' := frT) (O' := OT ps (i1) L E [] []) (n1 := 6) ?_ (K (i1, L, E, [], []) ⟨htag, by simp only; omega⟩)
            unfold frT OT
            rw [show ps.length - (i1) = m1 by omega]
            (refine GOES.keeping h0 [0, 1, 2, 3, 4, 5] rfl rfl rfl (by first | rfl | (simp only [belowO, belowH, plainLL_below _ (plainStrs _), Bool.and_self, Bool.and_true] <;> rfl)) ?_ ?_ <;> (repeat' (first | (with_reducible rfl) | (exact rows_eq (plainStrs _) (renLL_plain _ (plainStrs _))) | (exact rows_eq (plainStrs _) (by simp [strRow, ofVal, List.take_of_length_le])) | (exact sl_eq rfl (by simp)) | (exact congrArg (SV.int _) (by first | omega | (simp (disch := omega) only [lnB, wrap64, wrap32] <;> omega) | (simp; done) | (simp <;> omega))) | ((conv => whnf); refine ⟨?_, ?_⟩) | exact trivial | (simp only [ren, renB]; done) | rfl)))
  · rw [low_x] at h
    have hpr : privateM p0 = true := by simpa using h
    have htag : tagP ps = contP (ps.drop 0) := by
      unfold tagP contP
      rw [if_pos (by rw [hhead, hpr]), drop_at hp0]
      have h4 : ¬ 4 ≤ p0.length := by
        have := hpr; unfold privateM at this; simp at this
        rcases this with rfl | rfl <;> simp
      have hv : variantM p0 ≠ true := fun h => h4 (variant_len h)
      simp only [varsP]
      rw [if_neg hv]
      simp only
      rw [extsP, if_neg (by unfold singleM; simp [hpr])]
      simp only
      rw [← drop_at hp0]; rfl
    conv => whnf
    repeat' (first | ((with_reducible refine IF.tt ?_); conv => whnf) | ((with_reducible refine IF.ff ?_); conv => whnf) | ((with_reducible refine NEED.mk ?_ ?_); (first | with_reducible rfl | omega | (simp (disch := omega) only [lnB, wrap64, wrap32] <;> omega) | (intro h; (try simp (disch := omega) only [hsB, hsC, lnB, wrap64, wrap32, Int.reduceBEq, Int.reduceBNe, Int.reduceEq, Int.reduceNe, Int.reduceLT, Int.reduceLE, Int.reduceGT, Int.reduceGE, Int.reduceAdd, Int.reduceSub, Int.reduceMul, Int.reduceNeg, reduceCtorEq] at h); (first | omega | (simp (disch := omega) only [lnB, wrap64, wrap32] <;> omega))) | (exact needApp 256 rfl rfl (by simp) (by simp) (by omega)) | (simp <;> omega)); conv => whnf) | ((with_reducible apply GET.at); (rfl); conv => whnf) | ((with_reducible apply GETG.at); (rfl); conv => whnf) | ((with_reducible refine IF.mk (fun h => ?_) (fun h => ?_)) <;> (try simp (disch := omega) only [hsB, hsC, lnB, wrap64, wrap32, Int.reduceBEq, Int.reduceBNe, Int.reduceEq, Int.reduceNe, Int.reduceLT, Int.reduceLE, Int.reduceGT, Int.reduceGE, Int.reduceAdd, Int.reduceSub, Int.reduceMul, Int.reduceNeg, reduceCtorEq] at h) <;> (try (exfalso; omega)) <;> conv => whnf))
    refine LOOP.goes (fr' := frT) (O' := OT ps (0) [] [] [] []) (n1 := 6) ?_ (K (0, [], [], [], []) ⟨htag, by simp only; omega⟩)
    unfold frT OT
    rw [show ps.length - (0) = ps.length by omega]
    (refine GOES.keeping h0 [0, 1, 2, 3, 4, 5] rfl rfl rfl (by first | rfl | (simp only [belowO, belowH, plainLL_below _ (plainStrs _), Bool.and_self, Bool.and_true] <;> rfl)) ?_ ?_ <;> (repeat' (first | (with_reducible rfl) | (exact rows_eq (plainStrs _) (renLL_plain _ (plainStrs _))) | (exact rows_eq (plainStrs _) (by simp [strRow, ofVal, List.take_of_length_le])) | (exact sl_eq rfl (by simp)) | (exact congrArg (SV.int _) (by first | omega | (simp (disch := omega) only [lnB, wrap64, wrap32] <;> omega) | (simp; done) | (simp <;> omega))) | ((conv => whnf); refine ⟨?_, ?_⟩) | exact trivial | (simp only [ren, renB]; done) | rfl)))
  rintro ⟨a0, L, E, S, R⟩ ⟨htag, ha0⟩
  dsimp only at htag ha0 ⊢
  unfold frT OT
  refine LOOP.go tabOK [2, 4, 5] (X := Nat × List (List UInt8)) (fun y => y.1 ≤ ps.length ∧ y.2.length ≤ y.1 ∧ (∀ s ∈ y.2, 4 ≤ s.length ∧ Sm s) ∧ varsP [] (ps.drop a0) = varsP (y.2.map lowerM) (ps.drop y.1)) (fun y => []) (fun y => [(0, tz6), (1, tg6 L E S R 4 y.2.length 5 0 []), (2, .rows 1 (ps.map strRow)), (3, rd6' y.1 (ps.length - y.1)), (4, .rows 1 (y.2.map strRow)), (5, .rows 1 [])]) 6 (fun y => ps.length - y.1) (a0, []) ⟨by simp only; omega, by simp, by simp, rfl⟩ ?_
  conv => whnf
  refine ⟨by (refine GOES.keeping h0 [0, 1, 2, 3, 4, 5] rfl rfl rfl (by first | rfl | (simp only [belowO, belowH, plainLL_below _ (plainStrs _), Bool.and_self, Bool.and_true] <;> rfl)) ?_ ?_ <;> (repeat' (first | (with_reducible rfl) | (exact rows_eq (plainStrs _) (renLL_plain _ (plainStrs _))) | (exact rows_eq (plainStrs _) (by simp [strRow, ofVal, List.take_of_length_le])) | (exact sl_eq rfl (by simp)) | (exact congrArg (SV.int _) (by first | omega | (simp (disch := omega) only [lnB, wrap64, wrap32] <;> omega) | (simp; done) | (simp <;> omega))) | ((conv => whnf); refine ⟨?_, ?_⟩) | exact trivial | (simp only [ren, renB]; done) | rfl))), ?_⟩
  rintro ⟨a, vs⟩ ⟨ha, hvl, hvs, hx⟩
  dsimp only at ha hvl hvs hx ⊢
  conv => whnf
  rcases Nat.lt_or_ge a ps.length with hap | hap
  · obtain ⟨w, hw⟩ : ∃ w, ps[a]? = some w := ⟨_, List.getElem?_eq_getElem hap⟩
    have hwl := hsm w (List.mem_of_getElem? hw)
    obtain ⟨k', hk'⟩ : ∃ k', ps.length - a = k' + 1 := ⟨ps.length - a - 1, by omega⟩
    repeat' (first | ((with_reducible refine IF.tt ?_); conv => whnf) | ((with_reducible refine IF.ff ?_); conv => whnf) | (refine GET.at (row := strRow w) (by rw [List.getElem?_map, show a + (0 : Int).toNat = a by simp, hw]; rfl) ?_; conv => whnf) | (refine CALL.value (r6variant_does _ hwl) rfl rfl ?_; conv => whnf) | ((with_reducible refine NEED.mk ?_ ?_); (first | with_reducible rfl | omega | (simp (disch := omega) only [lnB, wrap64, wrap32] <;> omega) | (intro h; (try simp (disch := omega) only [hsB, hsC, lnB, wrap64, wrap32, Int.reduceBEq, Int.reduceBNe, Int.reduceEq, Int.reduceNe, Int.reduceLT, Int.reduceLE, Int.reduceGT, Int.reduceGE, Int.reduceAdd, Int.reduceSub, Int.reduceMul, Int.reduceNeg, reduceCtorEq] at h); (first | omega | (simp (disch := omega) only [lnB, wrap64, wrap32] <;> omega))) | (exact needApp 256 rfl rfl (by simp) (by simp) (by omega)) | (simp <;> omega)); conv => whnf) | ((with_reducible apply GET.at); (rfl); conv => whnf) | ((with_reducible apply GETG.at); (rfl); conv => whnf) | ((with_reducible refine IF.mk (fun h => ?_) (fun h => ?_)) <;> (try simp (disch := omega) only [hsB, hsC, lnB, wrap64, wrap32, Int.reduceBEq, Int.reduceBNe, Int.reduceEq, Int.reduceNe, Int.reduceLT, Int.reduceLE, Int.reduceGT, Int.reduceGE, Int.reduceAdd, Int.reduceSub, Int.reduceMul, Int.reduceNeg, reduceCtorEq] at h) <;> (try (exfalso; omega)) <;> conv => whnf))
    · have hvm : variantM w = true := by assumption
      have hv4 := variant_len hvm
      rw [hk']
      refine CALL.at [3, 2] (next6_does ps a k' (by omega) w hw) rfl rfl rfl rfl (by first | rfl | (simp only [belowO, belowH, plainLL_below _ (plainStrs _), Bool.and_self, Bool.and_true] <;> rfl)) (by first | rfl | (simp only [belowO, belowH, plainLL_below _ (plainStrs _), Bool.and_self, Bool.and_true] <;> rfl)) (by repeat' (first | exact trivial | exact (renH_plain _ (h := .rows _ _) (plainStrs _)).symm | exact rfl | exact (renH_plain _ (h := .rows _ _) (plainStrs _)).trans (renH_plain _ (h := .rows _ _) (plainStrs _)).symm | ((conv => whnf); refine ⟨?_, ?_⟩))) (by repeat' (first | exact trivial | exact (renH_plain _ (h := .rows _ _) (plainStrs _)).symm | exact rfl | exact (renH_plain _ (h := .rows _ _) (plainStrs _)).trans (renH_plain _ (h := .rows _ _) (plainStrs _)).symm | ((conv => whnf); refine ⟨?_, ?_⟩))) rfl rfl ?_
      rintro r O' nx' ⟨rfl, rfl, rfl⟩
      have hxa : varsP (vs.map lowerM) (ps.drop a) = if lowerM w ∈ vs.map lowerM then none else varsP (vs.map lowerM ++ [lowerM w]) (ps.drop (a + 1)) := by
        rw [drop_at hw]; simp only [varsP]; rw [if_pos hvm]
      conv => whnf
      refine LOOP.go tabOK [2, 4, 5, 7] (X := Nat) (fun i => i ≤ vs.length ∧ lowerM w ∉ (vs.take i).map lowerM) (fun i => [(8, .int .i64 (i : Int))]) (fun i => [(0, tz6), (1, tg6 L E S R 4 vs.length 5 0 []), (2, .rows 1 (ps.map strRow)), (3, rd6' (a + 1) k'), (4, .rows 1 (vs.map strRow)), (5, .rows 1 [])]) 6 (fun i => vs.length - i) 0 ⟨by omega, by simp⟩ ?_
      conv => whnf
      refine ⟨by (refine GOES.keeping h0 [0, 1, 2, 3, 4, 5] rfl rfl rfl (by first | rfl | (simp only [belowO, belowH, plainLL_below _ (plainStrs _), Bool.and_self, Bool.and_true] <;> rfl)) ?_ ?_ <;> (repeat' (first | (with_reducible rfl) | (exact rows_eq (plainStrs _) (renLL_plain _ (plainStrs _))) | (exact rows_eq (plainStrs _) (by simp [strRow, ofVal, List.take_of_length_le])) | (exact sl_eq rfl (by simp)) | (exact congrArg (SV.int _) (by first | omega | (simp (disch := omega) only [lnB, wrap64, wrap32] <;> omega) | (simp; done) | (simp <;> omega))) | ((conv => whnf); refine ⟨?_, ?_⟩) | exact trivial | (simp only [ren, renB]; done) | rfl))), ?_⟩
      rintro i ⟨hi, hn⟩
      dsimp only at hi hn ⊢
      conv => whnf
      rcases Nat.lt_or_ge i vs.length with hiv | hiv
      · have hvi := (hvs _ (List.getElem_mem hiv)).2
        repeat' (first | ((with_reducible refine IF.tt ?_); conv => whnf) | ((with_reducible refine IF.ff ?_); conv => whnf) | (refine GET.at (row := strRow (vs[i]'(by omega))) (by rw [List.getElem?_map, show 0 + (i : Int).toNat = i by simp, List.getElem?_eq_getElem (by omega)]; rfl) ?_; conv => whnf) | (refine CALL.value (r6lower_does _ hvi) rfl rfl ?_; conv => whnf) | (refine CALL.value (r6lower_does _ hwl) rfl rfl ?_; conv => whnf) | ((with_reducible refine NEED.mk ?_ ?_); (first | with_reducible rfl | omega | (simp (disch := omega) only [lnB, wrap64, wrap32] <;> omega) | (intro h; (try simp (disch := omega) only [hsB, hsC, lnB, wrap64, wrap32, Int.reduceBEq, Int.reduceBNe, Int.reduceEq, Int.reduceNe, Int.reduceLT, Int.reduceLE, Int.reduceGT, Int.reduceGE, Int.reduceAdd, Int.reduceSub, Int.reduceMul, Int.reduceNeg, reduceCtorEq] at h); (first | omega | (simp (disch := omega) only [lnB, wrap64, wrap32] <;> omega))) | (exact needApp 256 rfl rfl (by simp) (by simp) (by omega)) | (simp <;> omega)); conv => whnf) | ((with_reducible apply GET.at); (rfl); conv => whnf) | ((with_reducible apply GETG.at); (rfl); conv => whnf) | ((with_reducible refine IF.mk (fun h => ?_) (fun h => ?_)) <;> (try simp (disch := omega) only [hsB, hsC, lnB, wrap64, wrap32, Int.reduceBEq, Int.reduceBNe, Int.reduceEq, Int.reduceNe, Int.reduceLT, Int.reduceLE, Int.reduceGT, Int.reduceGE, Int.reduceAdd, Int.reduceSub, Int.reduceMul, Int.reduceNeg, reduceCtorEq] at h) <;> (try (exfalso; omega)) <;> conv => whnf))
        · have hin : lowerM w ∈ vs.map lowerM := by rw [← (by assumption : lowerM vs[i] = lowerM w)]; exact List.mem_map_of_mem (List.getElem_mem hiv)
          refine FIN.anyA 7 h0 rfl rfl rfl ⟨?_, rfl, rfl⟩
          rw [htag]; unfold contP; rw [hx, hxa, if_pos hin]; rfl
        · refine ⟨i + 1, ⟨by omega, ?_⟩, by omega, ?_⟩
          · rw [List.take_succ_eq_append_getElem hiv, List.map_append, List.mem_append]
            rintro (h1 | h1)
            · exact hn h1
            · have : lowerM w = lowerM vs[i] := by simpa using h1
              exact (by assumption : ¬ lowerM vs[i] = lowerM w) this.symm
          · conv => whnf
            (refine GOES.keeping h0 [0, 1, 2, 3, 4, 5] rfl rfl rfl (by first | rfl | (simp only [belowO, belowH, plainLL_below _ (plainStrs _), Bool.and_self, Bool.and_true] <;> rfl)) ?_ ?_ <;> (repeat' (first | (with_reducible rfl) | (exact rows_eq (plainStrs _) (renLL_plain _ (plainStrs _))) | (exact rows_eq (plainStrs _) (by simp [strRow, ofVal, List.take_of_length_le])) | (exact sl_eq rfl (by simp)) | (exact congrArg (SV.int _) (by first | omega | (simp (disch := omega) only [lnB, wrap64, wrap32] <;> omega) | (simp; done) | (simp <;> omega))) | ((conv => whnf); refine ⟨?_, ?_⟩) | exact trivial | (simp only [ren, renB]; done) | rfl)))
      · rw [List.take_of_length_le (by omega)] at hn
        repeat' (first | ((with_reducible refine IF.tt ?_); conv => whnf) | ((with_reducible refine IF.ff ?_); conv => whnf) | ((with_reducible refine NEED.mk ?_ ?_); (first | with_reducible rfl | omega | (simp (disch := omega) only [lnB, wrap64, wrap32] <;> omega) | (intro h; (try simp (disch := omega) only [hsB, hsC, lnB, wrap64, wrap32, Int.reduceBEq, Int.reduceBNe, Int.reduceEq, Int.reduceNe, Int.reduceLT, Int.reduceLE, Int.reduceGT, Int.reduceGE, Int.reduceAdd, Int.reduceSub, Int.reduceMul, Int.reduceNeg, reduceCtorEq] at h); (first | omega | (simp (disch := omega) only [lnB, wrap64, wrap32] <;> omega))) | (exact needApp 256 rfl rfl (by simp) (by simp) (by omega)) | (simp <;> omega)); conv => whnf) | ((with_reducible apply GET.at); (rfl); conv => whnf) | ((with_reducible apply GETG.at); (rfl); conv => whnf) | ((with_reducible refine IF.mk (fun h => ?_) (fun h => ?_)) <;> (try simp (disch := omega) only [hsB, hsC, lnB, wrap64, wrap32, Int.reduceBEq, Int.reduceBNe, Int.reduceEq, Int.reduceNe, Int.reduceLT, Int.reduceLE, Int.reduceGT, Int.reduceGE, Int.reduceAdd, Int.reduceSub, Int.reduceMul, Int.reduceNeg, reduceCtorEq] at h) <;> (try (exfalso; omega)) <;> conv => whnf))
        have e : (vs ++ [w]).length = vs.length + 1 := by simp
        refine ⟨(a + 1, vs ++ [w]), ⟨by simp only; omega, by simp; omega, ?_, by simp only; rw [hx, hxa, if_neg hn]; simp⟩, by simp only; omega, ?_⟩
        · intro x hx'
          rcases List.mem_append.1 hx' with h1 | h1
          · exact hvs x h1
          · rw [List.mem_singleton.1 h1]; exact ⟨hv4, hwl⟩
        · dsimp only
          rw [e, show ps.length - (a + 1) = k' by omega]
          conv => whnf
          (refine GOES.keeping h0 [0, 1, 2, 3, 7, 5] rfl rfl rfl (by first | rfl | (simp only [belowO, belowH, plainLL_below _ (plainStrs _), Bool.and_self, Bool.and_true] <;> rfl)) ?_ ?_ <;> (repeat' (first | (with_reducible rfl) | (exact rows_eq (plainStrs _) (renLL_plain _ (plainStrs _))) | (exact rows_eq (plainStrs _) (by simp [strRow, ofVal, List.take_of_length_le])) | (exact sl_eq rfl (by simp)) | (exact congrArg (SV.int _) (by first | omega | (simp (disch := omega) only [lnB, wrap64, wrap32] <;> omega) | (simp; done) | (simp <;> omega))) | ((conv => whnf); refine ⟨?_, ?_⟩) | exact trivial | (simp only [ren, renB]; done) | rfl)))
    · have hvm : variantM w = false := by assumption
      have hv0 : varsP (vs.map lowerM) (ps.drop a) = some (ps.drop a, vs.map lowerM) := by
        rw [drop_at hw]; simp only [varsP]; rw [if_neg (by simp [hvm])]
      have hc0 : tagP ps = match extsP (vs.map lowerM) (ps.drop a) with | none => false | some l => lastP l := by rw [htag]; unfold contP; rw [hx, hv0]
      refine LOOP.go tabOK [2, 4, 5] (X := Nat × List (List UInt8)) (fun y => y.1 ≤ ps.length ∧ y.2.length ≤ y.1 ∧ (∀ x ∈ y.2, 1 ≤ x.length ∧ Sm x) ∧ extsP (vs.map lowerM) (ps.drop a) = extsP (vs.map lowerM ++ y.2.map fun x => lowerM (x.take 1)) (ps.drop y.1)) (fun y => []) (fun y => [(0, tz6), (1, tg6 L E S R 4 vs.length 5 y.2.length []), (2, .rows 1 (ps.map strRow)), (3, rd6' y.1 (ps.length - y.1)), (4, .rows 1 (vs.map strRow)), (5, .rows 1 (y.2.map strRow))]) 6 (fun y => ps.length - y.1) (a, []) ⟨by simp only; omega, by simp, by simp, by simp⟩ ?_
      conv => whnf
      refine ⟨by (refine GOES.keeping h0 [0, 1, 2, 3, 4, 5] rfl rfl rfl (by first | rfl | (simp only [belowO, belowH, plainLL_below _ (plainStrs _), Bool.and_self, Bool.and_true] <;> rfl)) ?_ ?_ <;> (repeat' (first | (with_reducible rfl) | (exact rows_eq (plainStrs _) (renLL_plain _ (plainStrs _))) | (exact rows_eq (plainStrs _) (by simp [strRow, ofVal, List.take_of_length_le])) | (exact sl_eq rfl (by simp)) | (exact congrArg (SV.int _) (by first | omega | (simp (disch := omega) only [lnB, wrap64, wrap32] <;> omega) | (simp; done) | (simp <;> omega))) | ((conv => whnf); refine ⟨?_, ?_⟩) | exact trivial | (simp only [ren, renB]; done) | rfl))), ?_⟩
      rintro ⟨b, xs⟩ ⟨hb1, hxl, hxs, hy⟩
      dsimp only at hb1 hxl hxs hy ⊢
      conv => whnf
      rcases Nat.lt_or_ge b ps.length with hbp | hbp
      · obtain ⟨u, hu⟩ : ∃ u, ps[b]? = some u := ⟨_, List.getElem?_eq_getElem hbp⟩
        have hul := hsm u (List.mem_of_getElem? hu)
        obtain ⟨k', hk'⟩ : ∃ k', ps.length - b = k' + 1 := ⟨ps.length - b - 1, by omega⟩
        clear hx hv0 hvl
        repeat' (first | ((with_reducible refine IF.tt ?_); conv => whnf) | ((with_reducible refine IF.ff ?_); conv => whnf) | (refine GET.at (row := strRow u) (by rw [List.getElem?_map, show b + (0 : Int).toNat = b by simp, hu]; rfl) ?_; conv => whnf) | (refine CALL.value (r6lower_does _ hul) rfl rfl ?_; conv => whnf) | (refine CALL.value (r6both_does _ _ _ hul) rfl rfl ?_; conv => whnf) | ((with_reducible refine NEED.mk ?_ ?_); (first | with_reducible rfl | omega | (simp (disch := omega) only [lnB, wrap64, wrap32] <;> omega) | (intro h; (try simp (disch := omega) only [hsB, hsC, lnB, wrap64, wrap32, Int.reduceBEq, Int.reduceBNe, Int.reduceEq, Int.reduceNe, Int.reduceLT, Int.reduceLE, Int.reduceGT, Int.reduceGE, Int.reduceAdd, Int.reduceSub, Int.reduceMul, Int.reduceNeg, reduceCtorEq] at h); (first | omega | (simp (disch := omega) only [lnB, wrap64, wrap32] <;> omega))) | (exact needApp 256 rfl rfl (by simp) (by simp) (by omega)) | (simp <;> omega)); conv => whnf) | ((with_reducible apply GET.at); (rfl); conv => whnf) | ((with_reducible apply GETG.at); (rfl); conv => whnf) | ((with_reducible refine IF.mk (fun h => ?_) (fun h => ?_)) <;> (try simp (disch := omega) only [hsB, hsC, lnB, wrap64, wrap32, Int.reduceBEq, Int.reduceBNe, Int.reduceEq, Int.reduceNe, Int.reduceLT, Int.reduceLE, Int.reduceGT, Int.reduceGE, Int.reduceAdd, Int.reduceSub, Int.reduceMul, Int.reduceNeg, reduceCtorEq] at h) <;> (try (exfalso; omega)) <;> conv => whnf))
        all_goals try (exact absurd (by assumption : lowerM u = [120]) (by assumption))
        · have hnp : privateM u = false := by rw [private_lower]; simpa using (by assumption : ¬ lowerM u = [120])
          have hmm : madeM u 1 1 false = true := by assumption
          have hsg : singleM u = true := by unfold singleM; rw [hmm, hnp]; rfl
          have hu1 : u.length = 1 := by have := made_len hmm; omega
          rw [hk']
          refine CALL.at [3, 2, 1, 4, 5] (extension6_does ps hb b k' (by omega) u hu hu1 L E S R vs.length [] xs hxs (by omega)) rfl rfl rfl rfl (by first | rfl | (simp only [belowO, belowH, plainLL_below _ (plainStrs _), Bool.and_self, Bool.and_true] <;> rfl)) (by first | rfl | (simp only [belowO, belowH, plainLL_below _ (plainStrs _), Bool.and_self, Bool.and_true] <;> rfl)) (by repeat' (first | exact trivial | exact (renH_plain _ (h := .rows _ _) (plainStrs _)).symm | exact rfl | exact (renH_plain _ (h := .rows _ _) (plainStrs _)).trans (renH_plain _ (h := .rows _ _) (plainStrs _)).symm | ((conv => whnf); refine ⟨?_, ?_⟩))) (by repeat' (first | exact trivial | exact (renH_plain _ (h := .rows _ _) (plainStrs _)).symm | exact rfl | exact (renH_plain _ (h := .rows _ _) (plainStrs _)).trans (renH_plain _ (h := .rows _ _) (plainStrs _)).symm | ((conv => whnf); refine ⟨?_, ?_⟩))) rfl rfl ?_
          rintro r O' nx' ⟨n, xs', hn, rfl, hz, rfl, rfl⟩
          have hnle : n ≤ (ps.drop (b + 1)).length := by rw [hn]; exact span_le _ _
          rw [List.length_drop] at hnle
          have hmem : lowerM u ∈ vs.map lowerM ++ (xs.map fun x => lowerM (x.take 1)) ↔ dupM xs u = true := by
            unfold dupM
            rw [List.mem_append, List.any_eq_true]
            constructor
            · rintro (h | h)
              · obtain ⟨v, hv, he⟩ := List.mem_map.1 h
                have h1 := (hvs v hv).1
                have h2 := congrArg List.length he
                unfold lowerM at h2; simp only [List.length_map] at h2; omega
              · obtain ⟨x, hx, he⟩ := List.mem_map.1 h
                exact ⟨x, hx, by simp [he]⟩
            · rintro ⟨x, hx, he⟩
              exact .inr (List.mem_map.2 ⟨x, hx, by simpa using he⟩)
          have hya : extsP (vs.map lowerM ++ xs.map fun x => lowerM (x.take 1)) (ps.drop b) = if n = 0 ∨ dupM xs u = true then none else extsP ((vs.map lowerM ++ xs.map fun x => lowerM (x.take 1)) ++ [lowerM u]) (ps.drop (b + 1 + n)) := by
            rw [drop_at hu, extsP, if_pos hsg, ← hn, List.drop_drop]
            simp only [hmem]
          by_cases hgood : dupM xs u = false ∧ n ≠ 0
          · obtain ⟨z, rfl, hz1, hz2⟩ := hz hgood.1
            rw [show (!dupM xs u && decide (n ≠ 0)) = true by simp [hgood]]
            conv => whnf
            repeat' (first | ((with_reducible refine IF.tt ?_); conv => whnf) | ((with_reducible refine IF.ff ?_); conv => whnf) | ((with_reducible refine NEED.mk ?_ ?_); (first | with_reducible rfl | omega | (simp (disch := omega) only [lnB, wrap64, wrap32] <;> omega) | (intro h; (try simp (disch := omega) only [hsB, hsC, lnB, wrap64, wrap32, Int.reduceBEq, Int.reduceBNe, Int.reduceEq, Int.reduceNe, Int.reduceLT, Int.reduceLE, Int.reduceGT, Int.reduceGE, Int.reduceAdd, Int.reduceSub, Int.reduceMul, Int.reduceNeg, reduceCtorEq] at h); (first | omega | (simp (disch := omega) only [lnB, wrap64, wrap32] <;> omega))) | (exact needApp 256 rfl rfl (by simp) (by simp) (by omega)) | (simp <;> omega)); conv => whnf) | ((with_reducible apply GET.at); (rfl); conv => whnf) | ((with_reducible apply GETG.at); (rfl); conv => whnf) | ((with_reducible refine IF.mk (fun h => ?_) (fun h => ?_)) <;> (try simp (disch := omega) only [hsB, hsC, lnB, wrap64, wrap32, Int.reduceBEq, Int.reduceBNe, Int.reduceEq, Int.reduceNe, Int.reduceLT, Int.reduceLE, Int.reduceGT, Int.reduceGE, Int.reduceAdd, Int.reduceSub, Int.reduceMul, Int.reduceNeg, reduceCtorEq] at h) <;> (try (exfalso; omega)) <;> conv => whnf))
            have e : (xs ++ [z]).length = xs.length + 1 := by simp
            refine ⟨(b + 1 + n, xs ++ [z]), ⟨by simp only; omega, by simp; omega, ?_, ?_⟩, by simp only; omega, ?_⟩
            · intro x hx'
              rcases List.mem_append.1 hx' with h1 | h1
              · exact hxs x h1
              · rw [List.mem_singleton.1 h1]
                refine ⟨?_, hz2⟩
                rcases z with _ | ⟨c, t⟩
                · simp at hz1; subst hz1; simp at hu1
                · simp
            · simp only
              rw [hy, hya, if_neg (by simp [hgood])]
              simp [hz1]
            · dsimp only
              rw [show ps.length - (b + 1 + n) = k' - n by omega]
              conv => whnf
              (refine GOES.keeping h0 [0, 1, 2, 3, 4, 6] rfl rfl rfl (by first | rfl | (simp only [belowO, belowH, plainLL_below _ (plainStrs _), Bool.and_self, Bool.and_true] <;> rfl)) ?_ ?_ <;> (repeat' (first | (with_reducible rfl) | (exact rows_eq (plainStrs _) (renLL_plain _ (plainStrs _))) | (exact rows_eq (plainStrs _) (by simp [strRow, ofVal, List.take_of_length_le])) | (exact sl_eq rfl (by simp)) | (exact congrArg (SV.int _) (by first | omega | (simp (disch := omega) only [lnB, wrap64, wrap32] <;> omega) | (simp; done) | (simp <;> omega))) | ((conv => whnf); refine ⟨?_, ?_⟩) | exact trivial | (simp only [ren, renB]; done) | rfl)))
          · have hbad : n = 0 ∨ dupM xs u = true := by
              rcases Nat.eq_zero_or_pos n with h | h
              · exact .inl h
              · right
                cases hd : dupM xs u with
                | true => rfl
                | false => exact absurd ⟨hd, by omega⟩ hgood
            have htf : tagP ps = false := by rw [hc0, hy, hya, if_pos hbad]
            rw [show (!dupM xs u && decide (n ≠ 0)) = false by rcases hbad with h | h <;> simp [h]]
            conv => whnf
            repeat' (first | ((with_reducible refine IF.tt ?_); conv => whnf) | ((with_reducible refine IF.ff ?_); conv => whnf) | ((with_reducible refine NEED.mk ?_ ?_); (first | with_reducible rfl | omega | (simp (disch := omega) only [lnB, wrap64, wrap32] <;> omega) | (intro h; (try simp (disch := omega) only [hsB, hsC, lnB, wrap64, wrap32, Int.reduceBEq, Int.reduceBNe, Int.reduceEq, Int.reduceNe, Int.reduceLT, Int.reduceLE, Int.reduceGT, Int.reduceGE, Int.reduceAdd, Int.reduceSub, Int.reduceMul, Int.reduceNeg, reduceCtorEq] at h); (first | omega | (simp (disch := omega) only [lnB, wrap64, wrap32] <;> omega))) | (exact needApp 256 rfl rfl (by simp) (by simp) (by omega)) | (simp <;> omega)); conv => whnf) | ((with_reducible apply GET.at); (rfl); conv => whnf) | ((with_reducible apply GETG.at); (rfl); conv => whnf) | ((with_reducible refine IF.mk (fun h => ?_) (fun h => ?_)) <;> (try simp (disch := omega) only [hsB, hsC, lnB, wrap64, wrap32, Int.reduceBEq, Int.reduceBNe, Int.reduceEq, Int.reduceNe, Int.reduceLT, Int.reduceLE, Int.reduceGT, Int.reduceGE, Int.reduceAdd, Int.reduceSub, Int.reduceMul, Int.reduceNeg, reduceCtorEq] at h) <;> (try (exfalso; omega)) <;> conv => whnf))
            refine FIN.anyA 7 h0 rfl rfl rfl ⟨?_, rfl, rfl⟩
            rw [htf]; rfl
        · have hnp : privateM u = false := by rw [private_lower]; simpa using (by assumption : ¬ lowerM u = [120])
          have hmm : madeM u 1 1 false = false := by assumption
          have hsg : ¬ singleM u = true := by unfold singleM; simp [hmm]
          have hlast : tagP ps = false := by
            rw [hc0, hy, drop_at hu, extsP, if_neg hsg]; simp only [lastP]; rw [if_neg (by simp [hnp])]
          refine FIN.anyA 7 h0 rfl rfl rfl ⟨?_, rfl, rfl⟩
          rw [hlast]; rfl
        · have hpv : privateM u = true := by rw [private_lower]; simpa using (by assumption : lowerM u = [120])
          have hsg : ¬ singleM u = true := by unfold singleM; simp [hpv]
          have hlast : tagP ps = decide (spanM (partOK 1) (ps.drop (b + 1)) ≠ 0 ∧ spanM (partOK 1) (ps.drop (b + 1)) = (ps.drop (b + 1)).length) := by
            rw [hc0, hy, drop_at hu, extsP, if_neg hsg]; simp only [lastP]; rw [if_pos hpv]
          refine CALL.at [3, 2, 1, 4, 5] (private6_does ps hb b (ps.length - b) (by omega) hbp L E S R vs.length xs.length []) rfl rfl rfl rfl (by first | rfl | (simp only [belowO, belowH, plainLL_below _ (plainStrs _), Bool.and_self, Bool.and_true] <;> rfl)) (by first | rfl | (simp only [belowO, belowH, plainLL_below _ (plainStrs _), Bool.and_self, Bool.and_true] <;> rfl)) (by repeat' (first | exact trivial | exact (renH_plain _ (h := .rows _ _) (plainStrs _)).symm | exact rfl | exact (renH_plain _ (h := .rows _ _) (plainStrs _)).trans (renH_plain _ (h := .rows _ _) (plainStrs _)).symm | ((conv => whnf); refine ⟨?_, ?_⟩))) (by repeat' (first | exact trivial | exact (renH_plain _ (h := .rows _ _) (plainStrs _)).symm | exact rfl | exact (renH_plain _ (h := .rows _ _) (plainStrs _)).trans (renH_plain _ (h := .rows _ _) (plainStrs _)).symm | ((conv => whnf); refine ⟨?_, ?_⟩))) rfl rfl ?_
          rintro r O' nx' ⟨P', rfl, rfl, rfl⟩
          rw [← hlast]
          cases htf : tagP ps with
          | true =>
            conv => whnf
            repeat' (first | ((with_reducible refine IF.tt ?_); conv => whnf) | ((with_reducible refine IF.ff ?_); conv => whnf) | ((with_reducible refine NEED.mk ?_ ?_); (first | with_reducible rfl | omega | (simp (disch := omega) only [lnB, wrap64, wrap32] <;> omega) | (intro h; (try simp (disch := omega) only [hsB, hsC, lnB, wrap64, wrap32, Int.reduceBEq, Int.reduceBNe, Int.reduceEq, Int.reduceNe, Int.reduceLT, Int.reduceLE, Int.reduceGT, Int.reduceGE, Int.reduceAdd, Int.reduceSub, Int.reduceMul, Int.reduceNeg, reduceCtorEq] at h); (first | omega | (simp (disch := omega) only [lnB, wrap64, wrap32] <;> omega))) | (exact needApp 256 rfl rfl (by simp) (by simp) (by omega)) | (simp <;> omega)); conv => whnf) | ((with_reducible apply GET.at); (rfl); conv => whnf) | ((with_reducible apply GETG.at); (rfl); conv => whnf) | ((with_reducible refine IF.mk (fun h => ?_) (fun h => ?_)) <;> (try simp (disch := omega) only [hsB, hsC, lnB, wrap64, wrap32, Int.reduceBEq, Int.reduceBNe, Int.reduceEq, Int.reduceNe, Int.reduceLT, Int.reduceLE, Int.reduceGT, Int.reduceGE, Int.reduceAdd, Int.reduceSub, Int.reduceMul, Int.reduceNeg, reduceCtorEq] at h) <;> (try (exfalso; omega)) <;> conv => whnf))
            exact FIN.anyA 7 h0 rfl rfl rfl ⟨rfl, rfl, rfl⟩
          | false =>
            conv => whnf
            repeat' (first | ((with_reducible refine IF.tt ?_); conv => whnf) | ((with_reducible refine IF.ff ?_); conv => whnf) | ((with_reducible refine NEED.mk ?_ ?_); (first | with_reducible rfl | omega | (simp (disch := omega) only [lnB, wrap64, wrap32] <;> omega) | (intro h; (try simp (disch := omega) only [hsB, hsC, lnB, wrap64, wrap32, Int.reduceBEq, Int.reduceBNe, Int.reduceEq, Int.reduceNe, Int.reduceLT, Int.reduceLE, Int.reduceGT, Int.reduceGE, Int.reduceAdd, Int.reduceSub, Int.reduceMul, Int.reduceNeg, reduceCtorEq] at h); (first | omega | (simp (disch := omega) only [lnB, wrap64, wrap32] <;> omega))) | (exact needApp 256 rfl rfl (by simp) (by simp) (by omega)) | (simp <;> omega)); conv => whnf) | ((with_reducible apply GET.at); (rfl); conv => whnf) | ((with_reducible apply GETG.at); (rfl); conv => whnf) | ((with_reducible refine IF.mk (fun h => ?_) (fun h => ?_)) <;> (try simp (disch := omega) only [hsB, hsC, lnB, wrap64, wrap32, Int.reduceBEq, Int.reduceBNe, Int.reduceEq, Int.reduceNe, Int.reduceLT, Int.reduceLE, Int.reduceGT, Int.reduceGE, Int.reduceAdd, Int.reduceSub, Int.reduceMul, Int.reduceNeg, reduceCtorEq] at h) <;> (try (exfalso; omega)) <;> conv => whnf))
            exact FIN.anyA 7 h0 rfl rfl rfl ⟨rfl, rfl, rfl⟩
      · repeat' (first | ((with_reducible refine IF.tt ?_); conv => whnf) | ((with_reducible refine IF.ff ?_); conv => whnf) | ((with_reducible refine NEED.mk ?_ ?_); (first | with_reducible rfl | omega | (simp (disch := omega) only [lnB, wrap64, wrap32] <;> omega) | (intro h; (try simp (disch := omega) only [hsB, hsC, lnB, wrap64, wrap32, Int.reduceBEq, Int.reduceBNe, Int.reduceEq, Int.reduceNe, Int.reduceLT, Int.reduceLE, Int.reduceGT, Int.reduceGE, Int.reduceAdd, Int.reduceSub, Int.reduceMul, Int.reduceNeg, reduceCtorEq] at h); (first | omega | (simp (disch := omega) only [lnB, wrap64, wrap32] <;> omega))) | (exact needApp 256 rfl rfl (by simp) (by simp) (by omega)) | (simp <;> omega)); conv => whnf) | ((with_reducible apply GET.at); (rfl); conv => whnf) | ((with_reducible apply GETG.at); (rfl); conv => whnf) | ((with_reducible refine IF.mk (fun h => ?_) (fun h => ?_)) <;> (try simp (disch := omega) only [hsB, hsC, lnB, wrap64, wrap32, Int.reduceBEq, Int.reduceBNe, Int.reduceEq, Int.reduceNe, Int.reduceLT, Int.reduceLE, Int.reduceGT, Int.reduceGE, Int.reduceAdd, Int.reduceSub, Int.reduceMul, Int.reduceNeg, reduceCtorEq] at h) <;> (try (exfalso; omega)) <;> conv => whnf))
        have hlast : tagP ps = true := by rw [hc0, hy, List.drop_eq_nil_of_le (by omega), extsP]; rfl
        refine FIN.anyA 7 h0 rfl rfl rfl ⟨?_, rfl, rfl⟩
        rw [hlast]; rfl
  · repeat' (first | ((with_reducible refine IF.tt ?_); conv => whnf) | ((with_reducible refine IF.ff ?_); conv => whnf) | ((with_reducible refine NEED.mk ?_ ?_); (first | with_reducible rfl | omega | (simp (disch := omega) only [lnB, wrap64, wrap32] <;> omega) | (intro h; (try simp (disch := omega) only [hsB, hsC, lnB, wrap64, wrap32, Int.reduceBEq, Int.reduceBNe, Int.reduceEq, Int.reduceNe, Int.reduceLT, Int.reduceLE, Int.reduceGT, Int.reduceGE, Int.reduceAdd, Int.reduceSub, Int.reduceMul, Int.reduceNeg, reduceCtorEq] at h); (first | omega | (simp (disch := omega) only [lnB, wrap64, wrap32] <;> omega))) | (exact needApp 256 rfl rfl (by simp) (by simp) (by omega)) | (simp <;> omega)); conv => whnf) | ((with_reducible apply GET.at); (rfl); conv => whnf) | ((with_reducible apply GETG.at); (rfl); conv => whnf) | ((with_reducible refine IF.mk (fun h => ?_) (fun h => ?_)) <;> (try simp (disch := omega) only [hsB, hsC, lnB, wrap64, wrap32, Int.reduceBEq, Int.reduceBNe, Int.reduceEq, Int.reduceNe, Int.reduceLT, Int.reduceLE, Int.reduceGT, Int.reduceGE, Int.reduceAdd, Int.reduceSub, Int.reduceMul, Int.reduceNeg, reduceCtorEq] at h) <;> (try (exfalso; omega)) <;> conv => whnf))
    have hv0 : varsP (vs.map lowerM) (ps.drop a) = some (ps.drop a, vs.map lowerM) := by
      rw [List.drop_eq_nil_of_le (by omega)]; rfl
    have hc0 : tagP ps = match extsP (vs.map lowerM) (ps.drop a) with | none => false | some l => lastP l := by rw [htag]; unfold contP; rw [hx, hv0]
    refine LOOP.go tabOK [2, 4, 5] (X := Nat × List (List UInt8)) (fun y => y.1 ≤ ps.length ∧ y.2.length ≤ y.1 ∧ (∀ x ∈ y.2, 1 ≤ x.length ∧ Sm x) ∧ extsP (vs.map lowerM) (ps.drop a) = extsP (vs.map lowerM ++ y.2.map fun x => lowerM (x.take 1)) (ps.drop y.1)) (fun y => []) (fun y => [(0, tz6), (1, tg6 L E S R 4 vs.length 5 y.2.length []), (2, .rows 1 (ps.map strRow)), (3, rd6' y.1 (ps.length - y.1)), (4, .rows 1 (vs.map strRow)), (5, .rows 1 (y.2.map strRow))]) 6 (fun y => ps.length - y.1) (a, []) ⟨by simp only; omega, by simp, by simp, by simp⟩ ?_
    conv => whnf
    refine ⟨by (refine GOES.keeping h0 [0, 1, 2, 3, 4, 5] rfl rfl rfl (by first | rfl | (simp only [belowO, belowH, plainLL_below _ (plainStrs _), Bool.and_self, Bool.and_true] <;> rfl)) ?_ ?_ <;> (repeat' (first | (with_reducible rfl) | (exact rows_eq (plainStrs _) (renLL_plain _ (plainStrs _))) | (exact rows_eq (plainStrs _) (by simp [strRow, ofVal, List.take_of_length_le])) | (exact sl_eq rfl (by simp)) | (exact congrArg (SV.int _) (by first | omega | (simp (disch := omega) only [lnB, wrap64, wrap32] <;> omega) | (simp; done) | (simp <;> omega))) | ((conv => whnf); refine ⟨?_, ?_⟩) | exact trivial | (simp only [ren, renB]; done) | rfl))), ?_⟩
    rintro ⟨b, xs⟩ ⟨hb1, hxl, hxs, hy⟩
    dsimp only at hb1 hxl hxs hy ⊢
    conv => whnf
    rcases Nat.lt_or_ge b ps.length with hbp | hbp
    · obtain ⟨u, hu⟩ : ∃ u, ps[b]? = some u := ⟨_, List.getElem?_eq_getElem hbp⟩
      have hul := hsm u (List.mem_of_getElem? hu)
      obtain ⟨k', hk'⟩ : ∃ k', ps.length - b = k' + 1 := ⟨ps.length - b - 1, by omega⟩
      clear hx hv0 hvl
      repeat' (first | ((with_reducible refine IF.tt ?_); conv => whnf) | ((with_reducible refine IF.ff ?_); conv => whnf) | (refine GET.at (row := strRow u) (by rw [List.getElem?_map, show b + (0 : Int).toNat = b by simp, hu]; rfl) ?_; conv => whnf) | (refine CALL.value (r6lower_does _ hul) rfl rfl ?_; conv => whnf) | (refine CALL.value (r6both_does _ _ _ hul) rfl rfl ?_; conv => whnf) | ((with_reducible refine NEED.mk ?_ ?_); (first | with_reducible rfl | omega | (simp (disch := omega) only [lnB, wrap64, wrap32] <;> omega) | (intro h; (try simp (disch := omega) only [hsB, hsC, lnB, wrap64, wrap32, Int.reduceBEq, Int.reduceBNe, Int.reduceEq, Int.reduceNe, Int.reduceLT, Int.reduceLE, Int.reduceGT, Int.reduceGE, Int.reduceAdd, Int.reduceSub, Int.reduceMul, Int.reduceNeg, reduceCtorEq] at h); (first | omega | (simp (disch := omega) only [lnB, wrap64, wrap32] <;> omega))) | (exact needApp 256 rfl rfl (by simp) (by simp) (by omega)) | (simp <;> omega)); conv => whnf) | ((with_reducible apply GET.at); (rfl); conv => whnf) | ((with_reducible apply GETG.at); (rfl); conv => whnf) | ((with_reducible refine IF.mk (fun h => ?_) (fun h => ?_)) <;> (try simp (disch := omega) only [hsB, hsC, lnB, wrap64, wrap32, Int.reduceBEq, Int.reduceBNe, Int.reduceEq, Int.reduceNe, Int.reduceLT, Int.reduceLE, Int.reduceGT, Int.reduceGE, Int.reduceAdd, Int.reduceSub, Int.reduceMul, Int.reduceNeg, reduceCtorEq] at h) <;> (try (exfalso; omega)) <;> conv => whnf))
      all_goals try (exact absurd (by assumption : lowerM u = [120]) (by assumption))
      · have hnp : privateM u = false := by rw [private_lower]; simpa using (by assumption : ¬ lowerM u = [120])
        have hmm : madeM u 1 1 false = true := by assumption
        have hsg : singleM u = true := by unfold singleM; rw [hmm, hnp]; rfl
        have hu1 : u.length = 1 := by have := made_len hmm; omega
        rw [hk']
        refine CALL.at [3, 2, 1, 4, 5] (extension6_does ps hb b k' (by omega) u hu hu1 L E S R vs.length [] xs hxs (by omega)) rfl rfl rfl rfl (by first | rfl | (simp only [belowO, belowH, plainLL_below _ (plainStrs _), Bool.and_self, Bool.and_true] <;> rfl)) (by first | rfl | (simp only [belowO, belowH, plainLL_below _ (plainStrs _), Bool.and_self, Bool.and_true] <;> rfl)) (by repeat' (first | exact trivial | exact (renH_plain _ (h := .rows _ _) (plainStrs _)).symm | exact rfl | exact (renH_plain _ (h := .rows _ _) (plainStrs _)).trans (renH_plain _ (h := .rows _ _) (plainStrs _)).symm | ((conv => whnf); refine ⟨?_, ?_⟩))) (by repeat' (first | exact trivial | exact (renH_plain _ (h := .rows _ _) (plainStrs _)).symm | exact rfl | exact (renH_plain _ (h := .rows _ _) (plainStrs _)).trans (renH_plain _ (h := .rows _ _) (plainStrs _)).symm | ((conv => whnf); refine ⟨?_, ?_⟩))) rfl rfl ?_
        rintro r O' nx' ⟨n, xs', hn, rfl, hz, rfl, rfl⟩
        have hnle : n ≤ (ps.drop (b + 1)).length := by rw [hn]; exact span_le _ _
        rw [List.length_drop] at hnle
        have hmem : lowerM u ∈ vs.map lowerM ++ (xs.map fun x => lowerM (x.take 1)) ↔ dupM xs u = true := by
          unfold dupM
          rw [List.mem_append, List.any_eq_true]
          constructor
          · rintro (h | h)
            · obtain ⟨v, hv, he⟩ := List.mem_map.1 h
              have h1 := (hvs v hv).1
              have h2 := congrArg List.length he
              unfold lowerM at h2; simp only [List.length_map] at h2; omega
            · obtain ⟨x, hx, he⟩ := List.mem_map.1 h
              exact ⟨x, hx, by simp [he]⟩
          · rintro ⟨x, hx, he⟩
            exact .inr (List.mem_map.2 ⟨x, hx, by simpa using he⟩)
        have hya : extsP (vs.map lowerM ++ xs.map fun x => lowerM (x.take 1)) (ps.drop b) = if n = 0 ∨ dupM xs u = true then none else extsP ((vs.map lowerM ++ xs.map fun x => lowerM (x.take 1)) ++ [lowerM u]) (ps.drop (b + 1 + n)) := by
          rw [drop_at hu, extsP, if_pos hsg, ← hn, List.drop_drop]
          simp only [hmem]
        by_cases hgood : dupM xs u = false ∧ n ≠ 0
        · obtain ⟨z, rfl, hz1, hz2⟩ := hz hgood.1
          rw [show (!dupM xs u && decide (n ≠ 0)) = true by simp [hgood]]
          conv => whnf
          repeat' (first | ((with_reducible refine IF.tt ?_); conv => whnf) | ((with_reducible refine IF.ff ?_); conv => whnf) | ((with_reducible refine NEED.mk ?_ ?_); (first | with_reducible rfl | omega | (simp (disch := omega) only [lnB, wrap64, wrap32] <;> omega) | (intro h; (try simp (disch := omega) only [hsB, hsC, lnB, wrap64, wrap32, Int.reduceBEq, Int.reduceBNe, Int.reduceEq, Int.reduceNe, Int.reduceLT, Int.reduceLE, Int.reduceGT, Int.reduceGE, Int.reduceAdd, Int.reduceSub, Int.reduceMul, Int.reduceNeg, reduceCtorEq] at h); (first | omega | (simp (disch := omega) only [lnB, wrap64, wrap32] <;> omega))) | (exact needApp 256 rfl rfl (by simp) (by simp) (by omega)) | (simp <;> omega)); conv => whnf) | ((with_reducible apply GET.at); (rfl); conv => whnf) | ((with_reducible apply GETG.at); (rfl); conv => whnf) | ((with_reducible refine IF.mk (fun h => ?_) (fun h => ?_)) <;> (try simp (disch := omega) only [hsB, hsC, lnB, wrap64, wrap32, Int.reduceBEq, Int.reduceBNe, Int.reduceEq, Int.reduceNe, Int.reduceLT, Int.reduceLE, Int.reduceGT, Int.reduceGE, Int.reduceAdd, Int.reduceSub, Int.reduceMul, Int.reduceNeg, reduceCtorEq] at h) <;> (try (exfalso; omega)) <;> conv => whnf))
          have e : (xs ++ [z]).length = xs.length + 1 := by simp
          refine ⟨(b + 1 + n, xs ++ [z]), ⟨by simp only; omega, by simp; omega, ?_, ?_⟩, by simp only; omega, ?_⟩
          · intro x hx'
            rcases List.mem_append.1 hx' with h1 | h1
            · exact hxs x h1
            · rw [List.mem_singleton.1 h1]
              refine ⟨?_, hz2⟩
              rcases z with _ | ⟨c, t⟩
              · simp at hz1; subst hz1; simp at hu1
              · simp
          · simp only
            rw [hy, hya, if_neg (by simp [hgood])]
            simp [hz1]
          · dsimp only
            rw [show ps.length - (b + 1 + n) = k' - n by omega]
            conv => whnf
            (refine GOES.keeping h0 [0, 1, 2, 3, 4, 6] rfl rfl rfl (by first | rfl | (simp only [belowO, belowH, plainLL_below _ (plainStrs _), Bool.and_self, Bool.and_true] <;> rfl)) ?_ ?_ <;> (repeat' (first | (with_reducible rfl) | (exact rows_eq (plainStrs _) (renLL_plain _ (plainStrs _))) | (exact rows_eq (plainStrs _) (by simp [strRow, ofVal, List.take_of_length_le])) | (exact sl_eq rfl (by simp)) | (exact congrArg (SV.int _) (by first | omega | (simp (disch := omega) only [lnB, wrap64, wrap32] <;> omega) | (simp; done) | (simp <;> omega))) | ((conv => whnf); refine ⟨?_, ?_⟩) | exact trivial | (simp only [ren, renB]; done) | rfl)))
        · have hbad : n = 0 ∨ dupM xs u = true := by
            rcases Nat.eq_zero_or_pos n with h | h
            · exact .inl h
            · right
              cases hd : dupM xs u with
              | true => rfl
              | false => exact absurd ⟨hd, by omega⟩ hgood
          have htf : tagP ps = false := by rw [hc0, hy, hya, if_pos hbad]
          rw [show (!dupM xs u && decide (n ≠ 0)) = false by rcases hbad with h | h <;> simp [h]]
          conv => whnf
          repeat' (first | ((with_reducible refine IF.tt ?_); conv => whnf) | ((with_reducible refine IF.ff ?_); conv => whnf) | ((with_reducible refine NEED.mk ?_ ?_); (first | with_reducible rfl | omega | (simp (disch := omega) only [lnB, wrap64, wrap32] <;> omega) | (intro h; (try simp (disch := omega) only [hsB, hsC, lnB, wrap64, wrap32, Int.reduceBEq, Int.reduceBNe, Int.reduceEq, Int.reduceNe, Int.reduceLT, Int.reduceLE, Int.reduceGT, Int.reduceGE, Int.reduceAdd, Int.reduceSub, Int.reduceMul, Int.reduceNeg, reduceCtorEq] at h); (first | omega | (simp (disch := omega) only [lnB, wrap64, wrap32] <;> omega))) | (exact needApp 256 rfl rfl (by simp) (by simp) (by omega)) | (simp <;> omega)); conv => whnf) | ((with_reducible apply GET.at); (rfl); conv => whnf) | ((with_reducible apply GETG.at); (rfl); conv => whnf) | ((with_reducible refine IF.mk (fun h => ?_) (fun h => ?_)) <;> (try simp (disch := omega) only [hsB, hsC, lnB, wrap64, wrap32, Int.reduceBEq, Int.reduceBNe, Int.reduceEq, Int.reduceNe, Int.reduceLT, Int.reduceLE, Int.reduceGT, Int.reduceGE, Int.reduceAdd, Int.reduceSub, Int.reduceMul, Int.reduceNeg, reduceCtorEq] at h) <;> (try (exfalso; omega)) <;> conv => whnf))
          refine FIN.anyA 7 h0 rfl rfl rfl ⟨?_, rfl, rfl⟩
          rw [htf]; rfl
      · have hnp : privateM u = false := by rw [private_lower]; simpa using (by assumption : ¬ lowerM u = [120])
        have hmm : madeM u 1 1 false = false := by assumption
        have hsg : ¬ singleM u = true := by unfold singleM; simp [hmm]
        have hlast : tagP ps = false := by
          rw [hc0, hy, drop_at hu, extsP, if_neg hsg]; simp only [lastP]; rw [if_neg (by simp [hnp])]
        refine FIN.anyA 7 h0 rfl rfl rfl ⟨?_, rfl, rfl⟩
        rw [hlast]; rfl
      · have hpv : privateM u = true := by rw [private_lower]; simpa using (by assumption : lowerM u = [120])
        have hsg : ¬ singleM u = true := by unfold singleM; simp [hpv]
        have hlast : tagP ps = decide (spanM (partOK 1) (ps.drop (b + 1)) ≠ 0 ∧ spanM (partOK 1) (ps.drop (b + 1)) = (ps.drop (b + 1)).length) := by
          rw [hc0, hy, drop_at hu, extsP, if_neg hsg]; simp only [lastP]; rw [if_pos hpv]
        refine CALL.at [3, 2, 1, 4, 5] (private6_does ps hb b (ps.length - b) (by omega) hbp L E S R vs.length xs.length []) rfl rfl rfl rfl (by first | rfl | (simp only [belowO, belowH, plainLL_below _ (plainStrs _), Bool.and_self, Bool.and_true] <;> rfl)) (by first | rfl | (simp only [belowO, belowH, plainLL_below _ (plainStrs _), Bool.and_self, Bool.and_true] <;> rfl)) (by repeat' (first | exact trivial | exact (renH_plain _ (h := .rows _ _) (plainStrs _)).symm | exact rfl | exact (renH_plain _ (h := .rows _ _) (plainStrs _)).trans (renH_plain _ (h := .rows _ _) (plainStrs _)).symm | ((conv => whnf); refine ⟨?_, ?_⟩))) (by repeat' (first | exact trivial | exact (renH_plain _ (h := .rows _ _) (plainStrs _)).symm | exact rfl | exact (renH_plain _ (h := .rows _ _) (plainStrs _)).trans (renH_plain _ (h := .rows _ _) (plainStrs _)).symm | ((conv => whnf); refine ⟨?_, ?_⟩))) rfl rfl ?_
        rintro r O' nx' ⟨P', rfl, rfl, rfl⟩
        rw [← hlast]
        cases htf : tagP ps with
        | true =>
          conv => whnf
          repeat' (first | ((with_reducible refine IF.tt ?_); conv => whnf) | ((with_reducible refine IF.ff ?_); conv => whnf) | ((with_reducible refine NEED.mk ?_ ?_); (first | with_reducible rfl | omega | (simp (disch := omega) only [lnB, wrap64, wrap32] <;> omega) | (intro h; (try simp (disch := omega) only [hsB, hsC, lnB, wrap64, wrap32, Int.reduceBEq, Int.reduceBNe, Int.reduceEq, Int.reduceNe, Int.reduceLT, Int.reduceLE, Int.reduceGT, Int.reduceGE, Int.reduceAdd, Int.reduceSub, Int.reduceMul, Int.reduceNeg, reduceCtorEq] at h); (first | omega | (simp (disch := omega) only [lnB, wrap64, wrap32] <;> omega))) | (exact needApp 256 rfl rfl (by simp) (by simp) (by omega)) | (simp <;> omega)); conv => whnf) | ((with_reducible apply GET.at); (rfl); conv => whnf) | ((with_reducible apply GETG.at); (rfl); conv => whnf) | ((with_reducible refine IF.mk (fun h => ?_) (fun h => ?_)) <;> (try simp (disch := omega) only [hsB, hsC, lnB, wrap64, wrap32, Int.reduceBEq, Int.reduceBNe, Int.reduceEq, Int.reduceNe, Int.reduceLT, Int.reduceLE, Int.reduceGT, Int.reduceGE, Int.reduceAdd, Int.reduceSub, Int.reduceMul, Int.reduceNeg, reduceCtorEq] at h) <;> (try (exfalso; omega)) <;> conv => whnf))
          exact FIN.anyA 7 h0 rfl rfl rfl ⟨rfl, rfl, rfl⟩
        | false =>
          conv => whnf
          repeat' (first | ((with_reducible refine IF.tt ?_); conv => whnf) | ((with_reducible refine IF.ff ?_); conv => whnf) | ((with_reducible refine NEED.mk ?_ ?_); (first | with_reducible rfl | omega | (simp (disch := omega) only [lnB, wrap64, wrap32] <;> omega) | (intro h; (try simp (disch := omega) only [hsB, hsC, lnB, wrap64, wrap32, Int.reduceBEq, Int.reduceBNe, Int.reduceEq, Int.reduceNe, Int.reduceLT, Int.reduceLE, Int.reduceGT, Int.reduceGE, Int.reduceAdd, Int.reduceSub, Int.reduceMul, Int.reduceNeg, reduceCtorEq] at h); (first | omega | (simp (disch := omega) only [lnB, wrap64, wrap32] <;> omega))) | (exact needApp 256 rfl rfl (by simp) (by simp) (by omega)) | (simp <;> omega)); conv => whnf) | ((with_reducible apply GET.at); (rfl); conv => whnf) | ((with_reducible apply GETG.at); (rfl); conv => whnf) | ((with_reducible refine IF.mk (fun h => ?_) (fun h => ?_)) <;> (try simp (disch := omega) only [hsB, hsC, lnB, wrap64, wrap32, Int.reduceBEq, Int.reduceBNe, Int.reduceEq, Int.reduceNe, Int.reduceLT, Int.reduceLE, Int.reduceGT, Int.reduceGE, Int.reduceAdd, Int.reduceSub, Int.reduceMul, Int.reduceNeg, reduceCtorEq] at h) <;> (try (exfalso; omega)) <;> conv => whnf))
          exact FIN.anyA 7 h0 rfl rfl rfl ⟨rfl, rfl, rfl⟩
    · repeat' (first | ((with_reducible refine IF.tt ?_); conv => whnf) | ((with_reducible refine IF.ff ?_); conv => whnf) | ((with_reducible refine NEED.mk ?_ ?_); (first | with_reducible rfl | omega | (simp (disch := omega) only [lnB, wrap64, wrap32] <;> omega) | (intro h; (try simp (disch := omega) only [hsB, hsC, lnB, wrap64, wrap32, Int.reduceBEq, Int.reduceBNe, Int.reduceEq, Int.reduceNe, Int.reduceLT, Int.reduceLE, Int.reduceGT, Int.reduceGE, Int.reduceAdd, Int.reduceSub, Int.reduceMul, Int.reduceNeg, reduceCtorEq] at h); (first | omega | (simp (disch := omega) only [lnB, wrap64, wrap32] <;> omega))) | (exact needApp 256 rfl rfl (by simp) (by simp) (by omega)) | (simp <;> omega)); conv => whnf) | ((with_reducible apply GET.at); (rfl); conv => whnf) | ((with_reducible apply GETG.at); (rfl); conv => whnf) | ((with_reducible refine IF.mk (fun h => ?_) (fun h => ?_)) <;> (try simp (disch := omega) only [hsB, hsC, lnB, wrap64, wrap32, Int.reduceBEq, Int.reduceBNe, Int.reduceEq, Int.reduceNe, Int.reduceLT, Int.reduceLE, Int.reduceGT, Int.reduceGE, Int.reduceAdd, Int.reduceSub, Int.reduceMul, Int.reduceNeg, reduceCtorEq] at h) <;> (try (exfalso; omega)) <;> conv => whnf))
      have hlast : tagP ps = true := by rw [hc0, hy, List.drop_eq_nil_of_le (by omega), extsP]; rfl
      refine FIN.anyA 7 h0 rfl rfl rfl ⟨?_, rfl, rfl⟩
      rw [hlast]; rfl
end Go.Proofs.YtpffclpheldabaaGreatDoor
/- term and its reference: Check and CheckQuad, walked. Conditions: none. -/
set_option linter.unusedVariables false
set_option linter.unusedSimpArgs false
set_option maxRecDepth 20000
namespace Go.Proofs.YtpffclpheldabaaGreatDoor
open Go.Sx Go.Our
theorem literal_does (k : Int) (t y l : List UInt8) (ht : Sm t) (hy : Sm y) (hl : Sm l) : Does Tryz.prog tab 58 0 [.agg [.int .i64 k, .str t, .str y, .str l]] [] [] (Val (.int .i64 (litM t y l))) := by
  refine Does.enter tabOK (g := 58) (fn := Tryz.f58) Tryz.call58 Tryz.func58 rfl 55 rfl rfl [.tmp 2] rfl ?_
  intro w0 F η0 h0
  conv => whnf
  repeat' (first | ((with_reducible refine IF.tt ?_); conv => whnf) | ((with_reducible refine IF.ff ?_); conv => whnf) | (refine DRAWN.of (id := 12) tabOK mixed (planOf [(0, 1), (1, 1), (2, 1), (3, 1), (6, 1), (4, 2), (7, 2), (5, 3), (8, 1), (9, 1)]) (by kernel_rfl) ?_; conv => whnf) | ((with_reducible refine ADD.mk (fun _ _ => ?_)); conv => whnf) | ((with_reducible refine NEED.mk (Det.of rfl) ?_); conv => whnf) | ((with_reducible refine FORK.mk ?_ ?_) <;> conv => whnf) | (refine CALL.value (check_does _ ht) rfl rfl ?_; conv => whnf) | (refine CALL.value (iriCheck_does _ hy) rfl rfl ?_; conv => whnf) | (refine CALL.value (tag_does _ (by omega)) rfl rfl ?_; conv => whnf) | (refine CALL.value (lower_does _ hl) rfl rfl ?_; conv => whnf) | (refine CALL.look1 2 (cmpOrErr_does [(if tagP (splitM l) = true then 0 else 61), 61] (by simp)) rfl rfl rfl rfl rfl rfl ?_; conv => whnf) | ((with_reducible refine NEED.mk ?_ ?_); (first | with_reducible rfl | omega | (simp (disch := omega) only [lnB, wrap64, wrap32] <;> omega) | (intro h; (try simp (disch := omega) only [hsB, hsC, lnB, wrap64, wrap32, Int.reduceBEq, Int.reduceBNe, Int.reduceEq, Int.reduceNe, Int.reduceLT, Int.reduceLE, Int.reduceGT, Int.reduceGE, Int.reduceAdd, Int.reduceSub, Int.reduceMul, Int.reduceNeg, reduceCtorEq] at h); (first | omega | (simp (disch := omega) only [lnB, wrap64, wrap32] <;> omega))) | (exact needApp 256 rfl rfl (by simp) (by simp) (by omega)) | (simp <;> omega)); conv => whnf) | ((with_reducible apply GET.at); (rfl); conv => whnf) | ((with_reducible apply GETG.at); (rfl); conv => whnf) | ((with_reducible refine IF.mk (fun h => ?_) (fun h => ?_)) <;> (try simp (disch := omega) only [hsB, hsC, lnB, wrap64, wrap32, Int.reduceBEq, Int.reduceBNe, Int.reduceEq, Int.reduceNe, Int.reduceLT, Int.reduceLE, Int.reduceGT, Int.reduceGE, Int.reduceAdd, Int.reduceSub, Int.reduceMul, Int.reduceNeg, reduceCtorEq] at h) <;> (try (exfalso; omega)) <;> conv => whnf))
  all_goals
    refine FIN.value h0 rfl (congrArg (SV.int _) ?_)
    by_cases hy0 : y = taggedB
    · have hyb : (y == taggedB) = true := by simp [hy0]
      unfold taggedB at hyb
      try rw [hyb] at h
      by_cases htg : tagP (splitM l) = true <;> by_cases hlw : lowerM l = l <;> by_cases hl0 : l = [] <;> simp_all [litM, taggedB, orE] <;> omega
    · have hyb : (y == taggedB) = false := by simp [hy0]
      unfold taggedB at hyb
      try rw [hyb] at h
      by_cases htg : tagP (splitM l) = true <;> by_cases hlw : lowerM l = l <;> by_cases hl0 : l = [] <;> simp_all [litM, taggedB, orE] <;> omega
theorem tcheck_does (x : Tm) (hx : TmSm x) : Does Tryz.prog tab 34 0 [.agg [.int .i64 x.k, .str x.t, .str x.y, .str x.l]] [] [] (Val (.int .i64 (checkM x))) := by
  obtain ⟨ht, hy, hl⟩ := hx
  obtain ⟨k, t, y, l⟩ := x
  dsimp only at ht hy hl ⊢
  refine Does.enter tabOK (g := 34) (fn := Tryz.f34) Tryz.call34 Tryz.func34 rfl 33 rfl rfl [.tmp 2] rfl ?_
  intro w0 F η0 h0
  conv => whnf
  repeat' (first | ((with_reducible refine IF.tt ?_); conv => whnf) | ((with_reducible refine IF.ff ?_); conv => whnf) | (refine CALL.value (literal_does _ _ _ _ ht hy hl) rfl rfl ?_; conv => whnf) | (refine CALL.value (iriCheck_does _ ht) rfl rfl ?_; conv => whnf) | (refine CALL.value (nLabel_does _ ht) rfl rfl ?_; conv => whnf) | ((with_reducible refine NEED.mk ?_ ?_); (first | with_reducible rfl | omega | (simp (disch := omega) only [lnB, wrap64, wrap32] <;> omega) | (intro h; (try simp (disch := omega) only [hsB, hsC, lnB, wrap64, wrap32, Int.reduceBEq, Int.reduceBNe, Int.reduceEq, Int.reduceNe, Int.reduceLT, Int.reduceLE, Int.reduceGT, Int.reduceGE, Int.reduceAdd, Int.reduceSub, Int.reduceMul, Int.reduceNeg, reduceCtorEq] at h); (first | omega | (simp (disch := omega) only [lnB, wrap64, wrap32] <;> omega))) | (exact needApp 256 rfl rfl (by simp) (by simp) (by omega)) | (simp <;> omega)); conv => whnf) | ((with_reducible apply GET.at); (rfl); conv => whnf) | ((with_reducible apply GETG.at); (rfl); conv => whnf) | ((with_reducible refine IF.mk (fun h => ?_) (fun h => ?_)) <;> (try simp (disch := omega) only [hsB, hsC, lnB, wrap64, wrap32, Int.reduceBEq, Int.reduceBNe, Int.reduceEq, Int.reduceNe, Int.reduceLT, Int.reduceLE, Int.reduceGT, Int.reduceGE, Int.reduceAdd, Int.reduceSub, Int.reduceMul, Int.reduceNeg, reduceCtorEq] at h) <;> (try (exfalso; omega)) <;> conv => whnf))
  all_goals
    refine FIN.value h0 rfl (congrArg (SV.int _) ?_)
    unfold checkM
    first
      | (simp_all; done)
      | (simp_all <;> omega)
theorem stands0_does (x : Tm) : Does Tryz.prog tab 52 0 [.int .i64 0, .agg [.int .i64 x.k, .str x.t, .str x.y, .str x.l]] [] [] (Val (.bool (decide (x.k = 1 ∨ x.k = 2)))) := by
  refine Does.enter tabOK (g := 52) (fn := Tryz.f52) Tryz.call52 Tryz.func52 rfl 49 rfl rfl [.tmp 4] rfl ?_
  intro w0 F η0 h0
  conv => whnf
  repeat' (first | ((with_reducible refine IF.tt ?_); conv => whnf) | ((with_reducible refine IF.ff ?_); conv => whnf) | ((with_reducible refine NEED.mk ?_ ?_); (first | with_reducible rfl | omega | (simp (disch := omega) only [lnB, wrap64, wrap32] <;> omega) | (intro h; (try simp (disch := omega) only [hsB, hsC, lnB, wrap64, wrap32, Int.reduceBEq, Int.reduceBNe, Int.reduceEq, Int.reduceNe, Int.reduceLT, Int.reduceLE, Int.reduceGT, Int.reduceGE, Int.reduceAdd, Int.reduceSub, Int.reduceMul, Int.reduceNeg, reduceCtorEq] at h); (first | omega | (simp (disch := omega) only [lnB, wrap64, wrap32] <;> omega))) | (exact needApp 256 rfl rfl (by simp) (by simp) (by omega)) | (simp <;> omega)); conv => whnf) | ((with_reducible apply GET.at); (rfl); conv => whnf) | ((with_reducible apply GETG.at); (rfl); conv => whnf) | ((with_reducible refine IF.mk (fun h => ?_) (fun h => ?_)) <;> (try simp (disch := omega) only [hsB, hsC, lnB, wrap64, wrap32, Int.reduceBEq, Int.reduceBNe, Int.reduceEq, Int.reduceNe, Int.reduceLT, Int.reduceLE, Int.reduceGT, Int.reduceGE, Int.reduceAdd, Int.reduceSub, Int.reduceMul, Int.reduceNeg, reduceCtorEq] at h) <;> (try (exfalso; omega)) <;> conv => whnf))
  all_goals
    refine FIN.value h0 rfl (congrArg SV.bool ?_)
    by_cases h1 : x.k = 1 <;> by_cases h2 : x.k = 2 <;> simp_all
theorem stands1_does (x : Tm) : Does Tryz.prog tab 52 0 [.int .i64 1, .agg [.int .i64 x.k, .str x.t, .str x.y, .str x.l]] [] [] (Val (.bool (decide (x.k = 1)))) := by
  refine Does.enter tabOK (g := 52) (fn := Tryz.f52) Tryz.call52 Tryz.func52 rfl 49 rfl rfl [.tmp 4] rfl ?_
  intro w0 F η0 h0
  conv => whnf
  repeat' (first | ((with_reducible refine IF.tt ?_); conv => whnf) | ((with_reducible refine IF.ff ?_); conv => whnf) | ((with_reducible refine NEED.mk ?_ ?_); (first | with_reducible rfl | omega | (simp (disch := omega) only [lnB, wrap64, wrap32] <;> omega) | (intro h; (try simp (disch := omega) only [hsB, hsC, lnB, wrap64, wrap32, Int.reduceBEq, Int.reduceBNe, Int.reduceEq, Int.reduceNe, Int.reduceLT, Int.reduceLE, Int.reduceGT, Int.reduceGE, Int.reduceAdd, Int.reduceSub, Int.reduceMul, Int.reduceNeg, reduceCtorEq] at h); (first | omega | (simp (disch := omega) only [lnB, wrap64, wrap32] <;> omega))) | (exact needApp 256 rfl rfl (by simp) (by simp) (by omega)) | (simp <;> omega)); conv => whnf) | ((with_reducible apply GET.at); (rfl); conv => whnf) | ((with_reducible apply GETG.at); (rfl); conv => whnf) | ((with_reducible refine IF.mk (fun h => ?_) (fun h => ?_)) <;> (try simp (disch := omega) only [hsB, hsC, lnB, wrap64, wrap32, Int.reduceBEq, Int.reduceBNe, Int.reduceEq, Int.reduceNe, Int.reduceLT, Int.reduceLE, Int.reduceGT, Int.reduceGE, Int.reduceAdd, Int.reduceSub, Int.reduceMul, Int.reduceNeg, reduceCtorEq] at h) <;> (try (exfalso; omega)) <;> conv => whnf))
  all_goals
    refine FIN.value h0 rfl (congrArg SV.bool ?_)
    by_cases h1 : x.k = 1 <;> simp_all
theorem stands2_does (x : Tm) : Does Tryz.prog tab 52 0 [.int .i64 2, .agg [.int .i64 x.k, .str x.t, .str x.y, .str x.l]] [] [] (Val (.bool (decide (x.k = 1 ∨ x.k = 2 ∨ x.k = 3)))) := by
  refine Does.enter tabOK (g := 52) (fn := Tryz.f52) Tryz.call52 Tryz.func52 rfl 49 rfl rfl [.tmp 4] rfl ?_
  intro w0 F η0 h0
  conv => whnf
  repeat' (first | ((with_reducible refine IF.tt ?_); conv => whnf) | ((with_reducible refine IF.ff ?_); conv => whnf) | ((with_reducible refine NEED.mk ?_ ?_); (first | with_reducible rfl | omega | (simp (disch := omega) only [lnB, wrap64, wrap32] <;> omega) | (intro h; (try simp (disch := omega) only [hsB, hsC, lnB, wrap64, wrap32, Int.reduceBEq, Int.reduceBNe, Int.reduceEq, Int.reduceNe, Int.reduceLT, Int.reduceLE, Int.reduceGT, Int.reduceGE, Int.reduceAdd, Int.reduceSub, Int.reduceMul, Int.reduceNeg, reduceCtorEq] at h); (first | omega | (simp (disch := omega) only [lnB, wrap64, wrap32] <;> omega))) | (exact needApp 256 rfl rfl (by simp) (by simp) (by omega)) | (simp <;> omega)); conv => whnf) | ((with_reducible apply GET.at); (rfl); conv => whnf) | ((with_reducible apply GETG.at); (rfl); conv => whnf) | ((with_reducible refine IF.mk (fun h => ?_) (fun h => ?_)) <;> (try simp (disch := omega) only [hsB, hsC, lnB, wrap64, wrap32, Int.reduceBEq, Int.reduceBNe, Int.reduceEq, Int.reduceNe, Int.reduceLT, Int.reduceLE, Int.reduceGT, Int.reduceGE, Int.reduceAdd, Int.reduceSub, Int.reduceMul, Int.reduceNeg, reduceCtorEq] at h) <;> (try (exfalso; omega)) <;> conv => whnf))
  all_goals
    refine FIN.value h0 rfl (congrArg SV.bool ?_)
    by_cases h1 : x.k = 1 <;> by_cases h2 : x.k = 2 <;> by_cases h3 : x.k = 3 <;> simp_all
theorem stands3_does (x : Tm) : Does Tryz.prog tab 52 0 [.int .i64 3, .agg [.int .i64 x.k, .str x.t, .str x.y, .str x.l]] [] [] (Val (.bool (decide (x.k = 1 ∨ x.k = 2 ∨ x = zeroTm)))) := by
  obtain ⟨k, t, y, l⟩ := x
  dsimp only
  refine Does.enter tabOK (g := 52) (fn := Tryz.f52) Tryz.call52 Tryz.func52 rfl 49 rfl rfl [.tmp 4] rfl ?_
  intro w0 F η0 h0
  conv => whnf
  repeat' (first | ((with_reducible refine IF.tt ?_); conv => whnf) | ((with_reducible refine IF.ff ?_); conv => whnf) | ((with_reducible refine NEED.mk ?_ ?_); (first | with_reducible rfl | omega | (simp (disch := omega) only [lnB, wrap64, wrap32] <;> omega) | (intro h; (try simp (disch := omega) only [hsB, hsC, lnB, wrap64, wrap32, Int.reduceBEq, Int.reduceBNe, Int.reduceEq, Int.reduceNe, Int.reduceLT, Int.reduceLE, Int.reduceGT, Int.reduceGE, Int.reduceAdd, Int.reduceSub, Int.reduceMul, Int.reduceNeg, reduceCtorEq] at h); (first | omega | (simp (disch := omega) only [lnB, wrap64, wrap32] <;> omega))) | (exact needApp 256 rfl rfl (by simp) (by simp) (by omega)) | (simp <;> omega)); conv => whnf) | ((with_reducible apply GET.at); (rfl); conv => whnf) | ((with_reducible apply GETG.at); (rfl); conv => whnf) | ((with_reducible refine IF.mk (fun h => ?_) (fun h => ?_)) <;> (try simp (disch := omega) only [hsB, hsC, lnB, wrap64, wrap32, Int.reduceBEq, Int.reduceBNe, Int.reduceEq, Int.reduceNe, Int.reduceLT, Int.reduceLE, Int.reduceGT, Int.reduceGE, Int.reduceAdd, Int.reduceSub, Int.reduceMul, Int.reduceNeg, reduceCtorEq] at h) <;> (try (exfalso; omega)) <;> conv => whnf))
  all_goals
    refine FIN.value h0 rfl (congrArg SV.bool ?_)
    unfold zeroTm
    by_cases h1 : k = 1 <;> by_cases h2 : k = 2 <;> by_cases h3 : k = 0 <;> cases t <;> cases y <;> cases l <;> simp_all
theorem tcheckQuad_does (q : Qd) (hq : QdSm q) : Does Tryz.prog tab 28 0 [q.sv] [] [] (Val (.int .i64 (cquadM q))) := by
  obtain ⟨hs, hp, ho, hg⟩ := hq
  unfold Qd.sv
  refine Does.enter tabOK (g := 28) (fn := Tryz.f28) Tryz.call28 Tryz.func28 rfl 36 rfl rfl [.tmp 2] rfl ?_
  intro w0 F η0 h0
  conv => whnf
  repeat' (first | ((with_reducible refine IF.tt ?_); conv => whnf) | ((with_reducible refine IF.ff ?_); conv => whnf) | (refine LOOP.once tabOK ?_; conv => whnf) | (refine CALL.value (stands0_does q.s) rfl rfl ?_; conv => whnf) | (refine CALL.value (stands1_does q.p) rfl rfl ?_; conv => whnf) | (refine CALL.value (stands2_does q.o) rfl rfl ?_; conv => whnf) | (refine CALL.value (stands3_does q.g) rfl rfl ?_; conv => whnf) | (refine CALL.value (tcheck_does q.s hs) rfl rfl ?_; conv => whnf) | (refine CALL.value (tcheck_does q.p hp) rfl rfl ?_; conv => whnf) | (refine CALL.value (tcheck_does q.o ho) rfl rfl ?_; conv => whnf) | (refine CALL.value (tcheck_does q.g hg) rfl rfl ?_; conv => whnf) | ((with_reducible refine NEED.mk ?_ ?_); (first | with_reducible rfl | omega | (simp (disch := omega) only [lnB, wrap64, wrap32] <;> omega) | (intro h; (try simp (disch := omega) only [hsB, hsC, lnB, wrap64, wrap32, Int.reduceBEq, Int.reduceBNe, Int.reduceEq, Int.reduceNe, Int.reduceLT, Int.reduceLE, Int.reduceGT, Int.reduceGE, Int.reduceAdd, Int.reduceSub, Int.reduceMul, Int.reduceNeg, reduceCtorEq] at h); (first | omega | (simp (disch := omega) only [lnB, wrap64, wrap32] <;> omega))) | (exact needApp 256 rfl rfl (by simp) (by simp) (by omega)) | (simp <;> omega)); conv => whnf) | ((with_reducible apply GET.at); (rfl); conv => whnf) | ((with_reducible apply GETG.at); (rfl); conv => whnf) | ((with_reducible refine IF.mk (fun h => ?_) (fun h => ?_)) <;> (try simp (disch := omega) only [hsB, hsC, lnB, wrap64, wrap32, Int.reduceBEq, Int.reduceBNe, Int.reduceEq, Int.reduceNe, Int.reduceLT, Int.reduceLE, Int.reduceGT, Int.reduceGE, Int.reduceAdd, Int.reduceSub, Int.reduceMul, Int.reduceNeg, reduceCtorEq] at h) <;> (try (exfalso; omega)) <;> conv => whnf))
  all_goals
    refine FIN.value h0 rfl (congrArg (SV.int _) ?_)
    have hco := @check_other q.o
    have hz : q.g = zeroTm → q.g.k = 0 := fun h => by rw [h]; rfl
    unfold cquadM
    clear hs hp ho hg
    by_cases hgz : q.g = zeroTm
    · have := hz hgz; simp_all
    · by_cases g1 : q.g.k = 1
      · simp_all
      · by_cases g2 : q.g.k = 2
        · simp_all
        · simp_all
end Go.Proofs.YtpffclpheldabaaGreatDoor
/- The reference's Check and CheckQuad, walked. Conditions: none. -/
set_option linter.unusedVariables false
set_option linter.unusedSimpArgs false
set_option maxRecDepth 20000
namespace Go.Proofs.YtpffclpheldabaaGreatDoor
open Go.Sx Go.Our
theorem rliteral_does (k : Int) (t y l : List UInt8) (ht : Sm t) (hy : Sm y) (hl : Sm l) : Does Tryz.prog tab 66 0 [.agg [.int .i64 k, .str t, .str y, .str l]] [] [] (Val (.int .i64 (litM t y l))) := by
  refine Does.enter tabOK (g := 66) (fn := Tryz.f66) Tryz.call66 Tryz.func66 rfl 61 rfl rfl [.tmp 2] rfl ?_
  intro w0 F η0 h0
  conv => whnf
  repeat' (first | ((with_reducible refine IF.tt ?_); conv => whnf) | ((with_reducible refine IF.ff ?_); conv => whnf) | (refine CALL.value (ref04Check_does _ ht) rfl rfl ?_; conv => whnf) | (refine CALL.value (ref05Check_does _ hy) rfl rfl ?_; conv => whnf) | (refine CALL.value (tag6_does _ (by omega)) rfl rfl ?_; conv => whnf) | ((with_reducible refine NEED.mk ?_ ?_); (first | with_reducible rfl | omega | (simp (disch := omega) only [lnB, wrap64, wrap32] <;> omega) | (intro h; (try simp (disch := omega) only [hsB, hsC, lnB, wrap64, wrap32, Int.reduceBEq, Int.reduceBNe, Int.reduceEq, Int.reduceNe, Int.reduceLT, Int.reduceLE, Int.reduceGT, Int.reduceGE, Int.reduceAdd, Int.reduceSub, Int.reduceMul, Int.reduceNeg, reduceCtorEq] at h); (first | omega | (simp (disch := omega) only [lnB, wrap64, wrap32] <;> omega))) | (exact needApp 256 rfl rfl (by simp) (by simp) (by omega)) | (simp <;> omega)); conv => whnf) | ((with_reducible apply GET.at); (rfl); conv => whnf) | ((with_reducible apply GETG.at); (rfl); conv => whnf) | ((with_reducible refine IF.mk (fun h => ?_) (fun h => ?_)) <;> (try simp (disch := omega) only [hsB, hsC, lnB, wrap64, wrap32, Int.reduceBEq, Int.reduceBNe, Int.reduceEq, Int.reduceNe, Int.reduceLT, Int.reduceLE, Int.reduceGT, Int.reduceGE, Int.reduceAdd, Int.reduceSub, Int.reduceMul, Int.reduceNeg, reduceCtorEq] at h) <;> (try (exfalso; omega)) <;> conv => whnf))
  all_goals try
    (refine FIN.value h0 rfl (congrArg (SV.int _) ?_)
     by_cases hy0 : y = taggedB
     · have hyb : (y == taggedB) = true := by simp [hy0]
       unfold taggedB at hyb
       try rw [hyb] at h
       by_cases htg : tagP (splitM l) = true <;> by_cases hlw : lowerM l = l <;> by_cases hl0 : l = [] <;> simp_all [litM, taggedB, orE] <;> omega
     · have hyb : (y == taggedB) = false := by simp [hy0]
       unfold taggedB at hyb
       try rw [hyb] at h
       by_cases htg : tagP (splitM l) = true <;> by_cases hlw : lowerM l = l <;> by_cases hl0 : l = [] <;> simp_all [litM, taggedB, orE] <;> omega)
  have htg : tagP (splitM l) = true := by
    cases h1 : tagP (splitM l) with
    | true => rfl
    | false => rw [h1] at h; simp at h
  refine LOOP.go tabOK [1] (X := Nat) (fun i => i ≤ l.length ∧ ∀ j : Nat, j < i → ¬ (65 ≤ byteAt l j ∧ byteAt l j ≤ 90)) (fun i => [(4, .int .i64 (i : Int))]) (fun i => [(0, .box [.int .i64 k, .str t, .str y, .str l])]) 1 (fun i => l.length - i) 0 ⟨by omega, fun j h => by omega⟩ ?_
  conv => whnf
  refine ⟨by (refine GOES.cutting h0 rfl rfl rfl (by first | rfl | simp [belowO, belowH, plainLL_below, plainLL_map, plainL, plain]) ?_ ?_ <;> (repeat' (first | (with_reducible rfl) | (exact congrArg (fun n => SV.sl _ _ _ n _) (by simp)) | (exact congrArg (Hp.rows _) (by simp)) | (exact congrArg (SV.int _) (by first | omega | (simp (disch := omega) only [lnB, wrap64, wrap32] <;> omega) | (simp; done) | (simp <;> omega))) | ((conv => whnf); refine ⟨?_, ?_⟩) | exact trivial | (simp; done) | rfl))), ?_⟩
  rintro i ⟨hi, hc⟩
  conv => whnf
  repeat' (first | ((with_reducible refine IF.tt ?_); conv => whnf) | ((with_reducible refine IF.ff ?_); conv => whnf) | ((with_reducible refine NEED.mk ?_ ?_); (first | with_reducible rfl | omega | (simp (disch := omega) only [lnB, wrap64, wrap32] <;> omega) | (intro h; (try simp (disch := omega) only [hsB, hsC, lnB, wrap64, wrap32, Int.reduceBEq, Int.reduceBNe, Int.reduceEq, Int.reduceNe, Int.reduceLT, Int.reduceLE, Int.reduceGT, Int.reduceGE, Int.reduceAdd, Int.reduceSub, Int.reduceMul, Int.reduceNeg, reduceCtorEq] at h); (first | omega | (simp (disch := omega) only [lnB, wrap64, wrap32] <;> omega))) | (exact needApp 256 rfl rfl (by simp) (by simp) (by omega)) | (simp <;> omega)); conv => whnf) | ((with_reducible apply GET.at); (rfl); conv => whnf) | ((with_reducible apply GETG.at); (rfl); conv => whnf) | ((with_reducible refine IF.mk (fun h => ?_) (fun h => ?_)) <;> (try simp (disch := omega) only [hsB, hsC, lnB, wrap64, wrap32, Int.reduceBEq, Int.reduceBNe, Int.reduceEq, Int.reduceNe, Int.reduceLT, Int.reduceLE, Int.reduceGT, Int.reduceGE, Int.reduceAdd, Int.reduceSub, Int.reduceMul, Int.reduceNeg, reduceCtorEq] at h) <;> (try (exfalso; omega)) <;> conv => whnf))
  · have hlw : lowerM l ≠ l := lower_up (i := i) (by omega) h
    refine FIN.value h0 rfl (congrArg (SV.int _) ?_)
    simp_all [litM] <;> omega
  · refine ⟨i + 1, ⟨by omega, fun j hj => ?_⟩, by omega, ?_⟩
    · by_cases he : j = i
      · subst he; omega
      · exact hc j (by omega)
    · conv => whnf
      (refine GOES.cutting h0 rfl rfl rfl (by first | rfl | simp [belowO, belowH, plainLL_below, plainLL_map, plainL, plain]) ?_ ?_ <;> (repeat' (first | (with_reducible rfl) | (exact congrArg (fun n => SV.sl _ _ _ n _) (by simp)) | (exact congrArg (Hp.rows _) (by simp)) | (exact congrArg (SV.int _) (by first | omega | (simp (disch := omega) only [lnB, wrap64, wrap32] <;> omega) | (simp; done) | (simp <;> omega))) | ((conv => whnf); refine ⟨?_, ?_⟩) | exact trivial | (simp; done) | rfl)))
  all_goals
    have hlw : lowerM l = l := lower_same fun j hj => hc j (by omega)
    refine FIN.value h0 rfl (congrArg (SV.int _) ?_)
    by_cases hy0 : y = taggedB
    · have hyb : (y == taggedB) = true := by simp [hy0]
      unfold taggedB at hyb
      try rw [hyb] at h
      by_cases hl0 : l = [] <;> simp_all [litM, taggedB, orE] <;> omega
    · have hyb : (y == taggedB) = false := by simp [hy0]
      unfold taggedB at hyb
      try rw [hyb] at h
      by_cases hl0 : l = [] <;> simp_all [litM, taggedB, orE] <;> omega
theorem rcheck_does (x : Tm) (hx : TmSm x) : Does Tryz.prog tab 37 0 [.agg [.int .i64 x.k, .str x.t, .str x.y, .str x.l]] [] [] (Val (.int .i64 (checkM x))) := by
  obtain ⟨ht, hy, hl⟩ := hx
  obtain ⟨k, t, y, l⟩ := x
  dsimp only at ht hy hl ⊢
  refine Does.enter tabOK (g := 37) (fn := Tryz.f37) Tryz.call37 Tryz.func37 rfl 33 rfl rfl [.tmp 2] rfl ?_
  intro w0 F η0 h0
  conv => whnf
  repeat' (first | ((with_reducible refine IF.tt ?_); conv => whnf) | ((with_reducible refine IF.ff ?_); conv => whnf) | (refine CALL.value (rliteral_does _ _ _ _ ht hy hl) rfl rfl ?_; conv => whnf) | (refine CALL.value (ref05Check_does _ ht) rfl rfl ?_; conv => whnf) | (refine CALL.value (r6Label_does _ (by omega)) rfl rfl ?_; conv => whnf) | ((with_reducible refine NEED.mk ?_ ?_); (first | with_reducible rfl | omega | (simp (disch := omega) only [lnB, wrap64, wrap32] <;> omega) | (intro h; (try simp (disch := omega) only [hsB, hsC, lnB, wrap64, wrap32, Int.reduceBEq, Int.reduceBNe, Int.reduceEq, Int.reduceNe, Int.reduceLT, Int.reduceLE, Int.reduceGT, Int.reduceGE, Int.reduceAdd, Int.reduceSub, Int.reduceMul, Int.reduceNeg, reduceCtorEq] at h); (first | omega | (simp (disch := omega) only [lnB, wrap64, wrap32] <;> omega))) | (exact needApp 256 rfl rfl (by simp) (by simp) (by omega)) | (simp <;> omega)); conv => whnf) | ((with_reducible apply GET.at); (rfl); conv => whnf) | ((with_reducible apply GETG.at); (rfl); conv => whnf) | ((with_reducible refine IF.mk (fun h => ?_) (fun h => ?_)) <;> (try simp (disch := omega) only [hsB, hsC, lnB, wrap64, wrap32, Int.reduceBEq, Int.reduceBNe, Int.reduceEq, Int.reduceNe, Int.reduceLT, Int.reduceLE, Int.reduceGT, Int.reduceGE, Int.reduceAdd, Int.reduceSub, Int.reduceMul, Int.reduceNeg, reduceCtorEq] at h) <;> (try (exfalso; omega)) <;> conv => whnf))
  all_goals
    refine FIN.value h0 rfl (congrArg (SV.int _) ?_)
    have hle := label_eq t
    unfold checkM
    first
      | (simp_all; done)
      | (simp_all <;> omega)
theorem rcheckQuad_does (q : Qd) (hq : QdSm q) : Does Tryz.prog tab 30 0 [q.sv] [] [] (Val (.int .i64 (cquadM q))) := by
  obtain ⟨hs, hp, ho, hg⟩ := hq
  unfold Qd.sv
  refine Does.enter tabOK (g := 30) (fn := Tryz.f30) Tryz.call30 Tryz.func30 rfl 53 rfl rfl [.tmp 2] rfl ?_
  intro w0 F η0 h0
  conv => whnf
  repeat' (first | ((with_reducible refine IF.tt ?_); conv => whnf) | ((with_reducible refine IF.ff ?_); conv => whnf) | (refine CALL.value (rcheck_does q.s hs) rfl rfl ?_; conv => whnf) | (refine CALL.value (rcheck_does q.p hp) rfl rfl ?_; conv => whnf) | (refine CALL.value (rcheck_does q.o ho) rfl rfl ?_; conv => whnf) | (refine CALL.value (rcheck_does q.g hg) rfl rfl ?_; conv => whnf) | ((with_reducible refine NEED.mk ?_ ?_); (first | with_reducible rfl | omega | (simp (disch := omega) only [lnB, wrap64, wrap32] <;> omega) | (intro h; (try simp (disch := omega) only [hsB, hsC, lnB, wrap64, wrap32, Int.reduceBEq, Int.reduceBNe, Int.reduceEq, Int.reduceNe, Int.reduceLT, Int.reduceLE, Int.reduceGT, Int.reduceGE, Int.reduceAdd, Int.reduceSub, Int.reduceMul, Int.reduceNeg, reduceCtorEq] at h); (first | omega | (simp (disch := omega) only [lnB, wrap64, wrap32] <;> omega))) | (exact needApp 256 rfl rfl (by simp) (by simp) (by omega)) | (simp <;> omega)); conv => whnf) | ((with_reducible apply GET.at); (rfl); conv => whnf) | ((with_reducible apply GETG.at); (rfl); conv => whnf) | ((with_reducible refine IF.mk (fun h => ?_) (fun h => ?_)) <;> (try simp (disch := omega) only [hsB, hsC, lnB, wrap64, wrap32, Int.reduceBEq, Int.reduceBNe, Int.reduceEq, Int.reduceNe, Int.reduceLT, Int.reduceLE, Int.reduceGT, Int.reduceGE, Int.reduceAdd, Int.reduceSub, Int.reduceMul, Int.reduceNeg, reduceCtorEq] at h) <;> (try (exfalso; omega)) <;> conv => whnf))
  all_goals
    refine FIN.value h0 rfl (congrArg (SV.int _) ?_)
    clear hs hp ho hg
    have hz : q.g = zeroTm ↔ q.g.k = 0 ∧ q.g.t = [] ∧ q.g.y = [] ∧ q.g.l = [] := by
      obtain ⟨s, p, o, g⟩ := q
      obtain ⟨k, t, y, l⟩ := g
      simp [zeroTm]
    unfold cquadM
    by_cases hgz : q.g = zeroTm
    · have := hz.1 hgz; simp_all
    · by_cases g1 : q.g.k = 1
      · simp_all
      · by_cases g2 : q.g.k = 2
        · simp_all
        · simp_all
end Go.Proofs.YtpffclpheldabaaGreatDoor
/- term.Text and the reference's, walked. Conditions: none. -/
set_option linter.unusedVariables false
set_option linter.unusedSimpArgs false
set_option maxRecDepth 20000
namespace Go.Proofs.YtpffclpheldabaaGreatDoor
open Go.Sx Go.Our
theorem angM_len (s : List UInt8) : (angM s).length ≤ 6 * s.length + 2 := by
  have := escM_len 2 s
  unfold angM; simp; omega
theorem angled_does (s : List UInt8) (hs : s.length ≤ 65536) (hc : chk s 0 < 0) : Does Tryz.prog tab 35 0 [.str s] [] [] (Val (.str (angM s))) := by
  have hl := escM_len 2 s
  refine Does.enter tabOK (g := 35) (fn := Tryz.f35) Tryz.call35 Tryz.func35 rfl 13 rfl rfl [.tmp 2] rfl ?_
  intro w0 F η0 h0
  conv => whnf
  repeat' (first | ((with_reducible refine IF.tt ?_); conv => whnf) | ((with_reducible refine IF.ff ?_); conv => whnf) | (refine CALL.value (escape_does s 2 (by omega) hc) rfl rfl ?_; conv => whnf) | ((with_reducible refine NEED.mk ?_ ?_); (first | with_reducible rfl | omega | (simp (disch := omega) only [lnB, wrap64, wrap32] <;> omega) | (intro h; (try simp (disch := omega) only [hsB, hsC, lnB, wrap64, wrap32, Int.reduceBEq, Int.reduceBNe, Int.reduceEq, Int.reduceNe, Int.reduceLT, Int.reduceLE, Int.reduceGT, Int.reduceGE, Int.reduceAdd, Int.reduceSub, Int.reduceMul, Int.reduceNeg, reduceCtorEq] at h); (first | omega | (simp (disch := omega) only [lnB, wrap64, wrap32] <;> omega))) | (exact needApp 256 rfl rfl (by simp) (by simp) (by omega)) | (simp <;> omega)); conv => whnf) | ((with_reducible apply GET.at); (rfl); conv => whnf) | ((with_reducible apply GETG.at); (rfl); conv => whnf) | ((with_reducible refine IF.mk (fun h => ?_) (fun h => ?_)) <;> (try simp (disch := omega) only [hsB, hsC, lnB, wrap64, wrap32, Int.reduceBEq, Int.reduceBNe, Int.reduceEq, Int.reduceNe, Int.reduceLT, Int.reduceLE, Int.reduceGT, Int.reduceGE, Int.reduceAdd, Int.reduceSub, Int.reduceMul, Int.reduceNeg, reduceCtorEq] at h) <;> (try (exfalso; omega)) <;> conv => whnf))
  exact FIN.value h0 rfl rfl
theorem text_does (x : Tm) (hx : TmSm x) : Does Tryz.prog tab 13 0 [.agg [.int .i64 x.k, .str x.t, .str x.y, .str x.l]] [] [] (Val (.tup [.str (textM x), .int .i64 (checkM x)])) := by
  have hck := @check_text x
  have hck0 := @check_kind x
  have hre := @refM_ok x.y
  have hl1 := escM_len 1 x.t
  have hl2 := angM_len x.y
  refine Does.enter tabOK (g := 13) (fn := Tryz.f13) Tryz.call13 Tryz.func13 rfl 53 rfl rfl [.tmp 2, .tmp 3] rfl ?_
  intro w0 F η0 h0
  conv => whnf
  repeat' (first | ((with_reducible refine IF.tt ?_); conv => whnf) | ((with_reducible refine IF.ff ?_); conv => whnf) | (refine CALL.value (tcheck_does x hx) rfl rfl ?_; conv => whnf) | (refine CALL.value (angled_does x.t (by have := hck (by assumption); omega) ((hck (by assumption)).2.1 (by omega))) rfl rfl ?_; conv => whnf) | (refine CALL.value (escape_does x.t 1 (by have := hck (by assumption); omega) ((hck (by assumption)).2.1 (by omega))) rfl rfl ?_; conv => whnf) | (refine CALL.value (angled_does x.y (hre ((hck (by assumption)).2.2 (by have := hck0 (by assumption); omega)).1).1 (hre ((hck (by assumption)).2.2 (by have := hck0 (by assumption); omega)).1).2) rfl rfl ?_; conv => whnf) | (refine NEED.mk (by have h3 := hre ((hck (by assumption)).2.2 (by have := hck0 (by assumption); omega)).1; simp; omega) ?_; conv => whnf) | ((with_reducible refine NEED.mk ?_ ?_); (first | with_reducible rfl | omega | (simp (disch := omega) only [lnB, wrap64, wrap32] <;> omega) | (intro h; (try simp (disch := omega) only [hsB, hsC, lnB, wrap64, wrap32, Int.reduceBEq, Int.reduceBNe, Int.reduceEq, Int.reduceNe, Int.reduceLT, Int.reduceLE, Int.reduceGT, Int.reduceGE, Int.reduceAdd, Int.reduceSub, Int.reduceMul, Int.reduceNeg, reduceCtorEq] at h); (first | omega | (simp (disch := omega) only [lnB, wrap64, wrap32] <;> omega))) | (exact needApp 256 rfl rfl (by simp) (by simp) (by omega)) | (simp <;> omega)); conv => whnf) | ((with_reducible apply GET.at); (rfl); conv => whnf) | ((with_reducible apply GETG.at); (rfl); conv => whnf) | ((with_reducible refine IF.mk (fun h => ?_) (fun h => ?_)) <;> (try simp (disch := omega) only [hsB, hsC, lnB, wrap64, wrap32, Int.reduceBEq, Int.reduceBNe, Int.reduceEq, Int.reduceNe, Int.reduceLT, Int.reduceLE, Int.reduceGT, Int.reduceGE, Int.reduceAdd, Int.reduceSub, Int.reduceMul, Int.reduceNeg, reduceCtorEq] at h) <;> (try (exfalso; omega)) <;> conv => whnf))
  all_goals
    refine FIN.value h0 rfl ?_
    unfold textM
    try simp (disch := first | assumption | omega) only [↓if_pos, ↓if_neg]
    try first
      | rfl
      | (have h9 : checkM x = 0 := by assumption
         simp_all [plainB])
theorem rangled_does (s : List UInt8) (hs : s.length ≤ 65536) (hc : chk s 0 < 0) : Does Tryz.prog tab 38 0 [.str s] [] [] (Val (.str (angM s))) := by
  have hl := escM_len 2 s
  refine Does.enter tabOK (g := 38) (fn := Tryz.f38) Tryz.call38 Tryz.func38 rfl 13 rfl rfl [.tmp 2] rfl ?_
  intro w0 F η0 h0
  conv => whnf
  repeat' (first | ((with_reducible refine IF.tt ?_); conv => whnf) | ((with_reducible refine IF.ff ?_); conv => whnf) | (refine CALL.value (r4escape_does s 2 (by omega) hc) rfl rfl ?_; conv => whnf) | ((with_reducible refine NEED.mk ?_ ?_); (first | with_reducible rfl | omega | (simp (disch := omega) only [lnB, wrap64, wrap32] <;> omega) | (intro h; (try simp (disch := omega) only [hsB, hsC, lnB, wrap64, wrap32, Int.reduceBEq, Int.reduceBNe, Int.reduceEq, Int.reduceNe, Int.reduceLT, Int.reduceLE, Int.reduceGT, Int.reduceGE, Int.reduceAdd, Int.reduceSub, Int.reduceMul, Int.reduceNeg, reduceCtorEq] at h); (first | omega | (simp (disch := omega) only [lnB, wrap64, wrap32] <;> omega))) | (exact needApp 256 rfl rfl (by simp) (by simp) (by omega)) | (simp <;> omega)); conv => whnf) | ((with_reducible apply GET.at); (rfl); conv => whnf) | ((with_reducible apply GETG.at); (rfl); conv => whnf) | ((with_reducible refine IF.mk (fun h => ?_) (fun h => ?_)) <;> (try simp (disch := omega) only [hsB, hsC, lnB, wrap64, wrap32, Int.reduceBEq, Int.reduceBNe, Int.reduceEq, Int.reduceNe, Int.reduceLT, Int.reduceLE, Int.reduceGT, Int.reduceGE, Int.reduceAdd, Int.reduceSub, Int.reduceMul, Int.reduceNeg, reduceCtorEq] at h) <;> (try (exfalso; omega)) <;> conv => whnf))
  exact FIN.value h0 rfl rfl
theorem rtext_does (x : Tm) (hx : TmSm x) : Does Tryz.prog tab 14 0 [.agg [.int .i64 x.k, .str x.t, .str x.y, .str x.l]] [] [] (Val (.tup [.str (textM x), .int .i64 (checkM x)])) := by
  have hck := @check_text x
  have hck0 := @check_kind x
  have hre := @refM_ok x.y
  have hl1 := escM_len 1 x.t
  have hl2 := angM_len x.y
  refine Does.enter tabOK (g := 14) (fn := Tryz.f14) Tryz.call14 Tryz.func14 rfl 53 rfl rfl [.tmp 2, .tmp 3] rfl ?_
  intro w0 F η0 h0
  conv => whnf
  repeat' (first | ((with_reducible refine IF.tt ?_); conv => whnf) | ((with_reducible refine IF.ff ?_); conv => whnf) | (refine CALL.value (rcheck_does x hx) rfl rfl ?_; conv => whnf) | (refine CALL.value (rangled_does x.t (by have := hck (by assumption); omega) ((hck (by assumption)).2.1 (by omega))) rfl rfl ?_; conv => whnf) | (refine CALL.value (r4escape_does x.t 1 (by have := hck (by assumption); omega) ((hck (by assumption)).2.1 (by omega))) rfl rfl ?_; conv => whnf) | (refine CALL.value (rangled_does x.y (hre ((hck (by assumption)).2.2 (by have := hck0 (by assumption); omega)).1).1 (hre ((hck (by assumption)).2.2 (by have := hck0 (by assumption); omega)).1).2) rfl rfl ?_; conv => whnf) | (refine NEED.mk (by have h3 := hre ((hck (by assumption)).2.2 (by have := hck0 (by assumption); omega)).1; simp; omega) ?_; conv => whnf) | ((with_reducible refine NEED.mk ?_ ?_); (first | with_reducible rfl | omega | (simp (disch := omega) only [lnB, wrap64, wrap32] <;> omega) | (intro h; (try simp (disch := omega) only [hsB, hsC, lnB, wrap64, wrap32, Int.reduceBEq, Int.reduceBNe, Int.reduceEq, Int.reduceNe, Int.reduceLT, Int.reduceLE, Int.reduceGT, Int.reduceGE, Int.reduceAdd, Int.reduceSub, Int.reduceMul, Int.reduceNeg, reduceCtorEq] at h); (first | omega | (simp (disch := omega) only [lnB, wrap64, wrap32] <;> omega))) | (exact needApp 256 rfl rfl (by simp) (by simp) (by omega)) | (simp <;> omega)); conv => whnf) | ((with_reducible apply GET.at); (rfl); conv => whnf) | ((with_reducible apply GETG.at); (rfl); conv => whnf) | ((with_reducible refine IF.mk (fun h => ?_) (fun h => ?_)) <;> (try simp (disch := omega) only [hsB, hsC, lnB, wrap64, wrap32, Int.reduceBEq, Int.reduceBNe, Int.reduceEq, Int.reduceNe, Int.reduceLT, Int.reduceLE, Int.reduceGT, Int.reduceGE, Int.reduceAdd, Int.reduceSub, Int.reduceMul, Int.reduceNeg, reduceCtorEq] at h) <;> (try (exfalso; omega)) <;> conv => whnf))
  all_goals
    refine FIN.value h0 rfl ?_
    unfold textM
    try simp (disch := first | assumption | omega) only [↓if_pos, ↓if_neg]
    try first
      | rfl
      | (have h9 : checkM x = 0 := by assumption
         simp_all [plainB])
end Go.Proofs.YtpffclpheldabaaGreatDoor
/- TermTexts: the law, walked. Conditions: none. -/
set_option linter.unusedVariables false
set_option linter.unusedSimpArgs false
set_option maxRecDepth 20000
namespace Go.Proofs.YtpffclpheldabaaGreatDoor
open Go.Sx Go.Our
theorem lawTexts_does (x : Tm) (hx : TmSm x) : Does Tryz.prog tab 4 0 [.agg [.int .i64 x.k, .str x.t, .str x.y, .str x.l]] [] [] (Val (.bool true)) := by
  refine Does.enter tabOK (g := 4) (fn := Tryz.f4) Tryz.call4 Tryz.func4 rfl 25 rfl rfl [.tmp 2] rfl ?_
  intro w0 F η0 h0
  conv => whnf
  repeat' (first | ((with_reducible refine IF.tt ?_); conv => whnf) | ((with_reducible refine IF.ff ?_); conv => whnf) | (refine CALL.value (text_does x hx) rfl rfl ?_; conv => whnf) | (refine CALL.value (rtext_does x hx) rfl rfl ?_; conv => whnf) | ((with_reducible refine NEED.mk ?_ ?_); (first | with_reducible rfl | omega | (simp (disch := omega) only [lnB, wrap64, wrap32] <;> omega) | (intro h; (try simp (disch := omega) only [hsB, hsC, lnB, wrap64, wrap32, Int.reduceBEq, Int.reduceBNe, Int.reduceEq, Int.reduceNe, Int.reduceLT, Int.reduceLE, Int.reduceGT, Int.reduceGE, Int.reduceAdd, Int.reduceSub, Int.reduceMul, Int.reduceNeg, reduceCtorEq] at h); (first | omega | (simp (disch := omega) only [lnB, wrap64, wrap32] <;> omega))) | (exact needApp 256 rfl rfl (by simp) (by simp) (by omega)) | (simp <;> omega)); conv => whnf) | ((with_reducible apply GET.at); (rfl); conv => whnf) | ((with_reducible apply GETG.at); (rfl); conv => whnf) | ((with_reducible refine IF.mk (fun h => ?_) (fun h => ?_)) <;> (try simp (disch := omega) only [hsB, hsC, lnB, wrap64, wrap32, Int.reduceBEq, Int.reduceBNe, Int.reduceEq, Int.reduceNe, Int.reduceLT, Int.reduceLE, Int.reduceGT, Int.reduceGE, Int.reduceAdd, Int.reduceSub, Int.reduceMul, Int.reduceNeg, reduceCtorEq] at h) <;> (try (exfalso; omega)) <;> conv => whnf))
  all_goals first
    | (exfalso; simp_all; done)
    | exact FIN.value h0 rfl (congrArg SV.bool (by simp))
end Go.Proofs.YtpffclpheldabaaGreatDoor
/- TermTexts: the row and its card out of the walk. Conditions: none beyond the statement's own. -/
set_option linter.unusedVariables false
namespace Go.Proofs.YtpffclpheldabaaGreatDoor.termTexts
open Go.ChangeShapes Go.WideShapes Go.ChangeAt Go.RowKit Go.Our
open Go.ChangeMaps (open_string shut_string)
theorem own : ownKnob Tryz.prog.godebug = none := by kernel_rfl
theorem laidOut : laidOutB Tryz.prog = true := by kernel_rfl
theorem readable : ∀ t ∈ Tryz.f4.params.toList, Tryz.prog.readableRec t = true ∧ t < Tryz.prog.types.size := by
  have h : (Tryz.f4.params.toList.all fun t => Tryz.prog.readableRec t && decide (t < Tryz.prog.types.size)) = true := by kernel_rfl
  intro t ht
  have := List.all_eq_true.1 h t ht
  simpa using this
set_option maxRecDepth 100000 in
theorem contract (H : Type) (enc : TypeId × Value → H) (W : World) (base : Nat) (args : Array Value) (ds gs : List (DataW H)) (before : List MemPlace)
    (hval : ∀ (j : Nat) t v, Tryz.f4.params[j]? = some t → args[j]? = some v → Value.okWide Tryz.prog W .any base t v)
    (hW : DataW.Whole enc Tryz.prog Tryz.f4.params.toList Rows.termTextsSpec.vars false W args.toList ds gs before)
    (hsz : (DataW.weightsEach Tryz.prog (Tryz.f4.params.toList ++ (OpenSpec.ofChange Rows.termTextsSpec).bare.plain.varTypes Tryz.prog) (ds ++ gs)).all (fun x => decide (x ≤ reachBytes)) = true)
    (hL : laidMetH Tryz.prog Rows.termTextsRow.laid W)
    : Calls Tryz.prog 4 args W fun e W' => ∃ v, e = .returned v ∧ Rows.termTextsSpec.post enc Tryz.prog Tryz.f4 false true false false W args v W' := by
  have hW' := hW
  have hlt := hW.lt
  obtain ⟨p, q, hA0, hV, rfl, hfz, hnd⟩ := hW
  have hA : DataW.TrodAll enc Tryz.prog W 0 (fun _ => true) true Tryz.f4.params.toList args.toList ds p := hA0
  rw [Tryz.params4] at hA hval
  obtain ⟨v0, vs0, d0, ds0, p0, q0, hargs, rfl, rfl, h0, r0⟩ := trodAll_cons hA
  obtain ⟨rfl, rfl, rfl⟩ := trodAll_nil r0
  obtain rfl : args = #[v0] := by cases args; simp_all
  obtain ⟨rfl, rfl⟩ := trodVars_none hV
  have hlt' : ∀ x ∈ p0, x.block < W.heap.size := fun x hx => hlt x (by simpa using hx)
  have hsz' : (DataW.weightsEach Tryz.prog [32] [d0]).all (fun x => decide (x ≤ reachBytes)) = true := hsz
  simp only [DataW.weightsEach] at hsz'
  have sz0 := all_left hsz'
  obtain ⟨t0, rfl, hd0, ok0⟩ := read_tm (hval 0 32 v0 rfl rfl) h0
  have sm0 := tm_sm (by rw [← hd0]; exact sz0)
  refine (law_calls (lawTexts_does t0 sm0) Tryz.call4 ⟨_, _, rfl, den_tm t0, rfl⟩ (globOf rfl hL)).mono fun e W' ⟨he, hb⟩ => ?_
  subst he
  exact ⟨_, rfl, law_post laidOut readable rfl Tryz.underlying4 hW' rfl rfl rfl rfl hb⟩
/-- A world for the witness: the settled one, each listed variable holding what its initialiser lays. -/
noncomputable def laidWorld (os : Os) : World :=
  { World.holding Tryz.prog os ⟨#[], #[], []⟩ with heap := ((((World.holding Tryz.prog os ⟨#[], #[], []⟩).heap.modify 3 fun | .cells _ t fz => .cells #[.int .u8 128, .int .u8 191, .int .u8 160, .int .u8 191, .int .u8 128, .int .u8 159, .int .u8 144, .int .u8 191, .int .u8 128, .int .u8 143, .int .u8 0, .int .u8 0, .int .u8 0, .int .u8 0, .int .u8 0, .int .u8 0, .int .u8 0, .int .u8 0, .int .u8 0, .int .u8 0, .int .u8 0, .int .u8 0, .int .u8 0, .int .u8 0, .int .u8 0, .int .u8 0, .int .u8 0, .int .u8 0, .int .u8 0, .int .u8 0, .int .u8 0, .int .u8 0] t fz | o => o).modify 1 fun | .cells _ t fz => .cells #[.int .i32 192, .int .i32 214, .int .i32 216, .int .i32 246, .int .i32 248, .int .i32 767, .int .i32 880, .int .i32 893, .int .i32 895, .int .i32 8191, .int .i32 8204, .int .i32 8205, .int .i32 8304, .int .i32 8591, .int .i32 11264, .int .i32 12271, .int .i32 12289, .int .i32 55295, .int .i32 63744, .int .i32 64975, .int .i32 65008, .int .i32 65533, .int .i32 65536, .int .i32 983039] t fz | o => o).modify 2 fun | .cells _ t fz => .cells #[.int .u8 240, .int .u8 240, .int .u8 240, .int .u8 240, .int .u8 240, .int .u8 240, .int .u8 240, .int .u8 240, .int .u8 240, .int .u8 240, .int .u8 240, .int .u8 240, .int .u8 240, .int .u8 240, .int .u8 240, .int .u8 240, .int .u8 240, .int .u8 240, .int .u8 240, .int .u8 240, .int .u8 240, .int .u8 240, .int .u8 240, .int .u8 240, .int .u8 240, .int .u8 240, .int .u8 240, .int .u8 240, .int .u8 240, .int .u8 240, .int .u8 240, .int .u8 240, .int .u8 240, .int .u8 240, .int .u8 240, .int .u8 240, .int .u8 240, .int .u8 240, .int .u8 240, .int .u8 240, .int .u8 240, .int .u8 240, .int .u8 240, .int .u8 240, .int .u8 240, .int .u8 240, .int .u8 240, .int .u8 240, .int .u8 240, .int .u8 240, .int .u8 240, .int .u8 240, .int .u8 240, .int .u8 240, .int .u8 240, .int .u8 240, .int .u8 240, .int .u8 240, .int .u8 240, .int .u8 240, .int .u8 240, .int .u8 240, .int .u8 240, .int .u8 240, .int .u8 240, .int .u8 240, .int .u8 240, .int .u8 240, .int .u8 240, .int .u8 240, .int .u8 240, .int .u8 240, .int .u8 240, .int .u8 240, .int .u8 240, .int .u8 240, .int .u8 240, .int .u8 240, .int .u8 240, .int .u8 240, .int .u8 240, .int .u8 240, .int .u8 240, .int .u8 240, .int .u8 240, .int .u8 240, .int .u8 240, .int .u8 240, .int .u8 240, .int .u8 240, .int .u8 240, .int .u8 240, .int .u8 240, .int .u8 240, .int .u8 240, .int .u8 240, .int .u8 240, .int .u8 240, .int .u8 240, .int .u8 240, .int .u8 240, .int .u8 240, .int .u8 240, .int .u8 240, .int .u8 240, .int .u8 240, .int .u8 240, .int .u8 240, .int .u8 240, .int .u8 240, .int .u8 240, .int .u8 240, .int .u8 240, .int .u8 240, .int .u8 240, .int .u8 240, .int .u8 240, .int .u8 240, .int .u8 240, .int .u8 240, .int .u8 240, .int .u8 240, .int .u8 240, .int .u8 240, .int .u8 240, .int .u8 240, .int .u8 240, .int .u8 240, .int .u8 241, .int .u8 241, .int .u8 241, .int .u8 241, .int .u8 241, .int .u8 241, .int .u8 241, .int .u8 241, .int .u8 241, .int .u8 241, .int .u8 241, .int .u8 241, .int .u8 241, .int .u8 241, .int .u8 241, .int .u8 241, .int .u8 241, .int .u8 241, .int .u8 241, .int .u8 241, .int .u8 241, .int .u8 241, .int .u8 241, .int .u8 241, .int .u8 241, .int .u8 241, .int .u8 241, .int .u8 241, .int .u8 241, .int .u8 241, .int .u8 241, .int .u8 241, .int .u8 241, .int .u8 241, .int .u8 241, .int .u8 241, .int .u8 241, .int .u8 241, .int .u8 241, .int .u8 241, .int .u8 241, .int .u8 241, .int .u8 241, .int .u8 241, .int .u8 241, .int .u8 241, .int .u8 241, .int .u8 241, .int .u8 241, .int .u8 241, .int .u8 241, .int .u8 241, .int .u8 241, .int .u8 241, .int .u8 241, .int .u8 241, .int .u8 241, .int .u8 241, .int .u8 241, .int .u8 241, .int .u8 241, .int .u8 241, .int .u8 241, .int .u8 241, .int .u8 241, .int .u8 241, .int .u8 2, .int .u8 2, .int .u8 2, .int .u8 2, .int .u8 2, .int .u8 2, .int .u8 2, .int .u8 2, .int .u8 2, .int .u8 2, .int .u8 2, .int .u8 2, .int .u8 2, .int .u8 2, .int .u8 2, .int .u8 2, .int .u8 2, .int .u8 2, .int .u8 2, .int .u8 2, .int .u8 2, .int .u8 2, .int .u8 2, .int .u8 2, .int .u8 2, .int .u8 2, .int .u8 2, .int .u8 2, .int .u8 2, .int .u8 2, .int .u8 19, .int .u8 3, .int .u8 3, .int .u8 3, .int .u8 3, .int .u8 3, .int .u8 3, .int .u8 3, .int .u8 3, .int .u8 3, .int .u8 3, .int .u8 3, .int .u8 3, .int .u8 35, .int .u8 3, .int .u8 3, .int .u8 52, .int .u8 4, .int .u8 4, .int .u8 4, .int .u8 68, .int .u8 241, .int .u8 241, .int .u8 241, .int .u8 241, .int .u8 241, .int .u8 241, .int .u8 241, .int .u8 241, .int .u8 241, .int .u8 241, .int .u8 241] t fz | o => o) }
theorem laid_met (os : Os) : laidMet Tryz.prog Rows.termTextsRow.laid ((laidWorld os).forCall (fun _ _ => 0) ⟨#[], #[Value.agg #[.int .i64 0, .string ⟨#[]⟩, .string ⟨#[]⟩, .string ⟨#[]⟩]], []⟩).memory :=
  laidMet_of_run' 8 (by kernel_rfl) (by kernel_rfl)
theorem reads (os : Os) {H : Type} (enc : TypeId × Value → H) : ∃ places, DataW.whole enc Tryz.prog ((laidWorld os).forCall (fun _ _ => 0) ⟨#[], #[Value.agg #[.int .i64 0, .string ⟨#[]⟩, .string ⟨#[]⟩, .string ⟨#[]⟩]], []⟩).memory Tryz.f4.params.toList Rows.termTextsSpec.vars false #[Value.agg #[.int .i64 0, .string ⟨#[]⟩, .string ⟨#[]⟩, .string ⟨#[]⟩]].toList 8 = some ([.agg [.lit (.int .i64 0), .lit (.string []), .lit (.string []), .lit (.string [])]], [], places) :=
  ⟨[], by kernel_rfl⟩
set_option maxRecDepth 100000 in
theorem lifted (os : Os) (started : os.Started) (H : Type) (enc : TypeId × Value → H) (F : Stop.Interp) :
    ReturnsInHanded {} Tryz.checked os 4 .any ((OpenSpec.ofChange Rows.termTextsSpec).preRow enc Tryz.prog Tryz.f4 Rows.termTextsRow.domain false Rows.termTextsRow.laid) (((OpenSpec.ofChange Rows.termTextsSpec).at F).post enc Tryz.prog Tryz.f4 false true false false) := by
  obtain ⟨places, hx⟩ := reads os enc
  refine returnsInHanded_of_row (C := Tryz.checked) (s := (OpenSpec.ofChange Rows.termTextsSpec)) own started (by kernel_rfl) Tryz.func4
    (witness_row_at (enc := enc) (C := Tryz.checked) false (laidWorld os) #[.agg #[.int .i64 0, .string ⟨#[]⟩, .string ⟨#[]⟩, .string ⟨#[]⟩]] rfl (by kernel_rfl) (by kernel_rfl) (by kernel_rfl)
      (OpenSpec.preRow_of_cond 8 hx (by kernel_rfl) (fun k hk => by cases hk) (by kernel_rfl) (laid_met os))) ?_
  intro W base args ds gs before hval hW _ hcond hsz hL _ _
  exact contract H enc W base args ds gs before hval hW hsz hL
theorem said : Rows.TermTextsSaid :=
  OpenClaim.holds_of_cond 4 Tryz.f4 rfl rfl rfl rfl rfl rfl rfl ⟨rfl, rfl, rfl, rfl, rfl⟩ rfl rfl rfl rfl rfl (by kernel_rfl) Tryz.func4 (by kernel_rfl)
    (of_decide_eq_true (by kernel_rfl)) (by unfold Func.isWrapper; first | (rw [if_pos (by decide +kernel)]; kernel_rfl) | (rw [if_neg (by decide +kernel)]; exact ⟨rfl, rfl⟩))
    (fun os started H enc _ F => by rw [OpenClaim.pre_eq_preRow]; exact lifted os started H enc F)
theorem plain (f : FuncId) (fn : Func) (hf : Tryz.pinned.checked.prog.funcNamed "tessera/tesseralaw07.TermTexts" = some f) (hfn : Tryz.pinned.checked.prog.funcs[f]? = some fn) :
    true = Tryz.pinned.checked.prog.looks [] ∧ ∀ (j : Nat) t, fn.params[j]? = some t → Tryz.pinned.checked.prog.wantsStandIn t = false := by
  obtain rfl : f = 4 := Option.some.inj ((show Tryz.prog.funcNamed "tessera/tesseralaw07.TermTexts" = some 4 by kernel_rfl).symm.trans hf) |>.symm
  obtain rfl : fn = Tryz.f4 := (Option.some.inj (Tryz.func4.symm.trans hfn)).symm
  refine ⟨by kernel_rfl, fun j t ht => ?_⟩
  have h : (Tryz.f4.params.toList.all fun t => !Tryz.prog.wantsStandIn t) = true := by kernel_rfl
  have := List.all_eq_true.1 h t (by simpa using Array.mem_of_getElem? ht)
  have e : Tryz.prog.wantsStandIn t = false := by simpa using this
  exact e
theorem card : Rows.TermTextsCardSaid :=
  Claim7.holds_tied_plain_at .later [] _ _ _ _ said (fun _ h => by cases h) (by kernel_rfl) (fun _ h => by cases h) termTexts_row_tie rfl ⟨rfl, rfl⟩ (by kernel_rfl) rfl plain (by kernel_rfl)
end Go.Proofs.YtpffclpheldabaaGreatDoor.termTexts
