/- Part 4 of the texts that the last one leans on: Tag6, Tag7, Tag8, Term1, Term2, InferM, Infer. Conditions: as each part says. -/
import Derived.Test.YtamnapaephmpmaaGreatDoorIa3
/- The reference's tags: the reader, walked. Conditions: none. -/
set_option linter.unusedVariables false
set_option linter.unusedSimpArgs false
set_option maxRecDepth 20000
namespace Go.Proofs.YtamnapaephmpmaaGreatDoor
open Go.Sx Go.Our
def rd6 (i m : Nat) : Hp := .box [.sl (.loc 1) i 1 m none]
def tg6 (L E S R : List UInt8) (jv v jx x : Nat) (P : List UInt8) : Hp := .box [.str L, .str E, .str S, .str R, .sl (.loc jv) 0 1 v none, .sl (.loc jx) 0 1 x none, .str P]
theorem more_does (least most : Int) (digits : Bool) (ps : List (List UInt8)) (hsm : ∀ s ∈ ps, Sm s) (i m : Nat) (him : i + m = ps.length) :
    Does Tryz.prog tab 54 2 [.ptr (.loc 0) 0 0 0, .int .i64 least, .int .i64 most, .bool digits] [] [(0, rd6 i m), (1, .rows 1 (ps.map strRow))] (ValK 2 (.bool (seesM (moreM least most digits) ps i))) := by
  refine Does.enter tabOK (g := 54) (fn := Tryz.f54) Tryz.call54 Tryz.func54 rfl 52 rfl rfl [.tmp 8] rfl ?_
  intro w0 F η0 h0
  conv => whnf
  rcases Nat.eq_zero_or_pos m with hm | hm
  · subst hm
    repeat' (first | ((with_reducible refine IF.tt ?_); conv => whnf) | ((with_reducible refine IF.ff ?_); conv => whnf) | (refine GETG.mk ⟨strRow [], fun h => (by simp at h), ?_⟩; conv => whnf) | ((with_reducible refine NEED.mk ?_ ?_); (first | with_reducible rfl | omega | (simp (disch := omega) only [lnB, wrap64, wrap32] <;> omega) | (intro h; (try simp (disch := omega) only [hsB, hsC, lnB, wrap64, wrap32, Int.reduceBEq, Int.reduceBNe, Int.reduceEq, Int.reduceNe, Int.reduceLT, Int.reduceLE, Int.reduceGT, Int.reduceGE, Int.reduceAdd, Int.reduceSub, Int.reduceMul, Int.reduceNeg, reduceCtorEq] at h); (first | omega | (simp (disch := omega) only [lnB, wrap64, wrap32] <;> omega))) | (exact needApp 256 rfl rfl (by simp) (by simp) (by omega)) | (simp <;> omega)); conv => whnf) | ((with_reducible apply GET.at); (rfl); conv => whnf) | ((with_reducible apply GETG.at); (rfl); conv => whnf) | ((with_reducible refine IF.mk (fun h => ?_) (fun h => ?_)) <;> (try simp (disch := omega) only [hsB, hsC, lnB, wrap64, wrap32, Int.reduceBEq, Int.reduceBNe, Int.reduceEq, Int.reduceNe, Int.reduceLT, Int.reduceLE, Int.reduceGT, Int.reduceGE, Int.reduceAdd, Int.reduceSub, Int.reduceMul, Int.reduceNeg, reduceCtorEq] at h) <;> (try (exfalso; omega)) <;> conv => whnf))
    all_goals first
      | (refine FIN.valueK h0 rfl (congrArg SV.bool ?_)
         unfold seesM; rw [List.getElem?_eq_none (by omega)])
      | (exfalso; simp_all; done)
  · have hlt : i < ps.length := by omega
    have hse : seesM (moreM least most digits) ps i = moreM least most digits ps[i] := by unfold seesM; rw [List.getElem?_eq_getElem hlt]
    have hs := hsm _ (List.getElem_mem hlt)
    repeat' (first | ((with_reducible refine IF.tt ?_); conv => whnf) | ((with_reducible refine IF.ff ?_); conv => whnf) | (refine GET.at (row := strRow (ps[i]'(by omega))) (by rw [List.getElem?_map, show i + (0 : Int).toNat = i by simp, List.getElem?_eq_getElem (by omega)]; rfl) ?_; conv => whnf) | (refine GETG.at (row := strRow (ps[i]'(by omega))) (by rw [List.getElem?_map, show i + (0 : Int).toNat = i by simp, List.getElem?_eq_getElem (by omega)]; rfl) ?_; conv => whnf) | (refine CALL.value (r6letters_does _ hs) rfl rfl ?_; conv => whnf) | (refine CALL.value (r6numerals_does _ hs) rfl rfl ?_; conv => whnf) | ((with_reducible refine NEED.mk ?_ ?_); (first | with_reducible rfl | omega | (simp (disch := omega) only [lnB, wrap64, wrap32] <;> omega) | (intro h; (try simp (disch := omega) only [hsB, hsC, lnB, wrap64, wrap32, Int.reduceBEq, Int.reduceBNe, Int.reduceEq, Int.reduceNe, Int.reduceLT, Int.reduceLE, Int.reduceGT, Int.reduceGE, Int.reduceAdd, Int.reduceSub, Int.reduceMul, Int.reduceNeg, reduceCtorEq] at h); (first | omega | (simp (disch := omega) only [lnB, wrap64, wrap32] <;> omega))) | (exact needApp 256 rfl rfl (by simp) (by simp) (by omega)) | (simp <;> omega)); conv => whnf) | ((with_reducible apply GET.at); (rfl); conv => whnf) | ((with_reducible apply GETG.at); (rfl); conv => whnf) | ((with_reducible refine IF.mk (fun h => ?_) (fun h => ?_)) <;> (try simp (disch := omega) only [hsB, hsC, lnB, wrap64, wrap32, Int.reduceBEq, Int.reduceBNe, Int.reduceEq, Int.reduceNe, Int.reduceLT, Int.reduceLE, Int.reduceGT, Int.reduceGE, Int.reduceAdd, Int.reduceSub, Int.reduceMul, Int.reduceNeg, reduceCtorEq] at h) <;> (try (exfalso; omega)) <;> conv => whnf))
    all_goals
      refine FIN.valueK h0 rfl (congrArg SV.bool ?_)
      rw [hse]; unfold moreM
    · rw [show decide (least ≤ (ps[i].length : Int) ∧ (ps[i].length : Int) ≤ most) = false from decide_eq_false (by omega)]; rfl
    · rw [show decide (least ≤ (ps[i].length : Int) ∧ (ps[i].length : Int) ≤ most) = true from decide_eq_true (by omega)]; simp [h]
    · rw [show decide (least ≤ (ps[i].length : Int) ∧ (ps[i].length : Int) ≤ most) = true from decide_eq_true (by omega)]; simp [h]
theorem next6_does (ps : List (List UInt8)) (i m : Nat) (him : i + (m + 1) = ps.length) (p : List UInt8) (hp : ps[i]? = some p) :
    Does Tryz.prog tab 55 2 [.ptr (.loc 0) 0 0 0] [(0, rd6 i (m + 1))] [(1, .rows 1 (ps.map strRow))] (fun r O nx => r = .str p ∧ O = [(0, rd6 (i + 1) m)] ∧ nx = 2) := by
  refine Does.enter tabOK (g := 55) (fn := Tryz.f55) Tryz.call55 Tryz.func55 rfl 19 rfl rfl [.tmp 2] rfl ?_
  intro w0 F η0 h0
  conv => whnf
  repeat' (first | ((with_reducible refine IF.tt ?_); conv => whnf) | ((with_reducible refine IF.ff ?_); conv => whnf) | (refine GET.at (row := strRow p) (by rw [List.getElem?_map, show i + (0 : Int).toNat = i by simp, hp]; rfl) ?_; conv => whnf) | ((with_reducible refine NEED.mk ?_ ?_); (first | with_reducible rfl | omega | (simp (disch := omega) only [lnB, wrap64, wrap32] <;> omega) | (intro h; (try simp (disch := omega) only [hsB, hsC, lnB, wrap64, wrap32, Int.reduceBEq, Int.reduceBNe, Int.reduceEq, Int.reduceNe, Int.reduceLT, Int.reduceLE, Int.reduceGT, Int.reduceGE, Int.reduceAdd, Int.reduceSub, Int.reduceMul, Int.reduceNeg, reduceCtorEq] at h); (first | omega | (simp (disch := omega) only [lnB, wrap64, wrap32] <;> omega))) | (exact needApp 256 rfl rfl (by simp) (by simp) (by omega)) | (simp <;> omega)); conv => whnf) | ((with_reducible apply GET.at); (rfl); conv => whnf) | ((with_reducible apply GETG.at); (rfl); conv => whnf) | ((with_reducible refine IF.mk (fun h => ?_) (fun h => ?_)) <;> (try simp (disch := omega) only [hsB, hsC, lnB, wrap64, wrap32, Int.reduceBEq, Int.reduceBNe, Int.reduceEq, Int.reduceNe, Int.reduceLT, Int.reduceLE, Int.reduceGT, Int.reduceGE, Int.reduceAdd, Int.reduceSub, Int.reduceMul, Int.reduceNeg, reduceCtorEq] at h) <;> (try (exfalso; omega)) <;> conv => whnf))
  exact FIN.here h0 (Oc := [(0, rd6 (i + 1) m)]) rfl rfl rfl ⟨rfl, trivial⟩ ⟨rfl, rfl, rfl⟩
theorem bulk_le {b : Nat} : ∀ {l : List (List UInt8)}, (∀ s ∈ l, s.length ≤ b) → bulkM l ≤ b * l.length
  | [], _ => by simp [bulkM]
  | s :: l, h => by
    have h1 := h s (by simp)
    have h2 := bulk_le (l := l) fun x hx => h x (by simp [hx])
    unfold bulkM at *
    simp only [List.map_cons, List.sum_cons, List.length_cons, Nat.mul_add]; omega
theorem more33 : moreM 3 3 false = fun s => madeM s 3 3 true := funext (more_made 3 3)
theorem language6_does (ps : List (List UInt8)) (hb : bulkM ps + ps.length ≤ 68719476736) (i m : Nat) (him : i + m = ps.length) :
    Does Tryz.prog tab 53 5 [.ptr (.loc 0) 0 0 0, .ptr (.loc 2) 0 0 0] [(0, rd6 i m), (2, tg6 [] [] [] [] 3 0 4 0 [])] [(1, .rows 1 (ps.map strRow))]
      (fun r O nx => ∃ (i' m' : Nat) (L E : List UInt8), i' + m' = ps.length ∧ r = .bool (langP (ps.drop i)).isSome ∧ (∀ l, langP (ps.drop i) = some l → l = ps.drop i' ∧ L ≠ []) ∧ O = [(0, rd6 i' m'), (2, tg6 L E [] [] 3 0 4 0 [])] ∧ nx = 5) := by
  have hsm := bulk_sm (ps := ps) (by omega)
  refine Does.enter tabOK (g := 53) (fn := Tryz.f53) Tryz.call53 Tryz.func53 rfl 41 rfl rfl [.tmp 4] rfl ?_
  intro w0 F η0 h0
  conv => whnf
  refine CALL.at [0, 1] (more_does 2 3 false ps hsm i m him) rfl rfl rfl rfl (by first | rfl | (simp only [belowO, belowH, plainLL_below _ (plainStrs _), Bool.and_self, Bool.and_true] <;> rfl)) (by first | rfl | (simp only [belowO, belowH, plainLL_below _ (plainStrs _), Bool.and_self, Bool.and_true] <;> rfl)) (by repeat' (first | exact trivial | exact (renH_plain _ (h := .rows _ _) (plainStrs _)).symm | exact rfl | exact (renH_plain _ (h := .rows _ _) (plainStrs _)).trans (renH_plain _ (h := .rows _ _) (plainStrs _)).symm | ((conv => whnf); refine ⟨?_, ?_⟩))) (by repeat' (first | exact trivial | exact (renH_plain _ (h := .rows _ _) (plainStrs _)).symm | exact rfl | exact (renH_plain _ (h := .rows _ _) (plainStrs _)).trans (renH_plain _ (h := .rows _ _) (plainStrs _)).symm | ((conv => whnf); refine ⟨?_, ?_⟩))) rfl rfl ?_
  rintro r O' nx' ⟨rfl, rfl, rfl⟩
  conv => whnf
  refine IF.mk (fun h1 => ?_) (fun h1 => ?_)
  · obtain ⟨w, hw, hwm⟩ := sees_yes h1
    rw [more_made] at hwm
    have hwl := made_len hwm
    have hlt := (List.getElem?_eq_some_iff.1 hw).1
    obtain ⟨k, rfl⟩ : ∃ k, m = k + 1 := ⟨m - 1, by omega⟩
    have hne : w ≠ [] := by rintro rfl; simp at hwl
    have hL : langP (ps.drop i) = some (extP 3 (ps.drop (i + 1))) := by
      rw [drop_at hw]; simp only [langP]
      rw [if_pos (by rw [lang_more, more_made, hwm]; rfl), if_neg (by omega)]
    conv => whnf
    refine CALL.at [0, 1] (next6_does ps i k him w hw) rfl rfl rfl rfl (by first | rfl | (simp only [belowO, belowH, plainLL_below _ (plainStrs _), Bool.and_self, Bool.and_true] <;> rfl)) (by first | rfl | (simp only [belowO, belowH, plainLL_below _ (plainStrs _), Bool.and_self, Bool.and_true] <;> rfl)) (by repeat' (first | exact trivial | exact (renH_plain _ (h := .rows _ _) (plainStrs _)).symm | exact rfl | exact (renH_plain _ (h := .rows _ _) (plainStrs _)).trans (renH_plain _ (h := .rows _ _) (plainStrs _)).symm | ((conv => whnf); refine ⟨?_, ?_⟩))) (by repeat' (first | exact trivial | exact (renH_plain _ (h := .rows _ _) (plainStrs _)).symm | exact rfl | exact (renH_plain _ (h := .rows _ _) (plainStrs _)).trans (renH_plain _ (h := .rows _ _) (plainStrs _)).symm | ((conv => whnf); refine ⟨?_, ?_⟩))) rfl rfl ?_
    rintro r O' nx' ⟨rfl, rfl, rfl⟩
    conv => whnf
    refine LOOP.nil 5 1 rfl ?_
    refine LOOP.go tabOK [0, 1] (X := List (List UInt8) × Nat) (fun y => y.1.length ≤ 3 ∧ (∀ s ∈ y.1, s.length ≤ 3) ∧ y.2 + (ps.length - y.2) = ps.length ∧ extP 3 (ps.drop (i + 1)) = extP (3 - y.1.length) (ps.drop y.2)) (fun y => [(5, .sl (.loc 5) 0 1 y.1.length none)]) (fun y => [(0, rd6 y.2 (ps.length - y.2)), (2, tg6 w [] [] [] 3 0 4 0 []), (5, .rows 1 (y.1.map strRow))]) 6 (fun y => 3 - y.1.length) ([], i + 1) ⟨by simp, by simp, by simp only; omega, rfl⟩ ?_
    conv => whnf
    rw [show ps.length - (i + 1) = k by omega]
    refine ⟨by (refine GOES.keeping h0 [5] rfl rfl rfl (by first | rfl | (simp only [belowO, belowH, plainLL_below _ (plainStrs _), Bool.and_self, Bool.and_true] <;> rfl)) ?_ ?_ <;> (repeat' (first | (with_reducible rfl) | (exact rows_eq (plainStrs _) (renLL_plain _ (plainStrs _))) | (exact rows_eq (plainStrs _) (by simp [strRow, ofVal, List.take_of_length_le])) | (exact sl_eq rfl (by simp)) | (exact congrArg (SV.int _) (by first | omega | (simp (disch := omega) only [lnB, wrap64, wrap32] <;> omega) | (simp; done) | (simp <;> omega))) | ((conv => whnf); refine ⟨?_, ?_⟩) | exact trivial | (simp only [ren, renB]; done) | rfl))), ?_⟩
    rintro ⟨l, a⟩ ⟨hl, hls, ha, hx⟩
    dsimp only at hl hls ha hx ⊢
    have fin : seesM (fun s => madeM s 3 3 true) ps a = false ∨ l.length = 3 → extP 3 (ps.drop (i + 1)) = ps.drop a := by
      rintro (h | h)
      · rw [hx, ext_no h]
      · rw [hx, h]; rfl
    have hbl := bulk_le hls
    conv => whnf
    refine IF.mk (fun h => ?_) (fun h => ?_)
    · have h : l.length < 3 := by simp at h; omega
      conv => whnf
      repeat' (first | ((with_reducible refine IF.tt ?_); conv => whnf) | ((with_reducible refine IF.ff ?_); conv => whnf) | ((with_reducible refine NEED.mk ?_ ?_); (first | with_reducible rfl | omega | (simp (disch := omega) only [lnB, wrap64, wrap32] <;> omega) | (intro h; (try simp (disch := omega) only [hsB, hsC, lnB, wrap64, wrap32, Int.reduceBEq, Int.reduceBNe, Int.reduceEq, Int.reduceNe, Int.reduceLT, Int.reduceLE, Int.reduceGT, Int.reduceGE, Int.reduceAdd, Int.reduceSub, Int.reduceMul, Int.reduceNeg, reduceCtorEq] at h); (first | omega | (simp (disch := omega) only [lnB, wrap64, wrap32] <;> omega))) | (exact needApp 256 rfl rfl (by simp) (by simp) (by omega)) | (simp <;> omega)); conv => whnf) | ((with_reducible apply GET.at); (rfl); conv => whnf) | ((with_reducible apply GETG.at); (rfl); conv => whnf) | ((with_reducible refine IF.mk (fun h => ?_) (fun h => ?_)) <;> (try simp (disch := omega) only [hsB, hsC, lnB, wrap64, wrap32, Int.reduceBEq, Int.reduceBNe, Int.reduceEq, Int.reduceNe, Int.reduceLT, Int.reduceLE, Int.reduceGT, Int.reduceGE, Int.reduceAdd, Int.reduceSub, Int.reduceMul, Int.reduceNeg, reduceCtorEq] at h) <;> (try (exfalso; omega)) <;> conv => whnf))
      refine CALL.at [0, 1] (more_does 3 3 false ps hsm a (ps.length - a) ha) rfl rfl rfl rfl (by first | rfl | (simp only [belowO, belowH, plainLL_below _ (plainStrs _), Bool.and_self, Bool.and_true] <;> rfl)) (by first | rfl | (simp only [belowO, belowH, plainLL_below _ (plainStrs _), Bool.and_self, Bool.and_true] <;> rfl)) (by repeat' (first | exact trivial | exact (renH_plain _ (h := .rows _ _) (plainStrs _)).symm | exact rfl | exact (renH_plain _ (h := .rows _ _) (plainStrs _)).trans (renH_plain _ (h := .rows _ _) (plainStrs _)).symm | ((conv => whnf); refine ⟨?_, ?_⟩))) (by repeat' (first | exact trivial | exact (renH_plain _ (h := .rows _ _) (plainStrs _)).symm | exact rfl | exact (renH_plain _ (h := .rows _ _) (plainStrs _)).trans (renH_plain _ (h := .rows _ _) (plainStrs _)).symm | ((conv => whnf); refine ⟨?_, ?_⟩))) rfl rfl ?_
      rintro r O' nx' ⟨rfl, rfl, rfl⟩
      conv => whnf
      repeat' (first | ((with_reducible refine IF.tt ?_); conv => whnf) | ((with_reducible refine IF.ff ?_); conv => whnf) | ((with_reducible refine NEED.mk ?_ ?_); (first | with_reducible rfl | omega | (simp (disch := omega) only [lnB, wrap64, wrap32] <;> omega) | (intro h; (try simp (disch := omega) only [hsB, hsC, lnB, wrap64, wrap32, Int.reduceBEq, Int.reduceBNe, Int.reduceEq, Int.reduceNe, Int.reduceLT, Int.reduceLE, Int.reduceGT, Int.reduceGE, Int.reduceAdd, Int.reduceSub, Int.reduceMul, Int.reduceNeg, reduceCtorEq] at h); (first | omega | (simp (disch := omega) only [lnB, wrap64, wrap32] <;> omega))) | (exact needApp 256 rfl rfl (by simp) (by simp) (by omega)) | (simp <;> omega)); conv => whnf) | ((with_reducible apply GET.at); (rfl); conv => whnf) | ((with_reducible apply GETG.at); (rfl); conv => whnf) | ((with_reducible refine IF.mk (fun h => ?_) (fun h => ?_)) <;> (try simp (disch := omega) only [hsB, hsC, lnB, wrap64, wrap32, Int.reduceBEq, Int.reduceBNe, Int.reduceEq, Int.reduceNe, Int.reduceLT, Int.reduceLE, Int.reduceGT, Int.reduceGE, Int.reduceAdd, Int.reduceSub, Int.reduceMul, Int.reduceNeg, reduceCtorEq] at h) <;> (try (exfalso; omega)) <;> conv => whnf))
      · obtain ⟨u, hu, hum⟩ := sees_yes h
        rw [more_made] at hum
        have hul := made_len hum
        have hlt2 := (List.getElem?_eq_some_iff.1 hu).1
        obtain ⟨k', hk'⟩ : ∃ k', ps.length - a = k' + 1 := ⟨ps.length - a - 1, by omega⟩
        rw [hk']
        refine CALL.at [0, 1] (next6_does ps a k' (by omega) u hu) rfl rfl rfl rfl (by first | rfl | (simp only [belowO, belowH, plainLL_below _ (plainStrs _), Bool.and_self, Bool.and_true] <;> rfl)) (by first | rfl | (simp only [belowO, belowH, plainLL_below _ (plainStrs _), Bool.and_self, Bool.and_true] <;> rfl)) (by repeat' (first | exact trivial | exact (renH_plain _ (h := .rows _ _) (plainStrs _)).symm | exact rfl | exact (renH_plain _ (h := .rows _ _) (plainStrs _)).trans (renH_plain _ (h := .rows _ _) (plainStrs _)).symm | ((conv => whnf); refine ⟨?_, ?_⟩))) (by repeat' (first | exact trivial | exact (renH_plain _ (h := .rows _ _) (plainStrs _)).symm | exact rfl | exact (renH_plain _ (h := .rows _ _) (plainStrs _)).trans (renH_plain _ (h := .rows _ _) (plainStrs _)).symm | ((conv => whnf); refine ⟨?_, ?_⟩))) rfl rfl ?_
        rintro r O' nx' ⟨rfl, rfl, rfl⟩
        conv => whnf
        repeat' (first | ((with_reducible refine IF.tt ?_); conv => whnf) | ((with_reducible refine IF.ff ?_); conv => whnf) | ((with_reducible refine NEED.mk ?_ ?_); (first | with_reducible rfl | omega | (simp (disch := omega) only [lnB, wrap64, wrap32] <;> omega) | (intro h; (try simp (disch := omega) only [hsB, hsC, lnB, wrap64, wrap32, Int.reduceBEq, Int.reduceBNe, Int.reduceEq, Int.reduceNe, Int.reduceLT, Int.reduceLE, Int.reduceGT, Int.reduceGE, Int.reduceAdd, Int.reduceSub, Int.reduceMul, Int.reduceNeg, reduceCtorEq] at h); (first | omega | (simp (disch := omega) only [lnB, wrap64, wrap32] <;> omega))) | (exact needApp 256 rfl rfl (by simp) (by simp) (by omega)) | (simp <;> omega)); conv => whnf) | ((with_reducible apply GET.at); (rfl); conv => whnf) | ((with_reducible apply GETG.at); (rfl); conv => whnf) | ((with_reducible refine IF.mk (fun h => ?_) (fun h => ?_)) <;> (try simp (disch := omega) only [hsB, hsC, lnB, wrap64, wrap32, Int.reduceBEq, Int.reduceBNe, Int.reduceEq, Int.reduceNe, Int.reduceLT, Int.reduceLE, Int.reduceGT, Int.reduceGE, Int.reduceAdd, Int.reduceSub, Int.reduceMul, Int.reduceNeg, reduceCtorEq] at h) <;> (try (exfalso; omega)) <;> conv => whnf))
        refine ⟨(l ++ [u], a + 1), ⟨by simp; omega, ?_, by simp only; omega, ?_⟩, by simp; omega, ?_⟩
        · intro x hx'
          rcases List.mem_append.1 hx' with h | h
          · exact hls x h
          · rw [List.mem_singleton.1 h]; omega
        · dsimp only
          rw [hx, drop_at hu, show 3 - l.length = (3 - (l ++ [u]).length) + 1 by simp; omega]
          simp only [extP]; rw [if_pos hum]
        · dsimp only
          rw [show ps.length - (a + 1) = k' by omega, show (l ++ [u]).length = l.length + 1 by simp]
          conv => whnf
          (refine GOES.keeping h0 [7] rfl rfl rfl (by first | rfl | (simp only [belowO, belowH, plainLL_below _ (plainStrs _), Bool.and_self, Bool.and_true] <;> rfl)) ?_ ?_ <;> (repeat' (first | (with_reducible rfl) | (exact rows_eq (plainStrs _) (renLL_plain _ (plainStrs _))) | (exact rows_eq (plainStrs _) (by simp [strRow, ofVal, List.take_of_length_le])) | (exact sl_eq rfl (by simp)) | (exact congrArg (SV.int _) (by first | omega | (simp (disch := omega) only [lnB, wrap64, wrap32] <;> omega) | (simp; done) | (simp <;> omega))) | ((conv => whnf); refine ⟨?_, ?_⟩) | exact trivial | (simp only [ren, renB]; done) | rfl)))
      · rw [more33] at h
        refine CALL.at [5] (r6joined_does l (by omega) 0 l.length (by omega)) rfl rfl rfl rfl (by first | rfl | (simp only [belowO, belowH, plainLL_below _ (plainStrs _), Bool.and_self, Bool.and_true] <;> rfl)) (by first | rfl | (simp only [belowO, belowH, plainLL_below _ (plainStrs _), Bool.and_self, Bool.and_true] <;> rfl)) (by repeat' (first | exact trivial | exact (renH_plain _ (h := .rows _ _) (plainStrs _)).symm | exact rfl | exact (renH_plain _ (h := .rows _ _) (plainStrs _)).trans (renH_plain _ (h := .rows _ _) (plainStrs _)).symm | ((conv => whnf); refine ⟨?_, ?_⟩))) (by repeat' (first | exact trivial | exact (renH_plain _ (h := .rows _ _) (plainStrs _)).symm | exact rfl | exact (renH_plain _ (h := .rows _ _) (plainStrs _)).trans (renH_plain _ (h := .rows _ _) (plainStrs _)).symm | ((conv => whnf); refine ⟨?_, ?_⟩))) rfl rfl ?_
        rintro r O' nx' ⟨E, hE, _, rfl, rfl, rfl⟩
        conv => whnf
        exact FIN.here h0 (Oc := [(0, rd6 (a) (ps.length - a)), (2, tg6 (w) (E) [] [] 3 0 4 0 [])]) rfl rfl rfl ⟨rfl, rfl, trivial⟩ ⟨a, ps.length - a, w, E, by omega, by rw [hL]; rfl, by rw [hL]; rintro x ⟨⟩; exact ⟨fin (.inl h), hne⟩, rfl, rfl⟩
    · have h : l.length = 3 := by simp at h; omega
      conv => whnf
      repeat' (first | ((with_reducible refine IF.tt ?_); conv => whnf) | ((with_reducible refine IF.ff ?_); conv => whnf) | ((with_reducible refine NEED.mk ?_ ?_); (first | with_reducible rfl | omega | (simp (disch := omega) only [lnB, wrap64, wrap32] <;> omega) | (intro h; (try simp (disch := omega) only [hsB, hsC, lnB, wrap64, wrap32, Int.reduceBEq, Int.reduceBNe, Int.reduceEq, Int.reduceNe, Int.reduceLT, Int.reduceLE, Int.reduceGT, Int.reduceGE, Int.reduceAdd, Int.reduceSub, Int.reduceMul, Int.reduceNeg, reduceCtorEq] at h); (first | omega | (simp (disch := omega) only [lnB, wrap64, wrap32] <;> omega))) | (exact needApp 256 rfl rfl (by simp) (by simp) (by omega)) | (simp <;> omega)); conv => whnf) | ((with_reducible apply GET.at); (rfl); conv => whnf) | ((with_reducible apply GETG.at); (rfl); conv => whnf) | ((with_reducible refine IF.mk (fun h => ?_) (fun h => ?_)) <;> (try simp (disch := omega) only [hsB, hsC, lnB, wrap64, wrap32, Int.reduceBEq, Int.reduceBNe, Int.reduceEq, Int.reduceNe, Int.reduceLT, Int.reduceLE, Int.reduceGT, Int.reduceGE, Int.reduceAdd, Int.reduceSub, Int.reduceMul, Int.reduceNeg, reduceCtorEq] at h) <;> (try (exfalso; omega)) <;> conv => whnf))
      refine CALL.at [5] (r6joined_does l (by omega) 0 l.length (by omega)) rfl rfl rfl rfl (by first | rfl | (simp only [belowO, belowH, plainLL_below _ (plainStrs _), Bool.and_self, Bool.and_true] <;> rfl)) (by first | rfl | (simp only [belowO, belowH, plainLL_below _ (plainStrs _), Bool.and_self, Bool.and_true] <;> rfl)) (by repeat' (first | exact trivial | exact (renH_plain _ (h := .rows _ _) (plainStrs _)).symm | exact rfl | exact (renH_plain _ (h := .rows _ _) (plainStrs _)).trans (renH_plain _ (h := .rows _ _) (plainStrs _)).symm | ((conv => whnf); refine ⟨?_, ?_⟩))) (by repeat' (first | exact trivial | exact (renH_plain _ (h := .rows _ _) (plainStrs _)).symm | exact rfl | exact (renH_plain _ (h := .rows _ _) (plainStrs _)).trans (renH_plain _ (h := .rows _ _) (plainStrs _)).symm | ((conv => whnf); refine ⟨?_, ?_⟩))) rfl rfl ?_
      rintro r O' nx' ⟨E, hE, _, rfl, rfl, rfl⟩
      conv => whnf
      exact FIN.here h0 (Oc := [(0, rd6 (a) (ps.length - a)), (2, tg6 (w) (E) [] [] 3 0 4 0 [])]) rfl rfl rfl ⟨rfl, rfl, trivial⟩ ⟨a, ps.length - a, w, E, by omega, by rw [hL]; rfl, by rw [hL]; rintro x ⟨⟩; exact ⟨fin (.inr h), hne⟩, rfl, rfl⟩
  · conv => whnf
    refine CALL.at [0, 1] (more_does 4 8 false ps hsm i m him) rfl rfl rfl rfl (by first | rfl | (simp only [belowO, belowH, plainLL_below _ (plainStrs _), Bool.and_self, Bool.and_true] <;> rfl)) (by first | rfl | (simp only [belowO, belowH, plainLL_below _ (plainStrs _), Bool.and_self, Bool.and_true] <;> rfl)) (by repeat' (first | exact trivial | exact (renH_plain _ (h := .rows _ _) (plainStrs _)).symm | exact rfl | exact (renH_plain _ (h := .rows _ _) (plainStrs _)).trans (renH_plain _ (h := .rows _ _) (plainStrs _)).symm | ((conv => whnf); refine ⟨?_, ?_⟩))) (by repeat' (first | exact trivial | exact (renH_plain _ (h := .rows _ _) (plainStrs _)).symm | exact rfl | exact (renH_plain _ (h := .rows _ _) (plainStrs _)).trans (renH_plain _ (h := .rows _ _) (plainStrs _)).symm | ((conv => whnf); refine ⟨?_, ?_⟩))) rfl rfl ?_
    rintro r O' nx' ⟨rfl, rfl, rfl⟩
    conv => whnf
    refine IF.mk (fun h2 => ?_) (fun h2 => ?_)
    · obtain ⟨w, hw, hwm⟩ := sees_yes h2
      have hwm' := hwm
      rw [more_made] at hwm
      have hwl := made_len hwm
      have hlt := (List.getElem?_eq_some_iff.1 hw).1
      obtain ⟨k, rfl⟩ : ∃ k, m = k + 1 := ⟨m - 1, by omega⟩
      have hne : w ≠ [] := by rintro rfl; simp at hwl
      have hL : langP (ps.drop i) = some (ps.drop (i + 1)) := by
        rw [drop_at hw]; simp only [langP]
        rw [if_pos (by rw [lang_more, hwm', Bool.or_true]), if_pos (by omega)]
      conv => whnf
      refine CALL.at [0, 1] (next6_does ps i k him w hw) rfl rfl rfl rfl (by first | rfl | (simp only [belowO, belowH, plainLL_below _ (plainStrs _), Bool.and_self, Bool.and_true] <;> rfl)) (by first | rfl | (simp only [belowO, belowH, plainLL_below _ (plainStrs _), Bool.and_self, Bool.and_true] <;> rfl)) (by repeat' (first | exact trivial | exact (renH_plain _ (h := .rows _ _) (plainStrs _)).symm | exact rfl | exact (renH_plain _ (h := .rows _ _) (plainStrs _)).trans (renH_plain _ (h := .rows _ _) (plainStrs _)).symm | ((conv => whnf); refine ⟨?_, ?_⟩))) (by repeat' (first | exact trivial | exact (renH_plain _ (h := .rows _ _) (plainStrs _)).symm | exact rfl | exact (renH_plain _ (h := .rows _ _) (plainStrs _)).trans (renH_plain _ (h := .rows _ _) (plainStrs _)).symm | ((conv => whnf); refine ⟨?_, ?_⟩))) rfl rfl ?_
      rintro r O' nx' ⟨rfl, rfl, rfl⟩
      conv => whnf
      exact FIN.here h0 (Oc := [(0, rd6 (i + 1) (k)), (2, tg6 (w) ([]) [] [] 3 0 4 0 [])]) rfl rfl rfl ⟨rfl, rfl, trivial⟩ ⟨i + 1, k, w, [], by omega, by rw [hL]; rfl, by rw [hL]; rintro x ⟨⟩; exact ⟨rfl, hne⟩, rfl, rfl⟩
    · have hL : langP (ps.drop i) = none := by
        rcases sees_no h1 with h | ⟨s, hs, h3, h4⟩
        · rw [h]; rfl
        · rcases sees_no h2 with h | ⟨s', hs', h5, h6⟩
          · rw [h] at h3; cases h3
          · rw [hs] at hs'; cases hs'
            rw [h3]; simp only [langP]; rw [if_neg (by rw [lang_more, h4, h6]; simp)]
      conv => whnf
      exact FIN.here h0 (Oc := [(0, rd6 (i) (m)), (2, tg6 ([]) ([]) [] [] 3 0 4 0 [])]) rfl rfl rfl ⟨rfl, rfl, trivial⟩ ⟨i, m, [], [], by omega, by rw [hL]; rfl, by simp [hL], rfl, rfl⟩
end Go.Proofs.YtamnapaephmpmaaGreatDoor
/- The reference's tags: extensions, the private part, walked. Conditions: none. -/
set_option linter.unusedVariables false
set_option linter.unusedSimpArgs false
set_option maxRecDepth 20000
namespace Go.Proofs.YtamnapaephmpmaaGreatDoor
open Go.Sx Go.Our
/-- Has one of these extensions that letter? -/
def dupM (xs : List (List UInt8)) (w : List UInt8) : Bool := xs.any fun x => lowerM (x.take 1) == lowerM w
theorem dup_at {xs : List (List UInt8)} {w : List UInt8} {i : Nat} (h : i < xs.length) : dupM (xs.drop i) w = (lowerM (xs[i].take 1) == lowerM w || dupM (xs.drop (i + 1)) w) := by
  unfold dupM; rw [List.drop_eq_getElem_cons h]; rfl
theorem extension6_does (ps : List (List UInt8)) (hb : bulkM ps + ps.length ≤ 34359738368) (a m : Nat) (ham : a + (m + 1) = ps.length) (w : List UInt8) (hw : ps[a]? = some w) (hw1 : w.length = 1)
    (L E S R : List UInt8) (v : Nat) (P : List UInt8) (xs : List (List UInt8)) (hxs : ∀ x ∈ xs, 1 ≤ x.length ∧ Sm x) (hxl : xs.length ≤ 34359738368) :
    Does Tryz.prog tab 58 5 [.ptr (.loc 0) 0 0 0, .ptr (.loc 2) 0 0 0] [(0, rd6 a (m + 1)), (2, tg6 L E S R 3 v 4 xs.length P), (4, .rows 1 (xs.map strRow))] [(1, .rows 1 (ps.map strRow))]
      (fun r O nx => ∃ (n : Nat) (xs' : List (List UInt8)), n = spanM (partOK 2) (ps.drop (a + 1)) ∧ r = .bool (!dupM xs w && decide (n ≠ 0)) ∧ (dupM xs w = false → ∃ z, xs' = xs ++ [z] ∧ z.take 1 = w ∧ Sm z) ∧
        O = [(0, rd6 (a + 1 + n) (m - n)), (2, tg6 L E S R 3 v 5 xs'.length P), (5, .rows 1 (xs'.map strRow))] ∧ nx = 6) := by
  have hsm := bulk_sm (ps := ps) (by omega)
  have hwl : Sm w := hsm w (List.mem_of_getElem? hw)
  refine Does.enter tabOK (g := 58) (fn := Tryz.f58) Tryz.call58 Tryz.func58 rfl 69 rfl rfl [.tmp 4] rfl ?_
  intro w0 F η0 h0
  conv => whnf
  refine CALL.at [0, 1] (next6_does ps a m ham w hw) rfl rfl rfl rfl (by first | rfl | (simp only [belowO, belowH, plainLL_below _ (plainStrs _), Bool.and_self, Bool.and_true] <;> rfl)) (by first | rfl | (simp only [belowO, belowH, plainLL_below _ (plainStrs _), Bool.and_self, Bool.and_true] <;> rfl)) (by repeat' (first | exact trivial | exact (renH_plain _ (h := .rows _ _) (plainStrs _)).symm | exact rfl | exact (renH_plain _ (h := .rows _ _) (plainStrs _)).trans (renH_plain _ (h := .rows _ _) (plainStrs _)).symm | ((conv => whnf); refine ⟨?_, ?_⟩))) (by repeat' (first | exact trivial | exact (renH_plain _ (h := .rows _ _) (plainStrs _)).symm | exact rfl | exact (renH_plain _ (h := .rows _ _) (plainStrs _)).trans (renH_plain _ (h := .rows _ _) (plainStrs _)).symm | ((conv => whnf); refine ⟨?_, ?_⟩))) rfl rfl ?_
  rintro r O' nx' ⟨rfl, rfl, rfl⟩
  conv => whnf
  refine LOOP.go tabOK [0, 1] (X := Nat × List (List UInt8)) (fun y => y.1 ≤ m ∧ y.2.length = y.1 + 1 ∧ y.2[0]? = some w ∧ bulkM y.2 ≤ ((ps.take (a + 1 + y.1)).map List.length).sum ∧ spanM (partOK 2) (ps.drop (a + 1)) = y.1 + spanM (partOK 2) (ps.drop (a + 1 + y.1))) (fun y => [(5, .sl (.loc 5) 0 1 y.2.length none)]) (fun y => [(0, rd6 (a + 1 + y.1) (m - y.1)), (2, tg6 L E S R 3 v 4 xs.length P), (4, .rows 1 (xs.map strRow)), (5, .rows 1 (y.2.map strRow))]) 6 (fun y => m - y.1) (0, [w]) ⟨by simp, by simp, by simp, ?_, by simp⟩ ?_
  · simp only [Nat.add_zero]
    rw [sum_le hw]; simp [bulkM]
  conv => whnf
  refine ⟨by (refine GOES.keeping h0 [5] rfl rfl rfl (by first | rfl | (simp only [belowO, belowH, plainLL_below _ (plainStrs _), Bool.and_self, Bool.and_true] <;> rfl)) ?_ ?_ <;> (repeat' (first | (with_reducible rfl) | (exact rows_eq (plainStrs _) (renLL_plain _ (plainStrs _))) | (exact rows_eq (plainStrs _) (by simp [strRow, ofVal, List.take_of_length_le])) | (exact sl_eq rfl (by simp)) | (exact congrArg (SV.int _) (by first | omega | (simp (disch := omega) only [lnB, wrap64, wrap32] <;> omega) | (simp; done) | (simp <;> omega))) | ((conv => whnf); refine ⟨?_, ?_⟩) | exact trivial | (simp only [ren, renB]; done) | rfl))), ?_⟩
  rintro ⟨c, l⟩ ⟨hc, hl, hl0, hlb, hx⟩
  dsimp only at hc hl hl0 hlb hx ⊢
  have hlt0 := bulk_take ps (a + 1 + c)
  have out : ∀ (n : Nat), spanM (partOK 2) (ps.drop (a + 1 + c)) = 0 → spanM (partOK 2) (ps.drop (a + 1)) = c := by intro n h; omega
  conv => whnf
  rcases Nat.lt_or_ge c m with hcm | hcm
  · have hlt : a + 1 + c < ps.length := by omega
    have hs := hsm _ (List.getElem_mem hlt)
    have hs1 := sum_le (List.getElem?_eq_getElem hlt)
    repeat' (first | ((with_reducible refine IF.tt ?_); conv => whnf) | ((with_reducible refine IF.ff ?_); conv => whnf) | (refine GET.at (row := strRow (ps[a + 1 + c]'(by omega))) (by rw [List.getElem?_map, show a + 1 + c + (0 : Int).toNat = a + 1 + c by simp, List.getElem?_eq_getElem (by omega)]; rfl) ?_; conv => whnf) | (refine CALL.value (r6both_does _ _ _ hs) rfl rfl ?_; conv => whnf) | ((with_reducible refine NEED.mk ?_ ?_); (first | with_reducible rfl | omega | (simp (disch := omega) only [lnB, wrap64, wrap32] <;> omega) | (intro h; (try simp (disch := omega) only [hsB, hsC, lnB, wrap64, wrap32, Int.reduceBEq, Int.reduceBNe, Int.reduceEq, Int.reduceNe, Int.reduceLT, Int.reduceLE, Int.reduceGT, Int.reduceGE, Int.reduceAdd, Int.reduceSub, Int.reduceMul, Int.reduceNeg, reduceCtorEq] at h); (first | omega | (simp (disch := omega) only [lnB, wrap64, wrap32] <;> omega))) | (exact needApp 256 rfl rfl (by simp) (by simp) (by omega)) | (simp <;> omega)); conv => whnf) | ((with_reducible apply GET.at); (rfl); conv => whnf) | ((with_reducible apply GETG.at); (rfl); conv => whnf) | ((with_reducible refine IF.mk (fun h => ?_) (fun h => ?_)) <;> (try simp (disch := omega) only [hsB, hsC, lnB, wrap64, wrap32, Int.reduceBEq, Int.reduceBNe, Int.reduceEq, Int.reduceNe, Int.reduceLT, Int.reduceLE, Int.reduceGT, Int.reduceGE, Int.reduceAdd, Int.reduceSub, Int.reduceMul, Int.reduceNeg, reduceCtorEq] at h) <;> (try (exfalso; omega)) <;> conv => whnf))
    · obtain ⟨k', hk'⟩ : ∃ k', m - c = k' + 1 := ⟨m - c - 1, by omega⟩
      rw [hk']
      refine CALL.at [0, 1] (next6_does ps (a + 1 + c) k' (by omega) _ (List.getElem?_eq_getElem hlt)) rfl rfl rfl rfl (by first | rfl | (simp only [belowO, belowH, plainLL_below _ (plainStrs _), Bool.and_self, Bool.and_true] <;> rfl)) (by first | rfl | (simp only [belowO, belowH, plainLL_below _ (plainStrs _), Bool.and_self, Bool.and_true] <;> rfl)) (by repeat' (first | exact trivial | exact (renH_plain _ (h := .rows _ _) (plainStrs _)).symm | exact rfl | exact (renH_plain _ (h := .rows _ _) (plainStrs _)).trans (renH_plain _ (h := .rows _ _) (plainStrs _)).symm | ((conv => whnf); refine ⟨?_, ?_⟩))) (by repeat' (first | exact trivial | exact (renH_plain _ (h := .rows _ _) (plainStrs _)).symm | exact rfl | exact (renH_plain _ (h := .rows _ _) (plainStrs _)).trans (renH_plain _ (h := .rows _ _) (plainStrs _)).symm | ((conv => whnf); refine ⟨?_, ?_⟩))) rfl rfl ?_
      rintro r O' nx' ⟨rfl, rfl, rfl⟩
      conv => whnf
      repeat' (first | ((with_reducible refine IF.tt ?_); conv => whnf) | ((with_reducible refine IF.ff ?_); conv => whnf) | ((with_reducible refine NEED.mk ?_ ?_); (first | with_reducible rfl | omega | (simp (disch := omega) only [lnB, wrap64, wrap32] <;> omega) | (intro h; (try simp (disch := omega) only [hsB, hsC, lnB, wrap64, wrap32, Int.reduceBEq, Int.reduceBNe, Int.reduceEq, Int.reduceNe, Int.reduceLT, Int.reduceLE, Int.reduceGT, Int.reduceGE, Int.reduceAdd, Int.reduceSub, Int.reduceMul, Int.reduceNeg, reduceCtorEq] at h); (first | omega | (simp (disch := omega) only [lnB, wrap64, wrap32] <;> omega))) | (exact needApp 256 rfl rfl (by simp) (by simp) (by omega)) | (simp <;> omega)); conv => whnf) | ((with_reducible apply GET.at); (rfl); conv => whnf) | ((with_reducible apply GETG.at); (rfl); conv => whnf) | ((with_reducible refine IF.mk (fun h => ?_) (fun h => ?_)) <;> (try simp (disch := omega) only [hsB, hsC, lnB, wrap64, wrap32, Int.reduceBEq, Int.reduceBNe, Int.reduceEq, Int.reduceNe, Int.reduceLT, Int.reduceLE, Int.reduceGT, Int.reduceGE, Int.reduceAdd, Int.reduceSub, Int.reduceMul, Int.reduceNeg, reduceCtorEq] at h) <;> (try (exfalso; omega)) <;> conv => whnf))
      have e : (l ++ [ps[a + 1 + c]]).length = l.length + 1 := by simp
      refine ⟨(c + 1, l ++ [ps[a + 1 + c]]), ⟨by simp only; omega, by simp; omega, by simp only; rw [List.getElem?_append_left (by omega), hl0], ?_, ?_⟩, by simp only; omega, ?_⟩
      · simp only
        rw [show a + 1 + (c + 1) = a + 1 + c + 1 by omega, hs1]
        simp [bulkM] at hlb ⊢; omega
      · simp only
        rw [hx, List.drop_eq_getElem_cons hlt]
        simp only [spanM]
        rw [if_pos h]
        show c + (spanM _ _ + 1) = _
        rw [show a + 1 + (c + 1) = a + 1 + c + 1 by omega]; omega
      · dsimp only
        rw [e, show a + 1 + (c + 1) = a + 1 + c + 1 by omega, show m - (c + 1) = k' by omega]
        conv => whnf
        (refine GOES.keeping h0 [7] rfl rfl rfl (by first | rfl | (simp only [belowO, belowH, plainLL_below _ (plainStrs _), Bool.and_self, Bool.and_true] <;> rfl)) ?_ ?_ <;> (repeat' (first | (with_reducible rfl) | (exact rows_eq (plainStrs _) (renLL_plain _ (plainStrs _))) | (exact rows_eq (plainStrs _) (by simp [strRow, ofVal, List.take_of_length_le])) | (exact sl_eq rfl (by simp)) | (exact congrArg (SV.int _) (by first | omega | (simp (disch := omega) only [lnB, wrap64, wrap32] <;> omega) | (simp; done) | (simp <;> omega))) | ((conv => whnf); refine ⟨?_, ?_⟩) | exact trivial | (simp only [ren, renB]; done) | rfl)))
    · have hn : spanM (partOK 2) (ps.drop (a + 1)) = c := by
        rw [hx, List.drop_eq_getElem_cons hlt]; simp only [spanM]; rw [if_neg (by simp [h])]; rfl
      refine LOOP.go tabOK [1, 5] (X := Nat) (fun i => i ≤ xs.length ∧ dupM xs w = dupM (xs.drop i) w) (fun i => [(7, .int .i64 (i : Int))]) (fun i => [(0, rd6 (a + 1 + c) (m - c)), (2, tg6 L E S R 3 v 4 xs.length P), (4, .rows 1 (xs.map strRow)), (5, .rows 1 (l.map strRow))]) 6 (fun i => xs.length - i) 0 ⟨by omega, rfl⟩ ?_
      conv => whnf
      refine ⟨by (refine GOES.keeping h0 [5] rfl rfl rfl (by first | rfl | (simp only [belowO, belowH, plainLL_below _ (plainStrs _), Bool.and_self, Bool.and_true] <;> rfl)) ?_ ?_ <;> (repeat' (first | (with_reducible rfl) | (exact rows_eq (plainStrs _) (renLL_plain _ (plainStrs _))) | (exact rows_eq (plainStrs _) (by simp [strRow, ofVal, List.take_of_length_le])) | (exact sl_eq rfl (by simp)) | (exact congrArg (SV.int _) (by first | omega | (simp (disch := omega) only [lnB, wrap64, wrap32] <;> omega) | (simp; done) | (simp <;> omega))) | ((conv => whnf); refine ⟨?_, ?_⟩) | exact trivial | (simp only [ren, renB]; done) | rfl))), ?_⟩
      rintro i ⟨hi, hd⟩
      dsimp only at hi hd ⊢
      conv => whnf
      rcases Nat.lt_or_ge i xs.length with him | him
      · obtain ⟨hx1, hx2⟩ := hxs _ (List.getElem_mem him)
        have hsub : Sm (xs[i].take (1 : Int).toNat) := by simp; omega
        repeat' (first | ((with_reducible refine IF.tt ?_); conv => whnf) | ((with_reducible refine IF.ff ?_); conv => whnf) | (refine DRAWN.of (id := 8) tabOK mixed (planOf [(0, 1), (1, 1), (2, 1), (4, 1), (9, 1), (10, 1), (3, 2), (5, 1), (6, 2), (7, 1), (11, 2), (8, 3), (12, 3), (13, 1)]) (by kernel_rfl) ?_; conv => whnf) | (refine DRAWN.of (id := 10) tabOK mixed (planOf [(0, 1), (1, 1), (2, 1), (3, 1), (5, 1), (4, 2), (6, 3), (7, 3), (8, 0), (9, 1), (10, 1), (11, 0)]) (by kernel_rfl) ?_; conv => whnf) | ((with_reducible refine ADD.mk (fun _ _ => ?_)); conv => whnf) | ((with_reducible refine NEED.mk (Det.of rfl) ?_); conv => whnf) | ((with_reducible refine FORK.mk ?_ ?_) <;> conv => whnf) | (refine GET.at (row := strRow (xs[i]'(by omega))) (by rw [List.getElem?_map, show 0 + (i : Int).toNat = i by simp, List.getElem?_eq_getElem (by omega)]; rfl) ?_; conv => whnf) | (refine GET.at (row := strRow w) (by rw [List.getElem?_map, show 0 + (0 : Int).toNat = 0 by simp, hl0]; rfl) ?_; conv => whnf) | (refine CALL.value (r6lower_does _ hsub) rfl rfl ?_; conv => whnf) | (refine CALL.value (r6lower_does _ hwl) rfl rfl ?_; conv => whnf) | ((with_reducible refine NEED.mk ?_ ?_); (first | with_reducible rfl | omega | (simp (disch := omega) only [lnB, wrap64, wrap32] <;> omega) | (intro h; (try simp (disch := omega) only [hsB, hsC, lnB, wrap64, wrap32, Int.reduceBEq, Int.reduceBNe, Int.reduceEq, Int.reduceNe, Int.reduceLT, Int.reduceLE, Int.reduceGT, Int.reduceGE, Int.reduceAdd, Int.reduceSub, Int.reduceMul, Int.reduceNeg, reduceCtorEq] at h); (first | omega | (simp (disch := omega) only [lnB, wrap64, wrap32] <;> omega))) | (exact needApp 256 rfl rfl (by simp) (by simp) (by omega)) | (simp <;> omega)); conv => whnf) | ((with_reducible apply GET.at); (rfl); conv => whnf) | ((with_reducible apply GETG.at); (rfl); conv => whnf) | ((with_reducible refine IF.mk (fun h => ?_) (fun h => ?_)) <;> (try simp (disch := omega) only [hsB, hsC, lnB, wrap64, wrap32, Int.reduceBEq, Int.reduceBNe, Int.reduceEq, Int.reduceNe, Int.reduceLT, Int.reduceLE, Int.reduceGT, Int.reduceGE, Int.reduceAdd, Int.reduceSub, Int.reduceMul, Int.reduceNeg, reduceCtorEq] at h) <;> (try (exfalso; omega)) <;> conv => whnf))
        · have hdup : dupM xs w = true := by rw [hd, dup_at him]; simp at h; simp [h]
          refine FIN.at h0 [4] (.bool false) [(0, rd6 (a + 1 + c) (m - c)), (2, tg6 L E S R 3 v 5 xs.length P), (5, .rows 1 (xs.map strRow))] rfl rfl rfl (by first | rfl | (simp only [belowO, belowH, plainLL_below _ (plainStrs _), Bool.and_self, Bool.and_true] <;> rfl)) (by repeat' (first | exact trivial | exact (renH_plain _ (h := .rows _ _) (plainStrs _)).symm | (with_reducible rfl) | (exact rows_eq (plainStrs _) (by simp [strRow, ofVal, List.take_of_length_le])) | exact rfl | ((conv => whnf); refine ⟨?_, ?_⟩))) rfl ?_
          exact ⟨c, xs, hn.symm, by rw [hdup]; rfl, by simp [hdup], rfl, rfl⟩
        · refine ⟨i + 1, ⟨by omega, ?_⟩, by omega, ?_⟩
          · rw [hd, dup_at him]
            have : (lowerM (xs[i].take 1) == lowerM w) = false := by simpa using h
            rw [this, Bool.false_or]
          · conv => whnf
            (refine GOES.keeping h0 [5] rfl rfl rfl (by first | rfl | (simp only [belowO, belowH, plainLL_below _ (plainStrs _), Bool.and_self, Bool.and_true] <;> rfl)) ?_ ?_ <;> (repeat' (first | (with_reducible rfl) | (exact rows_eq (plainStrs _) (renLL_plain _ (plainStrs _))) | (exact rows_eq (plainStrs _) (by simp [strRow, ofVal, List.take_of_length_le])) | (exact sl_eq rfl (by simp)) | (exact congrArg (SV.int _) (by first | omega | (simp (disch := omega) only [lnB, wrap64, wrap32] <;> omega) | (simp; done) | (simp <;> omega))) | ((conv => whnf); refine ⟨?_, ?_⟩) | exact trivial | (simp only [ren, renB]; done) | rfl)))
      · have hdup : dupM xs w = false := by rw [hd, List.drop_eq_nil_of_le (by omega)]; rfl
        repeat' (first | ((with_reducible refine IF.tt ?_); conv => whnf) | ((with_reducible refine IF.ff ?_); conv => whnf) | (refine DRAWN.of (id := 8) tabOK mixed (planOf [(0, 1), (1, 1), (2, 1), (4, 1), (9, 1), (10, 1), (3, 2), (5, 1), (6, 2), (7, 1), (11, 2), (8, 3), (12, 3), (13, 1)]) (by kernel_rfl) ?_; conv => whnf) | (refine DRAWN.of (id := 10) tabOK mixed (planOf [(0, 1), (1, 1), (2, 1), (3, 1), (5, 1), (4, 2), (6, 3), (7, 3), (8, 0), (9, 1), (10, 1), (11, 0)]) (by kernel_rfl) ?_; conv => whnf) | ((with_reducible refine ADD.mk (fun _ _ => ?_)); conv => whnf) | ((with_reducible refine NEED.mk (Det.of rfl) ?_); conv => whnf) | ((with_reducible refine FORK.mk ?_ ?_) <;> conv => whnf) | ((with_reducible refine NEED.mk ?_ ?_); (first | with_reducible rfl | omega | (simp (disch := omega) only [lnB, wrap64, wrap32] <;> omega) | (intro h; (try simp (disch := omega) only [hsB, hsC, lnB, wrap64, wrap32, Int.reduceBEq, Int.reduceBNe, Int.reduceEq, Int.reduceNe, Int.reduceLT, Int.reduceLE, Int.reduceGT, Int.reduceGE, Int.reduceAdd, Int.reduceSub, Int.reduceMul, Int.reduceNeg, reduceCtorEq] at h); (first | omega | (simp (disch := omega) only [lnB, wrap64, wrap32] <;> omega))) | (exact needApp 256 rfl rfl (by simp) (by simp) (by omega)) | (simp <;> omega)); conv => whnf) | ((with_reducible apply GET.at); (rfl); conv => whnf) | ((with_reducible apply GETG.at); (rfl); conv => whnf) | ((with_reducible refine IF.mk (fun h => ?_) (fun h => ?_)) <;> (try simp (disch := omega) only [hsB, hsC, lnB, wrap64, wrap32, Int.reduceBEq, Int.reduceBNe, Int.reduceEq, Int.reduceNe, Int.reduceLT, Int.reduceLE, Int.reduceGT, Int.reduceGE, Int.reduceAdd, Int.reduceSub, Int.reduceMul, Int.reduceNeg, reduceCtorEq] at h) <;> (try (exfalso; omega)) <;> conv => whnf))
        refine CALL.at [5] (r6joined_does l (by omega) 0 l.length (by omega)) rfl rfl rfl rfl (by first | rfl | (simp only [belowO, belowH, plainLL_below _ (plainStrs _), Bool.and_self, Bool.and_true] <;> rfl)) (by first | rfl | (simp only [belowO, belowH, plainLL_below _ (plainStrs _), Bool.and_self, Bool.and_true] <;> rfl)) (by repeat' (first | exact trivial | exact (renH_plain _ (h := .rows _ _) (plainStrs _)).symm | exact rfl | exact (renH_plain _ (h := .rows _ _) (plainStrs _)).trans (renH_plain _ (h := .rows _ _) (plainStrs _)).symm | ((conv => whnf); refine ⟨?_, ?_⟩))) (by repeat' (first | exact trivial | exact (renH_plain _ (h := .rows _ _) (plainStrs _)).symm | exact rfl | exact (renH_plain _ (h := .rows _ _) (plainStrs _)).trans (renH_plain _ (h := .rows _ _) (plainStrs _)).symm | ((conv => whnf); refine ⟨?_, ?_⟩))) rfl rfl ?_
        rintro r O' nx' ⟨z, hz, hzw, rfl, rfl, rfl⟩
        conv => whnf
        repeat' (first | ((with_reducible refine IF.tt ?_); conv => whnf) | ((with_reducible refine IF.ff ?_); conv => whnf) | (refine DRAWN.of (id := 8) tabOK mixed (planOf [(0, 1), (1, 1), (2, 1), (4, 1), (9, 1), (10, 1), (3, 2), (5, 1), (6, 2), (7, 1), (11, 2), (8, 3), (12, 3), (13, 1)]) (by kernel_rfl) ?_; conv => whnf) | (refine DRAWN.of (id := 10) tabOK mixed (planOf [(0, 1), (1, 1), (2, 1), (3, 1), (5, 1), (4, 2), (6, 3), (7, 3), (8, 0), (9, 1), (10, 1), (11, 0)]) (by kernel_rfl) ?_; conv => whnf) | ((with_reducible refine ADD.mk (fun _ _ => ?_)); conv => whnf) | ((with_reducible refine NEED.mk (Det.of rfl) ?_); conv => whnf) | ((with_reducible refine FORK.mk ?_ ?_) <;> conv => whnf) | ((with_reducible refine NEED.mk ?_ ?_); (first | with_reducible rfl | omega | (simp (disch := omega) only [lnB, wrap64, wrap32] <;> omega) | (intro h; (try simp (disch := omega) only [hsB, hsC, lnB, wrap64, wrap32, Int.reduceBEq, Int.reduceBNe, Int.reduceEq, Int.reduceNe, Int.reduceLT, Int.reduceLE, Int.reduceGT, Int.reduceGE, Int.reduceAdd, Int.reduceSub, Int.reduceMul, Int.reduceNeg, reduceCtorEq] at h); (first | omega | (simp (disch := omega) only [lnB, wrap64, wrap32] <;> omega))) | (exact needApp 256 rfl rfl (by simp) (by simp) (by omega)) | (simp <;> omega)); conv => whnf) | ((with_reducible apply GET.at); (rfl); conv => whnf) | ((with_reducible apply GETG.at); (rfl); conv => whnf) | ((with_reducible refine IF.mk (fun h => ?_) (fun h => ?_)) <;> (try simp (disch := omega) only [hsB, hsC, lnB, wrap64, wrap32, Int.reduceBEq, Int.reduceBNe, Int.reduceEq, Int.reduceNe, Int.reduceLT, Int.reduceLE, Int.reduceGT, Int.reduceGE, Int.reduceAdd, Int.reduceSub, Int.reduceMul, Int.reduceNeg, reduceCtorEq] at h) <;> (try (exfalso; omega)) <;> conv => whnf))
        obtain ⟨t, rfl⟩ := hzw w hl0
        have e : (xs ++ [w ++ t]).length = xs.length + 1 := by simp
        have ec : decide ((1 : Int) < (l.length : Int)) = decide (c ≠ 0) := decide_eq_decide.2 (by omega)
        rw [ec]
        refine FIN.at h0 [7] (.bool (decide (c ≠ 0))) [(0, rd6 (a + 1 + c) (m - c)), (2, tg6 L E S R 3 v 5 (xs.length + 1) P), (5, .rows 1 ((xs ++ [w ++ t]).map strRow))] rfl rfl rfl (by first | rfl | (simp only [belowO, belowH, plainLL_below _ (plainStrs _), Bool.and_self, Bool.and_true] <;> rfl)) (by repeat' (first | exact trivial | exact (renH_plain _ (h := .rows _ _) (plainStrs _)).symm | (with_reducible rfl) | (exact rows_eq (plainStrs _) (by simp [strRow, ofVal, List.take_of_length_le])) | exact rfl | ((conv => whnf); refine ⟨?_, ?_⟩))) rfl ?_
        exact ⟨c, xs ++ [w ++ t], hn.symm, by rw [hdup]; rfl, fun _ => ⟨_, rfl, by rw [List.take_append_of_le_length (by omega), List.take_of_length_le (by omega)], by omega⟩, by rw [e], rfl⟩
  · repeat' (first | ((with_reducible refine IF.tt ?_); conv => whnf) | ((with_reducible refine IF.ff ?_); conv => whnf) | ((with_reducible refine NEED.mk ?_ ?_); (first | with_reducible rfl | omega | (simp (disch := omega) only [lnB, wrap64, wrap32] <;> omega) | (intro h; (try simp (disch := omega) only [hsB, hsC, lnB, wrap64, wrap32, Int.reduceBEq, Int.reduceBNe, Int.reduceEq, Int.reduceNe, Int.reduceLT, Int.reduceLE, Int.reduceGT, Int.reduceGE, Int.reduceAdd, Int.reduceSub, Int.reduceMul, Int.reduceNeg, reduceCtorEq] at h); (first | omega | (simp (disch := omega) only [lnB, wrap64, wrap32] <;> omega))) | (exact needApp 256 rfl rfl (by simp) (by simp) (by omega)) | (simp <;> omega)); conv => whnf) | ((with_reducible apply GET.at); (rfl); conv => whnf) | ((with_reducible apply GETG.at); (rfl); conv => whnf) | ((with_reducible refine IF.mk (fun h => ?_) (fun h => ?_)) <;> (try simp (disch := omega) only [hsB, hsC, lnB, wrap64, wrap32, Int.reduceBEq, Int.reduceBNe, Int.reduceEq, Int.reduceNe, Int.reduceLT, Int.reduceLE, Int.reduceGT, Int.reduceGE, Int.reduceAdd, Int.reduceSub, Int.reduceMul, Int.reduceNeg, reduceCtorEq] at h) <;> (try (exfalso; omega)) <;> conv => whnf))
    have hn : spanM (partOK 2) (ps.drop (a + 1)) = c := by
      rw [hx, List.drop_eq_nil_of_le (by omega)]; rfl
    refine LOOP.go tabOK [1, 5] (X := Nat) (fun i => i ≤ xs.length ∧ dupM xs w = dupM (xs.drop i) w) (fun i => [(7, .int .i64 (i : Int))]) (fun i => [(0, rd6 (a + 1 + c) (m - c)), (2, tg6 L E S R 3 v 4 xs.length P), (4, .rows 1 (xs.map strRow)), (5, .rows 1 (l.map strRow))]) 6 (fun i => xs.length - i) 0 ⟨by omega, rfl⟩ ?_
    conv => whnf
    refine ⟨by (refine GOES.keeping h0 [5] rfl rfl rfl (by first | rfl | (simp only [belowO, belowH, plainLL_below _ (plainStrs _), Bool.and_self, Bool.and_true] <;> rfl)) ?_ ?_ <;> (repeat' (first | (with_reducible rfl) | (exact rows_eq (plainStrs _) (renLL_plain _ (plainStrs _))) | (exact rows_eq (plainStrs _) (by simp [strRow, ofVal, List.take_of_length_le])) | (exact sl_eq rfl (by simp)) | (exact congrArg (SV.int _) (by first | omega | (simp (disch := omega) only [lnB, wrap64, wrap32] <;> omega) | (simp; done) | (simp <;> omega))) | ((conv => whnf); refine ⟨?_, ?_⟩) | exact trivial | (simp only [ren, renB]; done) | rfl))), ?_⟩
    rintro i ⟨hi, hd⟩
    dsimp only at hi hd ⊢
    conv => whnf
    rcases Nat.lt_or_ge i xs.length with him | him
    · obtain ⟨hx1, hx2⟩ := hxs _ (List.getElem_mem him)
      have hsub : Sm (xs[i].take (1 : Int).toNat) := by simp; omega
      repeat' (first | ((with_reducible refine IF.tt ?_); conv => whnf) | ((with_reducible refine IF.ff ?_); conv => whnf) | (refine DRAWN.of (id := 8) tabOK mixed (planOf [(0, 1), (1, 1), (2, 1), (4, 1), (9, 1), (10, 1), (3, 2), (5, 1), (6, 2), (7, 1), (11, 2), (8, 3), (12, 3), (13, 1)]) (by kernel_rfl) ?_; conv => whnf) | (refine DRAWN.of (id := 10) tabOK mixed (planOf [(0, 1), (1, 1), (2, 1), (3, 1), (5, 1), (4, 2), (6, 3), (7, 3), (8, 0), (9, 1), (10, 1), (11, 0)]) (by kernel_rfl) ?_; conv => whnf) | ((with_reducible refine ADD.mk (fun _ _ => ?_)); conv => whnf) | ((with_reducible refine NEED.mk (Det.of rfl) ?_); conv => whnf) | ((with_reducible refine FORK.mk ?_ ?_) <;> conv => whnf) | (refine GET.at (row := strRow (xs[i]'(by omega))) (by rw [List.getElem?_map, show 0 + (i : Int).toNat = i by simp, List.getElem?_eq_getElem (by omega)]; rfl) ?_; conv => whnf) | (refine GET.at (row := strRow w) (by rw [List.getElem?_map, show 0 + (0 : Int).toNat = 0 by simp, hl0]; rfl) ?_; conv => whnf) | (refine CALL.value (r6lower_does _ hsub) rfl rfl ?_; conv => whnf) | (refine CALL.value (r6lower_does _ hwl) rfl rfl ?_; conv => whnf) | ((with_reducible refine NEED.mk ?_ ?_); (first | with_reducible rfl | omega | (simp (disch := omega) only [lnB, wrap64, wrap32] <;> omega) | (intro h; (try simp (disch := omega) only [hsB, hsC, lnB, wrap64, wrap32, Int.reduceBEq, Int.reduceBNe, Int.reduceEq, Int.reduceNe, Int.reduceLT, Int.reduceLE, Int.reduceGT, Int.reduceGE, Int.reduceAdd, Int.reduceSub, Int.reduceMul, Int.reduceNeg, reduceCtorEq] at h); (first | omega | (simp (disch := omega) only [lnB, wrap64, wrap32] <;> omega))) | (exact needApp 256 rfl rfl (by simp) (by simp) (by omega)) | (simp <;> omega)); conv => whnf) | ((with_reducible apply GET.at); (rfl); conv => whnf) | ((with_reducible apply GETG.at); (rfl); conv => whnf) | ((with_reducible refine IF.mk (fun h => ?_) (fun h => ?_)) <;> (try simp (disch := omega) only [hsB, hsC, lnB, wrap64, wrap32, Int.reduceBEq, Int.reduceBNe, Int.reduceEq, Int.reduceNe, Int.reduceLT, Int.reduceLE, Int.reduceGT, Int.reduceGE, Int.reduceAdd, Int.reduceSub, Int.reduceMul, Int.reduceNeg, reduceCtorEq] at h) <;> (try (exfalso; omega)) <;> conv => whnf))
      · have hdup : dupM xs w = true := by rw [hd, dup_at him]; simp at h; simp [h]
        refine FIN.at h0 [4] (.bool false) [(0, rd6 (a + 1 + c) (m - c)), (2, tg6 L E S R 3 v 5 xs.length P), (5, .rows 1 (xs.map strRow))] rfl rfl rfl (by first | rfl | (simp only [belowO, belowH, plainLL_below _ (plainStrs _), Bool.and_self, Bool.and_true] <;> rfl)) (by repeat' (first | exact trivial | exact (renH_plain _ (h := .rows _ _) (plainStrs _)).symm | (with_reducible rfl) | (exact rows_eq (plainStrs _) (by simp [strRow, ofVal, List.take_of_length_le])) | exact rfl | ((conv => whnf); refine ⟨?_, ?_⟩))) rfl ?_
        exact ⟨c, xs, hn.symm, by rw [hdup]; rfl, by simp [hdup], rfl, rfl⟩
      · refine ⟨i + 1, ⟨by omega, ?_⟩, by omega, ?_⟩
        · rw [hd, dup_at him]
          have : (lowerM (xs[i].take 1) == lowerM w) = false := by simpa using h
          rw [this, Bool.false_or]
        · conv => whnf
          (refine GOES.keeping h0 [5] rfl rfl rfl (by first | rfl | (simp only [belowO, belowH, plainLL_below _ (plainStrs _), Bool.and_self, Bool.and_true] <;> rfl)) ?_ ?_ <;> (repeat' (first | (with_reducible rfl) | (exact rows_eq (plainStrs _) (renLL_plain _ (plainStrs _))) | (exact rows_eq (plainStrs _) (by simp [strRow, ofVal, List.take_of_length_le])) | (exact sl_eq rfl (by simp)) | (exact congrArg (SV.int _) (by first | omega | (simp (disch := omega) only [lnB, wrap64, wrap32] <;> omega) | (simp; done) | (simp <;> omega))) | ((conv => whnf); refine ⟨?_, ?_⟩) | exact trivial | (simp only [ren, renB]; done) | rfl)))
    · have hdup : dupM xs w = false := by rw [hd, List.drop_eq_nil_of_le (by omega)]; rfl
      repeat' (first | ((with_reducible refine IF.tt ?_); conv => whnf) | ((with_reducible refine IF.ff ?_); conv => whnf) | (refine DRAWN.of (id := 8) tabOK mixed (planOf [(0, 1), (1, 1), (2, 1), (4, 1), (9, 1), (10, 1), (3, 2), (5, 1), (6, 2), (7, 1), (11, 2), (8, 3), (12, 3), (13, 1)]) (by kernel_rfl) ?_; conv => whnf) | (refine DRAWN.of (id := 10) tabOK mixed (planOf [(0, 1), (1, 1), (2, 1), (3, 1), (5, 1), (4, 2), (6, 3), (7, 3), (8, 0), (9, 1), (10, 1), (11, 0)]) (by kernel_rfl) ?_; conv => whnf) | ((with_reducible refine ADD.mk (fun _ _ => ?_)); conv => whnf) | ((with_reducible refine NEED.mk (Det.of rfl) ?_); conv => whnf) | ((with_reducible refine FORK.mk ?_ ?_) <;> conv => whnf) | ((with_reducible refine NEED.mk ?_ ?_); (first | with_reducible rfl | omega | (simp (disch := omega) only [lnB, wrap64, wrap32] <;> omega) | (intro h; (try simp (disch := omega) only [hsB, hsC, lnB, wrap64, wrap32, Int.reduceBEq, Int.reduceBNe, Int.reduceEq, Int.reduceNe, Int.reduceLT, Int.reduceLE, Int.reduceGT, Int.reduceGE, Int.reduceAdd, Int.reduceSub, Int.reduceMul, Int.reduceNeg, reduceCtorEq] at h); (first | omega | (simp (disch := omega) only [lnB, wrap64, wrap32] <;> omega))) | (exact needApp 256 rfl rfl (by simp) (by simp) (by omega)) | (simp <;> omega)); conv => whnf) | ((with_reducible apply GET.at); (rfl); conv => whnf) | ((with_reducible apply GETG.at); (rfl); conv => whnf) | ((with_reducible refine IF.mk (fun h => ?_) (fun h => ?_)) <;> (try simp (disch := omega) only [hsB, hsC, lnB, wrap64, wrap32, Int.reduceBEq, Int.reduceBNe, Int.reduceEq, Int.reduceNe, Int.reduceLT, Int.reduceLE, Int.reduceGT, Int.reduceGE, Int.reduceAdd, Int.reduceSub, Int.reduceMul, Int.reduceNeg, reduceCtorEq] at h) <;> (try (exfalso; omega)) <;> conv => whnf))
      refine CALL.at [5] (r6joined_does l (by omega) 0 l.length (by omega)) rfl rfl rfl rfl (by first | rfl | (simp only [belowO, belowH, plainLL_below _ (plainStrs _), Bool.and_self, Bool.and_true] <;> rfl)) (by first | rfl | (simp only [belowO, belowH, plainLL_below _ (plainStrs _), Bool.and_self, Bool.and_true] <;> rfl)) (by repeat' (first | exact trivial | exact (renH_plain _ (h := .rows _ _) (plainStrs _)).symm | exact rfl | exact (renH_plain _ (h := .rows _ _) (plainStrs _)).trans (renH_plain _ (h := .rows _ _) (plainStrs _)).symm | ((conv => whnf); refine ⟨?_, ?_⟩))) (by repeat' (first | exact trivial | exact (renH_plain _ (h := .rows _ _) (plainStrs _)).symm | exact rfl | exact (renH_plain _ (h := .rows _ _) (plainStrs _)).trans (renH_plain _ (h := .rows _ _) (plainStrs _)).symm | ((conv => whnf); refine ⟨?_, ?_⟩))) rfl rfl ?_
      rintro r O' nx' ⟨z, hz, hzw, rfl, rfl, rfl⟩
      conv => whnf
      repeat' (first | ((with_reducible refine IF.tt ?_); conv => whnf) | ((with_reducible refine IF.ff ?_); conv => whnf) | (refine DRAWN.of (id := 8) tabOK mixed (planOf [(0, 1), (1, 1), (2, 1), (4, 1), (9, 1), (10, 1), (3, 2), (5, 1), (6, 2), (7, 1), (11, 2), (8, 3), (12, 3), (13, 1)]) (by kernel_rfl) ?_; conv => whnf) | (refine DRAWN.of (id := 10) tabOK mixed (planOf [(0, 1), (1, 1), (2, 1), (3, 1), (5, 1), (4, 2), (6, 3), (7, 3), (8, 0), (9, 1), (10, 1), (11, 0)]) (by kernel_rfl) ?_; conv => whnf) | ((with_reducible refine ADD.mk (fun _ _ => ?_)); conv => whnf) | ((with_reducible refine NEED.mk (Det.of rfl) ?_); conv => whnf) | ((with_reducible refine FORK.mk ?_ ?_) <;> conv => whnf) | ((with_reducible refine NEED.mk ?_ ?_); (first | with_reducible rfl | omega | (simp (disch := omega) only [lnB, wrap64, wrap32] <;> omega) | (intro h; (try simp (disch := omega) only [hsB, hsC, lnB, wrap64, wrap32, Int.reduceBEq, Int.reduceBNe, Int.reduceEq, Int.reduceNe, Int.reduceLT, Int.reduceLE, Int.reduceGT, Int.reduceGE, Int.reduceAdd, Int.reduceSub, Int.reduceMul, Int.reduceNeg, reduceCtorEq] at h); (first | omega | (simp (disch := omega) only [lnB, wrap64, wrap32] <;> omega))) | (exact needApp 256 rfl rfl (by simp) (by simp) (by omega)) | (simp <;> omega)); conv => whnf) | ((with_reducible apply GET.at); (rfl); conv => whnf) | ((with_reducible apply GETG.at); (rfl); conv => whnf) | ((with_reducible refine IF.mk (fun h => ?_) (fun h => ?_)) <;> (try simp (disch := omega) only [hsB, hsC, lnB, wrap64, wrap32, Int.reduceBEq, Int.reduceBNe, Int.reduceEq, Int.reduceNe, Int.reduceLT, Int.reduceLE, Int.reduceGT, Int.reduceGE, Int.reduceAdd, Int.reduceSub, Int.reduceMul, Int.reduceNeg, reduceCtorEq] at h) <;> (try (exfalso; omega)) <;> conv => whnf))
      obtain ⟨t, rfl⟩ := hzw w hl0
      have e : (xs ++ [w ++ t]).length = xs.length + 1 := by simp
      have ec : decide ((1 : Int) < (l.length : Int)) = decide (c ≠ 0) := decide_eq_decide.2 (by omega)
      rw [ec]
      refine FIN.at h0 [7] (.bool (decide (c ≠ 0))) [(0, rd6 (a + 1 + c) (m - c)), (2, tg6 L E S R 3 v 5 (xs.length + 1) P), (5, .rows 1 ((xs ++ [w ++ t]).map strRow))] rfl rfl rfl (by first | rfl | (simp only [belowO, belowH, plainLL_below _ (plainStrs _), Bool.and_self, Bool.and_true] <;> rfl)) (by repeat' (first | exact trivial | exact (renH_plain _ (h := .rows _ _) (plainStrs _)).symm | (with_reducible rfl) | (exact rows_eq (plainStrs _) (by simp [strRow, ofVal, List.take_of_length_le])) | exact rfl | ((conv => whnf); refine ⟨?_, ?_⟩))) rfl ?_
      exact ⟨c, xs ++ [w ++ t], hn.symm, by rw [hdup]; rfl, fun _ => ⟨_, rfl, by rw [List.take_append_of_le_length (by omega), List.take_of_length_le (by omega)], by omega⟩, by rw [e], rfl⟩
theorem private6_does (ps : List (List UInt8)) (hb : bulkM ps + ps.length ≤ 34359738368) (a m : Nat) (ham : a + m = ps.length) (ha : a < ps.length)
    (L E S R : List UInt8) (v x : Nat) (P : List UInt8) :
    Does Tryz.prog tab 59 5 [.ptr (.loc 0) 0 0 0, .ptr (.loc 2) 0 0 0] [(2, tg6 L E S R 3 v 4 x P)] [(0, rd6 a m), (1, .rows 1 (ps.map strRow))]
      (fun r O nx => ∃ P', r = .bool (decide (spanM (partOK 1) (ps.drop (a + 1)) ≠ 0 ∧ spanM (partOK 1) (ps.drop (a + 1)) = (ps.drop (a + 1)).length)) ∧ O = [(2, tg6 L E S R 3 v 4 x P')] ∧ nx = 5) := by
  have hsm := bulk_sm (ps := ps) (by omega)
  have hspan := span_le (partOK 1) (ps.drop (a + 1))
  rw [List.length_drop] at hspan ⊢
  refine Does.enter tabOK (g := 59) (fn := Tryz.f59) Tryz.call59 Tryz.func59 rfl 40 rfl rfl [.tmp 4] rfl ?_
  intro w0 F η0 h0
  conv => whnf
  refine CALL.at [1] (r6joined_does ps (by omega) a m ham) rfl rfl rfl rfl (by first | rfl | (simp only [belowO, belowH, plainLL_below _ (plainStrs _), Bool.and_self, Bool.and_true] <;> rfl)) (by first | rfl | (simp only [belowO, belowH, plainLL_below _ (plainStrs _), Bool.and_self, Bool.and_true] <;> rfl)) (by repeat' (first | exact trivial | exact (renH_plain _ (h := .rows _ _) (plainStrs _)).symm | exact rfl | exact (renH_plain _ (h := .rows _ _) (plainStrs _)).trans (renH_plain _ (h := .rows _ _) (plainStrs _)).symm | ((conv => whnf); refine ⟨?_, ?_⟩))) (by repeat' (first | exact trivial | exact (renH_plain _ (h := .rows _ _) (plainStrs _)).symm | exact rfl | exact (renH_plain _ (h := .rows _ _) (plainStrs _)).trans (renH_plain _ (h := .rows _ _) (plainStrs _)).symm | ((conv => whnf); refine ⟨?_, ?_⟩))) rfl rfl ?_
  rintro r O' nx' ⟨z, hz, _, rfl, rfl, rfl⟩
  conv => whnf
  refine IF.mk (fun h => ?_) (fun h => ?_)
  · have h : m < 2 := by simp at h; omega
    conv => whnf
    exact FIN.here h0 (rc := .bool _) (Oc := [(2, tg6 L E S R 3 v 4 x z)]) rfl rfl rfl ⟨rfl, trivial⟩ ⟨z, congrArg SV.bool (decide_eq_false (by omega)).symm, rfl, rfl⟩
  have h : 2 ≤ m := by simp at h; omega
  conv => whnf
  refine LOOP.go tabOK [0] (X := Nat) (fun i => 1 ≤ i ∧ i ≤ m ∧ spanM (partOK 1) (ps.drop (a + 1)) = (i - 1) + spanM (partOK 1) (ps.drop (a + i))) (fun i => [(5, .int .i64 (i : Int))]) (fun i => [(2, tg6 L E S R 3 v 4 x z)]) 5 (fun i => m - i) 1 ⟨by omega, by omega, by simp⟩ ?_
  conv => whnf
  refine ⟨by (refine GOES.cutting h0 rfl rfl rfl (by first | rfl | simp [belowO, belowH, plainLL_below, plainLL_map, plainL, plain]) ?_ ?_ <;> (repeat' (first | (with_reducible rfl) | (exact congrArg (fun n => SV.sl _ _ _ n _) (by simp)) | (exact congrArg (Hp.rows _) (by simp)) | (exact congrArg (SV.int _) (by first | omega | (simp (disch := omega) only [lnB, wrap64, wrap32] <;> omega) | (simp; done) | (simp <;> omega))) | ((conv => whnf); refine ⟨?_, ?_⟩) | exact trivial | (simp; done) | rfl))), ?_⟩
  rintro i ⟨hi1, hi, hx⟩
  dsimp only at hi1 hi hx ⊢
  conv => whnf
  rcases Nat.lt_or_ge i m with him | him
  · have hlt : a + i < ps.length := by omega
    have hs := hsm _ (List.getElem_mem hlt)
    rw [List.drop_eq_getElem_cons hlt] at hx
    simp only [spanM] at hx
    repeat' (first | ((with_reducible refine IF.tt ?_); conv => whnf) | ((with_reducible refine IF.ff ?_); conv => whnf) | (refine GET.at (row := strRow (ps[a + i]'(by omega))) (by rw [List.getElem?_map, show a + (i : Int).toNat = a + i by simp, List.getElem?_eq_getElem (by omega)]; rfl) ?_; conv => whnf) | (refine CALL.value (r6both_does _ _ _ hs) rfl rfl ?_; conv => whnf) | ((with_reducible refine NEED.mk ?_ ?_); (first | with_reducible rfl | omega | (simp (disch := omega) only [lnB, wrap64, wrap32] <;> omega) | (intro h; (try simp (disch := omega) only [hsB, hsC, lnB, wrap64, wrap32, Int.reduceBEq, Int.reduceBNe, Int.reduceEq, Int.reduceNe, Int.reduceLT, Int.reduceLE, Int.reduceGT, Int.reduceGE, Int.reduceAdd, Int.reduceSub, Int.reduceMul, Int.reduceNeg, reduceCtorEq] at h); (first | omega | (simp (disch := omega) only [lnB, wrap64, wrap32] <;> omega))) | (exact needApp 256 rfl rfl (by simp) (by simp) (by omega)) | (simp <;> omega)); conv => whnf) | ((with_reducible apply GET.at); (rfl); conv => whnf) | ((with_reducible apply GETG.at); (rfl); conv => whnf) | ((with_reducible refine IF.mk (fun h => ?_) (fun h => ?_)) <;> (try simp (disch := omega) only [hsB, hsC, lnB, wrap64, wrap32, Int.reduceBEq, Int.reduceBNe, Int.reduceEq, Int.reduceNe, Int.reduceLT, Int.reduceLE, Int.reduceGT, Int.reduceGE, Int.reduceAdd, Int.reduceSub, Int.reduceMul, Int.reduceNeg, reduceCtorEq] at h) <;> (try (exfalso; omega)) <;> conv => whnf))
    · rw [if_neg (by simp [partOK, h])] at hx
      exact FIN.here h0 (rc := .bool _) (Oc := [(2, tg6 L E S R 3 v 4 x z)]) rfl rfl rfl ⟨rfl, trivial⟩ ⟨z, congrArg SV.bool (decide_eq_false (by omega)).symm, rfl, rfl⟩
    · rw [if_pos (by simp [partOK, h])] at hx
      refine ⟨i + 1, ⟨by omega, by omega, by rw [hx, show a + (i + 1) = a + i + 1 by omega]; omega⟩, by omega, ?_⟩
      conv => whnf
      (refine GOES.cutting h0 rfl rfl rfl (by first | rfl | simp [belowO, belowH, plainLL_below, plainLL_map, plainL, plain]) ?_ ?_ <;> (repeat' (first | (with_reducible rfl) | (exact congrArg (fun n => SV.sl _ _ _ n _) (by simp)) | (exact congrArg (Hp.rows _) (by simp)) | (exact congrArg (SV.int _) (by first | omega | (simp (disch := omega) only [lnB, wrap64, wrap32] <;> omega) | (simp; done) | (simp <;> omega))) | ((conv => whnf); refine ⟨?_, ?_⟩) | exact trivial | (simp; done) | rfl)))
  · rw [show ps.drop (a + i) = [] from List.drop_eq_nil_of_le (by omega)] at hx
    simp only [spanM] at hx
    repeat' (first | ((with_reducible refine IF.tt ?_); conv => whnf) | ((with_reducible refine IF.ff ?_); conv => whnf) | ((with_reducible refine NEED.mk ?_ ?_); (first | with_reducible rfl | omega | (simp (disch := omega) only [lnB, wrap64, wrap32] <;> omega) | (intro h; (try simp (disch := omega) only [hsB, hsC, lnB, wrap64, wrap32, Int.reduceBEq, Int.reduceBNe, Int.reduceEq, Int.reduceNe, Int.reduceLT, Int.reduceLE, Int.reduceGT, Int.reduceGE, Int.reduceAdd, Int.reduceSub, Int.reduceMul, Int.reduceNeg, reduceCtorEq] at h); (first | omega | (simp (disch := omega) only [lnB, wrap64, wrap32] <;> omega))) | (exact needApp 256 rfl rfl (by simp) (by simp) (by omega)) | (simp <;> omega)); conv => whnf) | ((with_reducible apply GET.at); (rfl); conv => whnf) | ((with_reducible apply GETG.at); (rfl); conv => whnf) | ((with_reducible refine IF.mk (fun h => ?_) (fun h => ?_)) <;> (try simp (disch := omega) only [hsB, hsC, lnB, wrap64, wrap32, Int.reduceBEq, Int.reduceBNe, Int.reduceEq, Int.reduceNe, Int.reduceLT, Int.reduceLE, Int.reduceGT, Int.reduceGE, Int.reduceAdd, Int.reduceSub, Int.reduceMul, Int.reduceNeg, reduceCtorEq] at h) <;> (try (exfalso; omega)) <;> conv => whnf))
    exact FIN.here h0 (rc := .bool _) (Oc := [(2, tg6 L E S R 3 v 4 x z)]) rfl rfl rfl ⟨rfl, trivial⟩ ⟨z, congrArg SV.bool (decide_eq_true (by omega)).symm, rfl, rfl⟩
end Go.Proofs.YtamnapaephmpmaaGreatDoor
/- The reference's tags, walked: whether it is one. Conditions: none. -/
set_option linter.unusedVariables false
set_option linter.unusedSimpArgs false
set_option maxRecDepth 20000
namespace Go.Proofs.YtamnapaephmpmaaGreatDoor
open Go.Sx Go.Our
theorem low_x (s : List UInt8) : (lowerM s != [120]) = !privateM s := by rw [private_lower]; rfl
theorem low_x' (s : List UInt8) : (lowerM s == [120]) = privateM s := by rw [private_lower]
def rd6' (i m : Nat) : Hp := .box [.sl (.loc 2) i 1 m none]
def tz6 : Hp := .box [.str [], .str [], .str [], .str [], .val (.slice none 0 0), .val (.slice none 0 0), .str []]
def frT : Fr := [(2, .ptr (.loc 0) 0 0 0), (4, .ptr (.loc 1) 0 0 0), (5, .ptr (.loc 3) 0 0 0)]
def OT (ps : List (List UInt8)) (a : Nat) (L E S R : List UInt8) : Hps := [(0, tz6), (1, tg6 L E S R 4 0 5 0 []), (2, .rows 1 (ps.map strRow)), (3, rd6' a (ps.length - a)), (4, .rows 1 []), (5, .rows 1 [])]
def contP (l : List (List UInt8)) : Bool := match varsP [] l with
  | none => false
  | some (l, seen) => match extsP seen l with
    | none => false
    | some l => lastP l
theorem more44 : moreM 4 4 false = fun s => madeM s 4 4 true := funext (more_made 4 4)
theorem variant_len {s : List UInt8} (h : variantM s = true) : 4 ≤ s.length := by
  unfold variantM at h
  simp only [Bool.or_eq_true, Bool.and_eq_true] at h
  rcases h with h | h
  · have := made_len h; omega
  · have := made_len h.1; omega
set_option maxHeartbeats 8000000 in
theorem tag6_does (s : List UInt8) (hs : s.length ≤ 8589934592) : Does Tryz.prog tab 37 0 [.str s] [] [] (Val (.tup [.agg (anyN 7), .int .i64 (if tagP (splitM s) = true then 0 else 61)])) := by
  have hbulk := split_bulk s
  have hlen := split_len s
  have hne := split_ne s
  generalize hps : splitM s = ps at *
  have hb : bulkM ps + ps.length ≤ 34359738368 := by unfold bulkM; omega
  have hsm := bulk_sm (ps := ps) (by omega)
  obtain ⟨p0, hp0⟩ : ∃ p0, ps[0]? = some p0 := by
    cases ps with
    | nil => exact (hne rfl).elim
    | cons a t => exact ⟨a, rfl⟩
  have hp0l := hsm p0 (List.mem_of_getElem? hp0)
  have hhead : headIs privateM ps = privateM p0 := by
    cases ps with
    | nil => cases hp0
    | cons a t => have : a = p0 := by simpa using hp0
                  subst this; rfl
  refine Does.enter tabOK (g := 37) (fn := Tryz.f37) Tryz.call37 Tryz.func37 rfl 152 rfl rfl [.cell 2 54, .tmp 3] rfl ?_
  intro w0 F η0 h0
  conv => whnf
  apply loopOnce (X := Nat × List UInt8 × List UInt8 × List UInt8 × List UInt8) (n := 6) (fun x => tagP ps = contP (ps.drop x.1) ∧ x.1 ≤ ps.length) (fun _ => frT) (fun x => OT ps x.1 x.2.1 x.2.2.1 x.2.2.2.1 x.2.2.2.2)
  intro K
  refine CALL.newS (r6parts_does s (by omega)) rfl (plainStrs _) ?_
  rw [hps, List.length_map]
  have hpos : 0 < ps.length := (List.getElem?_eq_some_iff.1 hp0).1
  conv => whnf
  repeat' (first | ((with_reducible refine IF.tt ?_); conv => whnf) | ((with_reducible refine IF.ff ?_); conv => whnf) | (refine GET.at (row := strRow p0) (by rw [List.getElem?_map, show 0 + (0 : Int).toNat = 0 by simp, hp0]; rfl) ?_; conv => whnf) | ((with_reducible refine NEED.mk ?_ ?_); (first | with_reducible rfl | omega | (simp (disch := omega) only [lnB, wrap64, wrap32] <;> omega) | (intro h; (try simp (disch := omega) only [hsB, hsC, lnB, wrap64, wrap32, Int.reduceBEq, Int.reduceBNe, Int.reduceEq, Int.reduceNe, Int.reduceLT, Int.reduceLE, Int.reduceGT, Int.reduceGE, Int.reduceAdd, Int.reduceSub, Int.reduceMul, Int.reduceNeg, reduceCtorEq] at h); (first | omega | (simp (disch := omega) only [lnB, wrap64, wrap32] <;> omega))) | (exact needApp 256 rfl rfl (by simp) (by simp) (by omega)) | (simp <;> omega)); conv => whnf) | ((with_reducible apply GET.at); (rfl); conv => whnf) | ((with_reducible apply GETG.at); (rfl); conv => whnf) | ((with_reducible refine IF.mk (fun h => ?_) (fun h => ?_)) <;> (try simp (disch := omega) only [hsB, hsC, lnB, wrap64, wrap32, Int.reduceBEq, Int.reduceBNe, Int.reduceEq, Int.reduceNe, Int.reduceLT, Int.reduceLE, Int.reduceGT, Int.reduceGE, Int.reduceAdd, Int.reduceSub, Int.reduceMul, Int.reduceNeg, reduceCtorEq] at h) <;> (try (exfalso; omega)) <;> conv => whnf))
  refine CALL.nilCell 1 4 1 rfl rfl ?_
  refine CALL.nilCell 1 5 1 rfl rfl ?_
  refine CALL.value (r6lower_does _ hp0l) rfl rfl ?_
  conv => whnf
  refine IF.mk (fun h => ?_) (fun h => ?_)
  · rw [low_x] at h
    have hpr : headIs privateM ps = false := by rw [hhead]; simpa using h
    have hcont : ∀ l, langP (ps.drop 0) = some l → tagP ps = contP (skipIf regionM (skipIf (fun s => madeM s 4 4 true) l)) := by
      intro l hl
      have hl : langP ps = some l := hl
      unfold tagP contP
      rw [if_neg (by simp [hpr]), hl]
      simp only [restP]
      cases varsP [] (skipIf regionM (skipIf (fun s => madeM s 4 4 true) l)) with
      | none => rfl
      | some x => obtain ⟨l', seen⟩ := x; rfl
    conv => whnf
    refine CALL.at [3, 2, 1, 4, 5] (language6_does ps (by omega) 0 ps.length (by omega)) rfl rfl rfl rfl (by first | rfl | (simp only [belowO, belowH, plainLL_below _ (plainStrs _), Bool.and_self, Bool.and_true] <;> rfl)) (by first | rfl | (simp only [belowO, belowH, plainLL_below _ (plainStrs _), Bool.and_self, Bool.and_true] <;> rfl)) (by repeat' (first | exact trivial | exact (renH_plain _ (h := .rows _ _) (plainStrs _)).symm | exact rfl | exact (renH_plain _ (h := .rows _ _) (plainStrs _)).trans (renH_plain _ (h := .rows _ _) (plainStrs _)).symm | ((conv => whnf); refine ⟨?_, ?_⟩))) (by repeat' (first | exact trivial | exact (renH_plain _ (h := .rows _ _) (plainStrs _)).symm | exact rfl | exact (renH_plain _ (h := .rows _ _) (plainStrs _)).trans (renH_plain _ (h := .rows _ _) (plainStrs _)).symm | ((conv => whnf); refine ⟨?_, ?_⟩))) rfl rfl ?_
    rintro r O' nx' ⟨i1, m1, L, E, him1, rfl, hL, rfl, rfl⟩
    cases h2 : langP (ps.drop 0) with
    | none =>
      have htag : tagP ps = false := by
        have h2 : langP ps = none := h2
        unfold tagP; rw [if_neg (by simp [hpr]), h2]
      rw [Option.isSome_none]
      conv => whnf
      repeat' (first | ((with_reducible refine IF.tt ?_); conv => whnf) | ((with_reducible refine IF.ff ?_); conv => whnf) | ((with_reducible refine NEED.mk ?_ ?_); (first | with_reducible rfl | omega | (simp (disch := omega) only [lnB, wrap64, wrap32] <;> omega) | (intro h; (try simp (disch := omega) only [hsB, hsC, lnB, wrap64, wrap32, Int.reduceBEq, Int.reduceBNe, Int.reduceEq, Int.reduceNe, Int.reduceLT, Int.reduceLE, Int.reduceGT, Int.reduceGE, Int.reduceAdd, Int.reduceSub, Int.reduceMul, Int.reduceNeg, reduceCtorEq] at h); (first | omega | (simp (disch := omega) only [lnB, wrap64, wrap32] <;> omega))) | (exact needApp 256 rfl rfl (by simp) (by simp) (by omega)) | (simp <;> omega)); conv => whnf) | ((with_reducible apply GET.at); (rfl); conv => whnf) | ((with_reducible apply GETG.at); (rfl); conv => whnf) | ((with_reducible refine IF.mk (fun h => ?_) (fun h => ?_)) <;> (try simp (disch := omega) only [hsB, hsC, lnB, wrap64, wrap32, Int.reduceBEq, Int.reduceBNe, Int.reduceEq, Int.reduceNe, Int.reduceLT, Int.reduceLE, Int.reduceGT, Int.reduceGE, Int.reduceAdd, Int.reduceSub, Int.reduceMul, Int.reduceNeg, reduceCtorEq] at h) <;> (try (exfalso; omega)) <;> conv => whnf))
      refine FIN.anyA 7 h0 rfl rfl rfl ⟨?_, rfl, rfl⟩
      rw [htag]; rfl
    | some l1 =>
      obtain ⟨hl1, hLne⟩ := hL l1 h2
      subst hl1
      have hc1 := hcont _ h2
      rw [Option.isSome_some]
      conv => whnf
      repeat' (first | ((with_reducible refine IF.tt ?_); conv => whnf) | ((with_reducible refine IF.ff ?_); conv => whnf) | (refine IF.yes (b := L != []) (by simpa using hLne) ?_; conv => whnf) | ((with_reducible refine NEED.mk ?_ ?_); (first | with_reducible rfl | omega | (simp (disch := omega) only [lnB, wrap64, wrap32] <;> omega) | (intro h; (try simp (disch := omega) only [hsB, hsC, lnB, wrap64, wrap32, Int.reduceBEq, Int.reduceBNe, Int.reduceEq, Int.reduceNe, Int.reduceLT, Int.reduceLE, Int.reduceGT, Int.reduceGE, Int.reduceAdd, Int.reduceSub, Int.reduceMul, Int.reduceNeg, reduceCtorEq] at h); (first | omega | (simp (disch := omega) only [lnB, wrap64, wrap32] <;> omega))) | (exact needApp 256 rfl rfl (by simp) (by simp) (by omega)) | (simp <;> omega)); conv => whnf) | ((with_reducible apply GET.at); (rfl); conv => whnf) | ((with_reducible apply GETG.at); (rfl); conv => whnf) | ((with_reducible refine IF.mk (fun h => ?_) (fun h => ?_)) <;> (try simp (disch := omega) only [hsB, hsC, lnB, wrap64, wrap32, Int.reduceBEq, Int.reduceBNe, Int.reduceEq, Int.reduceNe, Int.reduceLT, Int.reduceLE, Int.reduceGT, Int.reduceGE, Int.reduceAdd, Int.reduceSub, Int.reduceMul, Int.reduceNeg, reduceCtorEq] at h) <;> (try (exfalso; omega)) <;> conv => whnf))
      refine CALL.at [3, 2] (more_does 4 4 false ps hsm i1 m1 him1) rfl rfl rfl rfl (by first | rfl | (simp only [belowO, belowH, plainLL_below _ (plainStrs _), Bool.and_self, Bool.and_true] <;> rfl)) (by first | rfl | (simp only [belowO, belowH, plainLL_below _ (plainStrs _), Bool.and_self, Bool.and_true] <;> rfl)) (by repeat' (first | exact trivial | exact (renH_plain _ (h := .rows _ _) (plainStrs _)).symm | exact rfl | exact (renH_plain _ (h := .rows _ _) (plainStrs _)).trans (renH_plain _ (h := .rows _ _) (plainStrs _)).symm | ((conv => whnf); refine ⟨?_, ?_⟩))) (by repeat' (first | exact trivial | exact (renH_plain _ (h := .rows _ _) (plainStrs _)).symm | exact rfl | exact (renH_plain _ (h := .rows _ _) (plainStrs _)).trans (renH_plain _ (h := .rows _ _) (plainStrs _)).symm | ((conv => whnf); refine ⟨?_, ?_⟩))) rfl rfl ?_
      rintro r O' nx' ⟨rfl, rfl, rfl⟩
      rw [more44]
      conv => whnf
      (repeat (first | ((with_reducible refine IF.tt ?_); conv => whnf) | ((with_reducible refine IF.ff ?_); conv => whnf)))
      refine IF.mk (fun h4 => ?_) (fun h4 => ?_)
      · obtain ⟨w1, hw1, hwm1⟩ := sees_yes h4
        have hlt1 := (List.getElem?_eq_some_iff.1 hw1).1
        obtain ⟨k1, rfl⟩ : ∃ k1, m1 = k1 + 1 := ⟨m1 - 1, by omega⟩
        rw [skip_yes hw1 hwm1] at hc1
        conv => whnf
        refine CALL.at [3, 2] (next6_does ps i1 k1 him1 w1 hw1) rfl rfl rfl rfl (by first | rfl | (simp only [belowO, belowH, plainLL_below _ (plainStrs _), Bool.and_self, Bool.and_true] <;> rfl)) (by first | rfl | (simp only [belowO, belowH, plainLL_below _ (plainStrs _), Bool.and_self, Bool.and_true] <;> rfl)) (by repeat' (first | exact trivial | exact (renH_plain _ (h := .rows _ _) (plainStrs _)).symm | exact rfl | exact (renH_plain _ (h := .rows _ _) (plainStrs _)).trans (renH_plain _ (h := .rows _ _) (plainStrs _)).symm | ((conv => whnf); refine ⟨?_, ?_⟩))) (by repeat' (first | exact trivial | exact (renH_plain _ (h := .rows _ _) (plainStrs _)).symm | exact rfl | exact (renH_plain _ (h := .rows _ _) (plainStrs _)).trans (renH_plain _ (h := .rows _ _) (plainStrs _)).symm | ((conv => whnf); refine ⟨?_, ?_⟩))) rfl rfl ?_
        rintro r O' nx' ⟨rfl, rfl, rfl⟩
        conv => whnf
        repeat' (first | ((with_reducible refine IF.tt ?_); conv => whnf) | ((with_reducible refine IF.ff ?_); conv => whnf) | (refine IF.yes (b := L != []) (by simpa using hLne) ?_; conv => whnf) | ((with_reducible refine NEED.mk ?_ ?_); (first | with_reducible rfl | omega | (simp (disch := omega) only [lnB, wrap64, wrap32] <;> omega) | (intro h; (try simp (disch := omega) only [hsB, hsC, lnB, wrap64, wrap32, Int.reduceBEq, Int.reduceBNe, Int.reduceEq, Int.reduceNe, Int.reduceLT, Int.reduceLE, Int.reduceGT, Int.reduceGE, Int.reduceAdd, Int.reduceSub, Int.reduceMul, Int.reduceNeg, reduceCtorEq] at h); (first | omega | (simp (disch := omega) only [lnB, wrap64, wrap32] <;> omega))) | (exact needApp 256 rfl rfl (by simp) (by simp) (by omega)) | (simp <;> omega)); conv => whnf) | ((with_reducible apply GET.at); (rfl); conv => whnf) | ((with_reducible apply GETG.at); (rfl); conv => whnf) | ((with_reducible refine IF.mk (fun h => ?_) (fun h => ?_)) <;> (try simp (disch := omega) only [hsB, hsC, lnB, wrap64, wrap32, Int.reduceBEq, Int.reduceBNe, Int.reduceEq, Int.reduceNe, Int.reduceLT, Int.reduceLE, Int.reduceGT, Int.reduceGE, Int.reduceAdd, Int.reduceSub, Int.reduceMul, Int.reduceNeg, reduceCtorEq] at h) <;> (try (exfalso; omega)) <;> conv => whnf))
        refine CALL.at [3, 2] (more_does 2 2 false ps hsm (i1 + 1) (k1) (by omega)) rfl rfl rfl rfl (by first | rfl | (simp only [belowO, belowH, plainLL_below _ (plainStrs _), Bool.and_self, Bool.and_true] <;> rfl)) (by first | rfl | (simp only [belowO, belowH, plainLL_below _ (plainStrs _), Bool.and_self, Bool.and_true] <;> rfl)) (by repeat' (first | exact trivial | exact (renH_plain _ (h := .rows _ _) (plainStrs _)).symm | exact rfl | exact (renH_plain _ (h := .rows _ _) (plainStrs _)).trans (renH_plain _ (h := .rows _ _) (plainStrs _)).symm | ((conv => whnf); refine ⟨?_, ?_⟩))) (by repeat' (first | exact trivial | exact (renH_plain _ (h := .rows _ _) (plainStrs _)).symm | exact rfl | exact (renH_plain _ (h := .rows _ _) (plainStrs _)).trans (renH_plain _ (h := .rows _ _) (plainStrs _)).symm | ((conv => whnf); refine ⟨?_, ?_⟩))) rfl rfl ?_
        rintro r O' nx' ⟨rfl, rfl, rfl⟩
        conv => whnf
        (repeat (first | ((with_reducible refine IF.tt ?_); conv => whnf) | ((with_reducible refine IF.ff ?_); conv => whnf)))
        refine IF.mk (fun h5 => ?_) (fun h5 => ?_)
        · have hsee : ∃ q, ps[i1 + 1]? = some q ∧ regionM q = true := by
            obtain ⟨q, hq, hqm⟩ := sees_yes h5
            exact ⟨q, hq, by rw [region_more, hqm]; rfl⟩
          conv => whnf
          repeat' (first | ((with_reducible refine IF.tt ?_); conv => whnf) | ((with_reducible refine IF.ff ?_); conv => whnf) | ((with_reducible refine NEED.mk ?_ ?_); (first | with_reducible rfl | omega | (simp (disch := omega) only [lnB, wrap64, wrap32] <;> omega) | (intro h; (try simp (disch := omega) only [hsB, hsC, lnB, wrap64, wrap32, Int.reduceBEq, Int.reduceBNe, Int.reduceEq, Int.reduceNe, Int.reduceLT, Int.reduceLE, Int.reduceGT, Int.reduceGE, Int.reduceAdd, Int.reduceSub, Int.reduceMul, Int.reduceNeg, reduceCtorEq] at h); (first | omega | (simp (disch := omega) only [lnB, wrap64, wrap32] <;> omega))) | (exact needApp 256 rfl rfl (by simp) (by simp) (by omega)) | (simp <;> omega)); conv => whnf) | ((with_reducible apply GET.at); (rfl); conv => whnf) | ((with_reducible apply GETG.at); (rfl); conv => whnf) | ((with_reducible refine IF.mk (fun h => ?_) (fun h => ?_)) <;> (try simp (disch := omega) only [hsB, hsC, lnB, wrap64, wrap32, Int.reduceBEq, Int.reduceBNe, Int.reduceEq, Int.reduceNe, Int.reduceLT, Int.reduceLE, Int.reduceGT, Int.reduceGE, Int.reduceAdd, Int.reduceSub, Int.reduceMul, Int.reduceNeg, reduceCtorEq] at h) <;> (try (exfalso; omega)) <;> conv => whnf))
          obtain ⟨q, hq, hqm⟩ := hsee
          have hlt2 := (List.getElem?_eq_some_iff.1 hq).1
          obtain ⟨k2, hk2⟩ : ∃ k2, k1 = k2 + 1 := ⟨k1 - 1, by omega⟩
          have htag : tagP ps = contP (ps.drop (i1 + 1 + 1)) := by rw [hc1, skip_yes hq hqm]
          rw [hk2]
          conv => whnf
          refine CALL.at [3, 2] (next6_does ps (i1 + 1) k2 (by omega) q hq) rfl rfl rfl rfl (by first | rfl | (simp only [belowO, belowH, plainLL_below _ (plainStrs _), Bool.and_self, Bool.and_true] <;> rfl)) (by first | rfl | (simp only [belowO, belowH, plainLL_below _ (plainStrs _), Bool.and_self, Bool.and_true] <;> rfl)) (by repeat' (first | exact trivial | exact (renH_plain _ (h := .rows _ _) (plainStrs _)).symm | exact rfl | exact (renH_plain _ (h := .rows _ _) (plainStrs _)).trans (renH_plain _ (h := .rows _ _) (plainStrs _)).symm | ((conv => whnf); refine ⟨?_, ?_⟩))) (by repeat' (first | exact trivial | exact (renH_plain _ (h := .rows _ _) (plainStrs _)).symm | exact rfl | exact (renH_plain _ (h := .rows _ _) (plainStrs _)).trans (renH_plain _ (h := .rows _ _) (plainStrs _)).symm | ((conv => whnf); refine ⟨?_, ?_⟩))) rfl rfl ?_
          rintro r O' nx' ⟨rfl, rfl, rfl⟩
          conv => whnf
          refine LOOP.goes (fr' := frT) (O' := OT ps (i1 + 1 + 1) L E w1 q) (n1 := 6) ?_ (K (i1 + 1 + 1, L, E, w1, q) ⟨htag, by simp only; omega⟩)
          unfold frT OT
          rw [show ps.length - (i1 + 1 + 1) = k2 by omega]
          (refine GOES.keeping h0 [0, 1, 2, 3, 4, 5] rfl rfl rfl (by first | rfl | (simp only [belowO, belowH, plainLL_below _ (plainStrs _), Bool.and_self, Bool.and_true] <;> rfl)) ?_ ?_ <;> (repeat' (first | (with_reducible rfl) | (exact rows_eq (plainStrs _) (renLL_plain _ (plainStrs _))) | (exact rows_eq (plainStrs _) (by simp [strRow, ofVal, List.take_of_length_le])) | (exact sl_eq rfl (by simp)) | (exact congrArg (SV.int _) (by first | omega | (simp (disch := omega) only [lnB, wrap64, wrap32] <;> omega) | (simp; done) | (simp <;> omega))) | ((conv => whnf); refine ⟨?_, ?_⟩) | exact trivial | (simp only [ren, renB]; done) | rfl)))
        · conv => whnf
          repeat' (first | ((with_reducible refine IF.tt ?_); conv => whnf) | ((with_reducible refine IF.ff ?_); conv => whnf) | ((with_reducible refine NEED.mk ?_ ?_); (first | with_reducible rfl | omega | (simp (disch := omega) only [lnB, wrap64, wrap32] <;> omega) | (intro h; (try simp (disch := omega) only [hsB, hsC, lnB, wrap64, wrap32, Int.reduceBEq, Int.reduceBNe, Int.reduceEq, Int.reduceNe, Int.reduceLT, Int.reduceLE, Int.reduceGT, Int.reduceGE, Int.reduceAdd, Int.reduceSub, Int.reduceMul, Int.reduceNeg, reduceCtorEq] at h); (first | omega | (simp (disch := omega) only [lnB, wrap64, wrap32] <;> omega))) | (exact needApp 256 rfl rfl (by simp) (by simp) (by omega)) | (simp <;> omega)); conv => whnf) | ((with_reducible apply GET.at); (rfl); conv => whnf) | ((with_reducible apply GETG.at); (rfl); conv => whnf) | ((with_reducible refine IF.mk (fun h => ?_) (fun h => ?_)) <;> (try simp (disch := omega) only [hsB, hsC, lnB, wrap64, wrap32, Int.reduceBEq, Int.reduceBNe, Int.reduceEq, Int.reduceNe, Int.reduceLT, Int.reduceLE, Int.reduceGT, Int.reduceGE, Int.reduceAdd, Int.reduceSub, Int.reduceMul, Int.reduceNeg, reduceCtorEq] at h) <;> (try (exfalso; omega)) <;> conv => whnf))
          refine CALL.at [3, 2] (more_does 3 3 true ps hsm (i1 + 1) (k1) (by omega)) rfl rfl rfl rfl (by first | rfl | (simp only [belowO, belowH, plainLL_below _ (plainStrs _), Bool.and_self, Bool.and_true] <;> rfl)) (by first | rfl | (simp only [belowO, belowH, plainLL_below _ (plainStrs _), Bool.and_self, Bool.and_true] <;> rfl)) (by repeat' (first | exact trivial | exact (renH_plain _ (h := .rows _ _) (plainStrs _)).symm | exact rfl | exact (renH_plain _ (h := .rows _ _) (plainStrs _)).trans (renH_plain _ (h := .rows _ _) (plainStrs _)).symm | ((conv => whnf); refine ⟨?_, ?_⟩))) (by repeat' (first | exact trivial | exact (renH_plain _ (h := .rows _ _) (plainStrs _)).symm | exact rfl | exact (renH_plain _ (h := .rows _ _) (plainStrs _)).trans (renH_plain _ (h := .rows _ _) (plainStrs _)).symm | ((conv => whnf); refine ⟨?_, ?_⟩))) rfl rfl ?_
          rintro r O' nx' ⟨rfl, rfl, rfl⟩
          conv => whnf
          (repeat (first | ((with_reducible refine IF.tt ?_); conv => whnf) | ((with_reducible refine IF.ff ?_); conv => whnf)))
          refine IF.mk (fun h6 => ?_) (fun h6 => ?_)
          · have hsee : ∃ q, ps[i1 + 1]? = some q ∧ regionM q = true := by
              obtain ⟨q, hq, hqm⟩ := sees_yes h6
              exact ⟨q, hq, by rw [region_more, hqm, Bool.or_true]⟩
            conv => whnf
            repeat' (first | ((with_reducible refine IF.tt ?_); conv => whnf) | ((with_reducible refine IF.ff ?_); conv => whnf) | ((with_reducible refine NEED.mk ?_ ?_); (first | with_reducible rfl | omega | (simp (disch := omega) only [lnB, wrap64, wrap32] <;> omega) | (intro h; (try simp (disch := omega) only [hsB, hsC, lnB, wrap64, wrap32, Int.reduceBEq, Int.reduceBNe, Int.reduceEq, Int.reduceNe, Int.reduceLT, Int.reduceLE, Int.reduceGT, Int.reduceGE, Int.reduceAdd, Int.reduceSub, Int.reduceMul, Int.reduceNeg, reduceCtorEq] at h); (first | omega | (simp (disch := omega) only [lnB, wrap64, wrap32] <;> omega))) | (exact needApp 256 rfl rfl (by simp) (by simp) (by omega)) | (simp <;> omega)); conv => whnf) | ((with_reducible apply GET.at); (rfl); conv => whnf) | ((with_reducible apply GETG.at); (rfl); conv => whnf) | ((with_reducible refine IF.mk (fun h => ?_) (fun h => ?_)) <;> (try simp (disch := omega) only [hsB, hsC, lnB, wrap64, wrap32, Int.reduceBEq, Int.reduceBNe, Int.reduceEq, Int.reduceNe, Int.reduceLT, Int.reduceLE, Int.reduceGT, Int.reduceGE, Int.reduceAdd, Int.reduceSub, Int.reduceMul, Int.reduceNeg, reduceCtorEq] at h) <;> (try (exfalso; omega)) <;> conv => whnf))
            obtain ⟨q, hq, hqm⟩ := hsee
            have hlt2 := (List.getElem?_eq_some_iff.1 hq).1
            obtain ⟨k2, hk2⟩ : ∃ k2, k1 = k2 + 1 := ⟨k1 - 1, by omega⟩
            have htag : tagP ps = contP (ps.drop (i1 + 1 + 1)) := by rw [hc1, skip_yes hq hqm]
            rw [hk2]
            conv => whnf
            refine CALL.at [3, 2] (next6_does ps (i1 + 1) k2 (by omega) q hq) rfl rfl rfl rfl (by first | rfl | (simp only [belowO, belowH, plainLL_below _ (plainStrs _), Bool.and_self, Bool.and_true] <;> rfl)) (by first | rfl | (simp only [belowO, belowH, plainLL_below _ (plainStrs _), Bool.and_self, Bool.and_true] <;> rfl)) (by repeat' (first | exact trivial | exact (renH_plain _ (h := .rows _ _) (plainStrs _)).symm | exact rfl | exact (renH_plain _ (h := .rows _ _) (plainStrs _)).trans (renH_plain _ (h := .rows _ _) (plainStrs _)).symm | ((conv => whnf); refine ⟨?_, ?_⟩))) (by repeat' (first | exact trivial | exact (renH_plain _ (h := .rows _ _) (plainStrs _)).symm | exact rfl | exact (renH_plain _ (h := .rows _ _) (plainStrs _)).trans (renH_plain _ (h := .rows _ _) (plainStrs _)).symm | ((conv => whnf); refine ⟨?_, ?_⟩))) rfl rfl ?_
            rintro r O' nx' ⟨rfl, rfl, rfl⟩
            conv => whnf
            refine LOOP.goes (fr' := frT) (O' := OT ps (i1 + 1 + 1) L E w1 q) (n1 := 6) ?_ (K (i1 + 1 + 1, L, E, w1, q) ⟨htag, by simp only; omega⟩)
            unfold frT OT
            rw [show ps.length - (i1 + 1 + 1) = k2 by omega]
            (refine GOES.keeping h0 [0, 1, 2, 3, 4, 5] rfl rfl rfl (by first | rfl | (simp only [belowO, belowH, plainLL_below _ (plainStrs _), Bool.and_self, Bool.and_true] <;> rfl)) ?_ ?_ <;> (repeat' (first | (with_reducible rfl) | (exact rows_eq (plainStrs _) (renLL_plain _ (plainStrs _))) | (exact rows_eq (plainStrs _) (by simp [strRow, ofVal, List.take_of_length_le])) | (exact sl_eq rfl (by simp)) | (exact congrArg (SV.int _) (by first | omega | (simp (disch := omega) only [lnB, wrap64, wrap32] <;> omega) | (simp; done) | (simp <;> omega))) | ((conv => whnf); refine ⟨?_, ?_⟩) | exact trivial | (simp only [ren, renB]; done) | rfl)))
          · have hsee : seesM regionM ps (i1 + 1) = false := by
              unfold seesM at *
              cases hq : ps[i1 + 1]? with
              | none => rfl
              | some q => rw [hq] at h5 h6; simp only at h5 h6 ⊢; rw [region_more, h5]; exact h6
            have htag : tagP ps = contP (ps.drop (i1 + 1)) := by rw [hc1, skip_no hsee]
            conv => whnf
            repeat' (first | ((with_reducible refine IF.tt ?_); conv => whnf) | ((with_reducible refine IF.ff ?_); conv => whnf) | ((with_reducible refine NEED.mk ?_ ?_); (first | with_reducible rfl | omega | (simp (disch := omega) only [lnB, wrap64, wrap32] <;> omega) | (intro h; (try simp (disch := omega) only [hsB, hsC, lnB, wrap64, wrap32, Int.reduceBEq, Int.reduceBNe, Int.reduceEq, Int.reduceNe, Int.reduceLT, Int.reduceLE, Int.reduceGT, Int.reduceGE, Int.reduceAdd, Int.reduceSub, Int.reduceMul, Int.reduceNeg, reduceCtorEq] at h); (first | omega | (simp (disch := omega) only [lnB, wrap64, wrap32] <;> omega))) | (exact needApp 256 rfl rfl (by simp) (by simp) (by omega)) | (simp <;> omega)); conv => whnf) | ((with_reducible apply GET.at); (rfl); conv => whnf) | ((with_reducible apply GETG.at); (rfl); conv => whnf) | ((with_reducible refine IF.mk (fun h => ?_) (fun h => ?_)) <;> (try simp (disch := omega) only [hsB, hsC, lnB, wrap64, wrap32, Int.reduceBEq, Int.reduceBNe, Int.reduceEq, Int.reduceNe, Int.reduceLT, Int.reduceLE, Int.reduceGT, Int.reduceGE, Int.reduceAdd, Int.reduceSub, Int.reduceMul, Int.reduceNeg, reduceCtorEq] at h) <;> (try (exfalso; omega)) <;> conv => whnf))
            refine LOOP.goes (fr' := frT) (O' := OT ps (i1 + 1) L E w1 []) (n1 := 6) ?_ (K (i1 + 1, L, E, w1, []) ⟨htag, by simp only; omega⟩)
            unfold frT OT
            rw [show ps.length - (i1 + 1) = k1 by omega]
            (refine GOES.keeping h0 [0, 1, 2, 3, 4, 5] rfl rfl rfl (by first | rfl | (simp only [belowO, belowH, plainLL_below _ (plainStrs _), Bool.and_self, Bool.and_true] <;> rfl)) ?_ ?_ <;> (repeat' (first | (with_reducible rfl) | (exact rows_eq (plainStrs _) (renLL_plain _ (plainStrs _))) | (exact rows_eq (plainStrs _) (by simp [strRow, ofVal, List.take_of_length_le])) | (exact sl_eq rfl (by simp)) | (exact congrArg (SV.int _) (by first | omega | (simp (disch := omega) only [lnB, wrap64, wrap32] <;> omega) | (simp; done) | (simp <;> omega))) | ((conv => whnf); refine ⟨?_, ?_⟩) | exact trivial | (simp only [ren, renB]; done) | rfl)))
      · rw [skip_no h4] at hc1
        conv => whnf
        repeat' (first | ((with_reducible refine IF.tt ?_); conv => whnf) | ((with_reducible refine IF.ff ?_); conv => whnf) | (refine IF.yes (b := L != []) (by simpa using hLne) ?_; conv => whnf) | ((with_reducible refine NEED.mk ?_ ?_); (first | with_reducible rfl | omega | (simp (disch := omega) only [lnB, wrap64, wrap32] <;> omega) | (intro h; (try simp (disch := omega) only [hsB, hsC, lnB, wrap64, wrap32, Int.reduceBEq, Int.reduceBNe, Int.reduceEq, Int.reduceNe, Int.reduceLT, Int.reduceLE, Int.reduceGT, Int.reduceGE, Int.reduceAdd, Int.reduceSub, Int.reduceMul, Int.reduceNeg, reduceCtorEq] at h); (first | omega | (simp (disch := omega) only [lnB, wrap64, wrap32] <;> omega))) | (exact needApp 256 rfl rfl (by simp) (by simp) (by omega)) | (simp <;> omega)); conv => whnf) | ((with_reducible apply GET.at); (rfl); conv => whnf) | ((with_reducible apply GETG.at); (rfl); conv => whnf) | ((with_reducible refine IF.mk (fun h => ?_) (fun h => ?_)) <;> (try simp (disch := omega) only [hsB, hsC, lnB, wrap64, wrap32, Int.reduceBEq, Int.reduceBNe, Int.reduceEq, Int.reduceNe, Int.reduceLT, Int.reduceLE, Int.reduceGT, Int.reduceGE, Int.reduceAdd, Int.reduceSub, Int.reduceMul, Int.reduceNeg, reduceCtorEq] at h) <;> (try (exfalso; omega)) <;> conv => whnf))
        refine CALL.at [3, 2] (more_does 2 2 false ps hsm (i1) (m1) (by omega)) rfl rfl rfl rfl (by first | rfl | (simp only [belowO, belowH, plainLL_below _ (plainStrs _), Bool.and_self, Bool.and_true] <;> rfl)) (by first | rfl | (simp only [belowO, belowH, plainLL_below _ (plainStrs _), Bool.and_self, Bool.and_true] <;> rfl)) (by repeat' (first | exact trivial | exact (renH_plain _ (h := .rows _ _) (plainStrs _)).symm | exact rfl | exact (renH_plain _ (h := .rows _ _) (plainStrs _)).trans (renH_plain _ (h := .rows _ _) (plainStrs _)).symm | ((conv => whnf); refine ⟨?_, ?_⟩))) (by repeat' (first | exact trivial | exact (renH_plain _ (h := .rows _ _) (plainStrs _)).symm | exact rfl | exact (renH_plain _ (h := .rows _ _) (plainStrs _)).trans (renH_plain _ (h := .rows _ _) (plainStrs _)).symm | ((conv => whnf); refine ⟨?_, ?_⟩))) rfl rfl ?_
        rintro r O' nx' ⟨rfl, rfl, rfl⟩
        conv => whnf
        (repeat (first | ((with_reducible refine IF.tt ?_); conv => whnf) | ((with_reducible refine IF.ff ?_); conv => whnf)))
        refine IF.mk (fun h5 => ?_) (fun h5 => ?_)
        · have hsee : ∃ q, ps[i1]? = some q ∧ regionM q = true := by
            obtain ⟨q, hq, hqm⟩ := sees_yes h5
            exact ⟨q, hq, by rw [region_more, hqm]; rfl⟩
          conv => whnf
          repeat' (first | ((with_reducible refine IF.tt ?_); conv => whnf) | ((with_reducible refine IF.ff ?_); conv => whnf) | ((with_reducible refine NEED.mk ?_ ?_); (first | with_reducible rfl | omega | (simp (disch := omega) only [lnB, wrap64, wrap32] <;> omega) | (intro h; (try simp (disch := omega) only [hsB, hsC, lnB, wrap64, wrap32, Int.reduceBEq, Int.reduceBNe, Int.reduceEq, Int.reduceNe, Int.reduceLT, Int.reduceLE, Int.reduceGT, Int.reduceGE, Int.reduceAdd, Int.reduceSub, Int.reduceMul, Int.reduceNeg, reduceCtorEq] at h); (first | omega | (simp (disch := omega) only [lnB, wrap64, wrap32] <;> omega))) | (exact needApp 256 rfl rfl (by simp) (by simp) (by omega)) | (simp <;> omega)); conv => whnf) | ((with_reducible apply GET.at); (rfl); conv => whnf) | ((with_reducible apply GETG.at); (rfl); conv => whnf) | ((with_reducible refine IF.mk (fun h => ?_) (fun h => ?_)) <;> (try simp (disch := omega) only [hsB, hsC, lnB, wrap64, wrap32, Int.reduceBEq, Int.reduceBNe, Int.reduceEq, Int.reduceNe, Int.reduceLT, Int.reduceLE, Int.reduceGT, Int.reduceGE, Int.reduceAdd, Int.reduceSub, Int.reduceMul, Int.reduceNeg, reduceCtorEq] at h) <;> (try (exfalso; omega)) <;> conv => whnf))
          obtain ⟨q, hq, hqm⟩ := hsee
          have hlt2 := (List.getElem?_eq_some_iff.1 hq).1
          obtain ⟨k2, hk2⟩ : ∃ k2, m1 = k2 + 1 := ⟨m1 - 1, by omega⟩
          have htag : tagP ps = contP (ps.drop (i1 + 1)) := by rw [hc1, skip_yes hq hqm]
          rw [hk2]
          conv => whnf
          refine CALL.at [3, 2] (next6_does ps (i1) k2 (by omega) q hq) rfl rfl rfl rfl (by first | rfl | (simp only [belowO, belowH, plainLL_below _ (plainStrs _), Bool.and_self, Bool.and_true] <;> rfl)) (by first | rfl | (simp only [belowO, belowH, plainLL_below _ (plainStrs _), Bool.and_self, Bool.and_true] <;> rfl)) (by repeat' (first | exact trivial | exact (renH_plain _ (h := .rows _ _) (plainStrs _)).symm | exact rfl | exact (renH_plain _ (h := .rows _ _) (plainStrs _)).trans (renH_plain _ (h := .rows _ _) (plainStrs _)).symm | ((conv => whnf); refine ⟨?_, ?_⟩))) (by repeat' (first | exact trivial | exact (renH_plain _ (h := .rows _ _) (plainStrs _)).symm | exact rfl | exact (renH_plain _ (h := .rows _ _) (plainStrs _)).trans (renH_plain _ (h := .rows _ _) (plainStrs _)).symm | ((conv => whnf); refine ⟨?_, ?_⟩))) rfl rfl ?_
          rintro r O' nx' ⟨rfl, rfl, rfl⟩
          conv => whnf
          refine LOOP.goes (fr' := frT) (O' := OT ps (i1 + 1) L E [] q) (n1 := 6) ?_ (K (i1 + 1, L, E, [], q) ⟨htag, by simp only; omega⟩)
          unfold frT OT
          rw [show ps.length - (i1 + 1) = k2 by omega]
          (refine GOES.keeping h0 [0, 1, 2, 3, 4, 5] rfl rfl rfl (by first | rfl | (simp only [belowO, belowH, plainLL_below _ (plainStrs _), Bool.and_self, Bool.and_true] <;> rfl)) ?_ ?_ <;> (repeat' (first | (with_reducible rfl) | (exact rows_eq (plainStrs _) (renLL_plain _ (plainStrs _))) | (exact rows_eq (plainStrs _) (by simp [strRow, ofVal, List.take_of_length_le])) | (exact sl_eq rfl (by simp)) | (exact congrArg (SV.int _) (by first | omega | (simp (disch := omega) only [lnB, wrap64, wrap32] <;> omega) | (simp; done) | (simp <;> omega))) | ((conv => whnf); refine ⟨?_, ?_⟩) | exact trivial | (simp only [ren, renB]; done) | rfl)))
        · conv => whnf
          repeat' (first | ((with_reducible refine IF.tt ?_); conv => whnf) | ((with_reducible refine IF.ff ?_); conv => whnf) | ((with_reducible refine NEED.mk ?_ ?_); (first | with_reducible rfl | omega | (simp (disch := omega) only [lnB, wrap64, wrap32] <;> omega) | (intro h; (try simp (disch := omega) only [hsB, hsC, lnB, wrap64, wrap32, Int.reduceBEq, Int.reduceBNe, Int.reduceEq, Int.reduceNe, Int.reduceLT, Int.reduceLE, Int.reduceGT, Int.reduceGE, Int.reduceAdd, Int.reduceSub, Int.reduceMul, Int.reduceNeg, reduceCtorEq] at h); (first | omega | (simp (disch := omega) only [lnB, wrap64, wrap32] <;> omega))) | (exact needApp 256 rfl rfl (by simp) (by simp) (by omega)) | (simp <;> omega)); conv => whnf) | ((with_reducible apply GET.at); (rfl); conv => whnf) | ((with_reducible apply GETG.at); (rfl); conv => whnf) | ((with_reducible refine IF.mk (fun h => ?_) (fun h => ?_)) <;> (try simp (disch := omega) only [hsB, hsC, lnB, wrap64, wrap32, Int.reduceBEq, Int.reduceBNe, Int.reduceEq, Int.reduceNe, Int.reduceLT, Int.reduceLE, Int.reduceGT, Int.reduceGE, Int.reduceAdd, Int.reduceSub, Int.reduceMul, Int.reduceNeg, reduceCtorEq] at h) <;> (try (exfalso; omega)) <;> conv => whnf))
          refine CALL.at [3, 2] (more_does 3 3 true ps hsm (i1) (m1) (by omega)) rfl rfl rfl rfl (by first | rfl | (simp only [belowO, belowH, plainLL_below _ (plainStrs _), Bool.and_self, Bool.and_true] <;> rfl)) (by first | rfl | (simp only [belowO, belowH, plainLL_below _ (plainStrs _), Bool.and_self, Bool.and_true] <;> rfl)) (by repeat' (first | exact trivial | exact (renH_plain _ (h := .rows _ _) (plainStrs _)).symm | exact rfl | exact (renH_plain _ (h := .rows _ _) (plainStrs _)).trans (renH_plain _ (h := .rows _ _) (plainStrs _)).symm | ((conv => whnf); refine ⟨?_, ?_⟩))) (by repeat' (first | exact trivial | exact (renH_plain _ (h := .rows _ _) (plainStrs _)).symm | exact rfl | exact (renH_plain _ (h := .rows _ _) (plainStrs _)).trans (renH_plain _ (h := .rows _ _) (plainStrs _)).symm | ((conv => whnf); refine ⟨?_, ?_⟩))) rfl rfl ?_
          rintro r O' nx' ⟨rfl, rfl, rfl⟩
          conv => whnf
          (repeat (first | ((with_reducible refine IF.tt ?_); conv => whnf) | ((with_reducible refine IF.ff ?_); conv => whnf)))
          refine IF.mk (fun h6 => ?_) (fun h6 => ?_)
          · have hsee : ∃ q, ps[i1]? = some q ∧ regionM q = true := by
              obtain ⟨q, hq, hqm⟩ := sees_yes h6
              exact ⟨q, hq, by rw [region_more, hqm, Bool.or_true]⟩
            conv => whnf
            repeat' (first | ((with_reducible refine IF.tt ?_); conv => whnf) | ((with_reducible refine IF.ff ?_); conv => whnf) | ((with_reducible refine NEED.mk ?_ ?_); (first | with_reducible rfl | omega | (simp (disch := omega) only [lnB, wrap64, wrap32] <;> omega) | (intro h; (try simp (disch := omega) only [hsB, hsC, lnB, wrap64, wrap32, Int.reduceBEq, Int.reduceBNe, Int.reduceEq, Int.reduceNe, Int.reduceLT, Int.reduceLE, Int.reduceGT, Int.reduceGE, Int.reduceAdd, Int.reduceSub, Int.reduceMul, Int.reduceNeg, reduceCtorEq] at h); (first | omega | (simp (disch := omega) only [lnB, wrap64, wrap32] <;> omega))) | (exact needApp 256 rfl rfl (by simp) (by simp) (by omega)) | (simp <;> omega)); conv => whnf) | ((with_reducible apply GET.at); (rfl); conv => whnf) | ((with_reducible apply GETG.at); (rfl); conv => whnf) | ((with_reducible refine IF.mk (fun h => ?_) (fun h => ?_)) <;> (try simp (disch := omega) only [hsB, hsC, lnB, wrap64, wrap32, Int.reduceBEq, Int.reduceBNe, Int.reduceEq, Int.reduceNe, Int.reduceLT, Int.reduceLE, Int.reduceGT, Int.reduceGE, Int.reduceAdd, Int.reduceSub, Int.reduceMul, Int.reduceNeg, reduceCtorEq] at h) <;> (try (exfalso; omega)) <;> conv => whnf))
            obtain ⟨q, hq, hqm⟩ := hsee
            have hlt2 := (List.getElem?_eq_some_iff.1 hq).1
            obtain ⟨k2, hk2⟩ : ∃ k2, m1 = k2 + 1 := ⟨m1 - 1, by omega⟩
            have htag : tagP ps = contP (ps.drop (i1 + 1)) := by rw [hc1, skip_yes hq hqm]
            rw [hk2]
            conv => whnf
            refine CALL.at [3, 2] (next6_does ps (i1) k2 (by omega) q hq) rfl rfl rfl rfl (by first | rfl | (simp only [belowO, belowH, plainLL_below _ (plainStrs _), Bool.and_self, Bool.and_true] <;> rfl)) (by first | rfl | (simp only [belowO, belowH, plainLL_below _ (plainStrs _), Bool.and_self, Bool.and_true] <;> rfl)) (by repeat' (first | exact trivial | exact (renH_plain _ (h := .rows _ _) (plainStrs _)).symm | exact rfl | exact (renH_plain _ (h := .rows _ _) (plainStrs _)).trans (renH_plain _ (h := .rows _ _) (plainStrs _)).symm | ((conv => whnf); refine ⟨?_, ?_⟩))) (by repeat' (first | exact trivial | exact (renH_plain _ (h := .rows _ _) (plainStrs _)).symm | exact rfl | exact (renH_plain _ (h := .rows _ _) (plainStrs _)).trans (renH_plain _ (h := .rows _ _) (plainStrs _)).symm | ((conv => whnf); refine ⟨?_, ?_⟩))) rfl rfl ?_
            rintro r O' nx' ⟨rfl, rfl, rfl⟩
            conv => whnf
            refine LOOP.goes (fr' := frT) (O' := OT ps (i1 + 1) L E [] q) (n1 := 6) ?_ (K (i1 + 1, L, E, [], q) ⟨htag, by simp only; omega⟩)
            unfold frT OT
            rw [show ps.length - (i1 + 1) = k2 by omega]
            (refine GOES.keeping h0 [0, 1, 2, 3, 4, 5] rfl rfl rfl (by first | rfl | (simp only [belowO, belowH, plainLL_below _ (plainStrs _), Bool.and_self, Bool.and_true] <;> rfl)) ?_ ?_ <;> (repeat' (first | (with_reducible rfl) | (exact rows_eq (plainStrs _) (renLL_plain _ (plainStrs _))) | (exact rows_eq (plainStrs _) (by simp [strRow, ofVal, List.take_of_length_le])) | (exact sl_eq rfl (by simp)) | (exact congrArg (SV.int _) (by first | omega | (simp (disch := omega) only [lnB, wrap64, wrap32] <;> omega) | (simp; done) | (simp <;> omega))) | ((conv => whnf); refine ⟨?_, ?_⟩) | exact trivial | (simp only [ren, renB]; done) | rfl)))
          · have hsee : seesM regionM ps (i1) = false := by
              unfold seesM at *
              cases hq : ps[i1]? with
              | none => rfl
              | some q => rw [hq] at h5 h6; simp only at h5 h6 ⊢; rw [region_more, h5]; exact h6
            have htag : tagP ps = contP (ps.drop (i1)) := by rw [hc1, skip_no hsee]
            conv => whnf
            repeat' (first | ((with_reducible refine IF.tt ?_); conv => whnf) | ((with_reducible refine IF.ff ?_); conv => whnf) | ((with_reducible refine NEED.mk ?_ ?_); (first | with_reducible rfl | omega | (simp (disch := omega) only [lnB, wrap64, wrap32] <;> omega) | (intro h; (try simp (disch := omega) only [hsB, hsC, lnB, wrap64, wrap32, Int.reduceBEq, Int.reduceBNe, Int.reduceEq, Int.reduceNe, Int.reduceLT, Int.reduceLE, Int.reduceGT, Int.reduceGE, Int.reduceAdd, Int.reduceSub, Int.reduceMul, Int.reduceNeg, reduceCtorEq] at h); (first | omega | (simp (disch := omega) only [lnB, wrap64, wrap32] <;> omega))) | (exact needApp 256 rfl rfl (by simp) (by simp) (by omega)) | (simp <;> omega)); conv => whnf) | ((with_reducible apply GET.at); (rfl); conv => whnf) | ((with_reducible apply GETG.at); (rfl); conv => whnf) | ((with_reducible refine IF.mk (fun h => ?_) (fun h => ?_)) <;> (try simp (disch := omega) only [hsB, hsC, lnB, wrap64, wrap32, Int.reduceBEq, Int.reduceBNe, Int.reduceEq, Int.reduceNe, Int.reduceLT, Int.reduceLE, Int.reduceGT, Int.reduceGE, Int.reduceAdd, Int.reduceSub, Int.reduceMul, Int.reduceNeg, reduceCtorEq] at h) <;> (try (exfalso; omega)) <;> conv => whnf))
            refine LOOP.goes (fr' := frT) (O' := OT ps (i1) L E [] []) (n1 := 6) ?_ (K (i1, L, E, [], []) ⟨htag, by simp only; omega⟩)
            unfold frT OT
            rw [show ps.length - (i1) = m1 by omega]
            (refine GOES.keeping h0 [0, 1, 2, 3, 4, 5] rfl rfl rfl (by first | rfl | (simp only [belowO, belowH, plainLL_below _ (plainStrs _), Bool.and_self, Bool.and_true] <;> rfl)) ?_ ?_ <;> (repeat' (first | (with_reducible rfl) | (exact rows_eq (plainStrs _) (renLL_plain _ (plainStrs _))) | (exact rows_eq (plainStrs _) (by simp [strRow, ofVal, List.take_of_length_le])) | (exact sl_eq rfl (by simp)) | (exact congrArg (SV.int _) (by first | omega | (simp (disch := omega) only [lnB, wrap64, wrap32] <;> omega) | (simp; done) | (simp <;> omega))) | ((conv => whnf); refine ⟨?_, ?_⟩) | exact trivial | (simp only [ren, renB]; done) | rfl)))
  · rw [low_x] at h
    have hpr : privateM p0 = true := by simpa using h
    have htag : tagP ps = contP (ps.drop 0) := by
      unfold tagP contP
      rw [if_pos (by rw [hhead, hpr]), drop_at hp0]
      have h4 : ¬ 4 ≤ p0.length := by
        have := hpr; unfold privateM at this; simp at this
        rcases this with rfl | rfl <;> simp
      have hv : variantM p0 ≠ true := fun h => h4 (variant_len h)
      simp only [varsP]
      rw [if_neg hv]
      simp only
      rw [extsP, if_neg (by unfold singleM; simp [hpr])]
      simp only
      rw [← drop_at hp0]; rfl
    conv => whnf
    repeat' (first | ((with_reducible refine IF.tt ?_); conv => whnf) | ((with_reducible refine IF.ff ?_); conv => whnf) | ((with_reducible refine NEED.mk ?_ ?_); (first | with_reducible rfl | omega | (simp (disch := omega) only [lnB, wrap64, wrap32] <;> omega) | (intro h; (try simp (disch := omega) only [hsB, hsC, lnB, wrap64, wrap32, Int.reduceBEq, Int.reduceBNe, Int.reduceEq, Int.reduceNe, Int.reduceLT, Int.reduceLE, Int.reduceGT, Int.reduceGE, Int.reduceAdd, Int.reduceSub, Int.reduceMul, Int.reduceNeg, reduceCtorEq] at h); (first | omega | (simp (disch := omega) only [lnB, wrap64, wrap32] <;> omega))) | (exact needApp 256 rfl rfl (by simp) (by simp) (by omega)) | (simp <;> omega)); conv => whnf) | ((with_reducible apply GET.at); (rfl); conv => whnf) | ((with_reducible apply GETG.at); (rfl); conv => whnf) | ((with_reducible refine IF.mk (fun h => ?_) (fun h => ?_)) <;> (try simp (disch := omega) only [hsB, hsC, lnB, wrap64, wrap32, Int.reduceBEq, Int.reduceBNe, Int.reduceEq, Int.reduceNe, Int.reduceLT, Int.reduceLE, Int.reduceGT, Int.reduceGE, Int.reduceAdd, Int.reduceSub, Int.reduceMul, Int.reduceNeg, reduceCtorEq] at h) <;> (try (exfalso; omega)) <;> conv => whnf))
    refine LOOP.goes (fr' := frT) (O' := OT ps (0) [] [] [] []) (n1 := 6) ?_ (K (0, [], [], [], []) ⟨htag, by simp only; omega⟩)
    unfold frT OT
    rw [show ps.length - (0) = ps.length by omega]
    (refine GOES.keeping h0 [0, 1, 2, 3, 4, 5] rfl rfl rfl (by first | rfl | (simp only [belowO, belowH, plainLL_below _ (plainStrs _), Bool.and_self, Bool.and_true] <;> rfl)) ?_ ?_ <;> (repeat' (first | (with_reducible rfl) | (exact rows_eq (plainStrs _) (renLL_plain _ (plainStrs _))) | (exact rows_eq (plainStrs _) (by simp [strRow, ofVal, List.take_of_length_le])) | (exact sl_eq rfl (by simp)) | (exact congrArg (SV.int _) (by first | omega | (simp (disch := omega) only [lnB, wrap64, wrap32] <;> omega) | (simp; done) | (simp <;> omega))) | ((conv => whnf); refine ⟨?_, ?_⟩) | exact trivial | (simp only [ren, renB]; done) | rfl)))
  rintro ⟨a0, L, E, S, R⟩ ⟨htag, ha0⟩
  dsimp only at htag ha0 ⊢
  unfold frT OT
  refine LOOP.go tabOK [2, 4, 5] (X := Nat × List (List UInt8)) (fun y => y.1 ≤ ps.length ∧ y.2.length ≤ y.1 ∧ (∀ s ∈ y.2, 4 ≤ s.length ∧ Sm s) ∧ varsP [] (ps.drop a0) = varsP (y.2.map lowerM) (ps.drop y.1)) (fun y => []) (fun y => [(0, tz6), (1, tg6 L E S R 4 y.2.length 5 0 []), (2, .rows 1 (ps.map strRow)), (3, rd6' y.1 (ps.length - y.1)), (4, .rows 1 (y.2.map strRow)), (5, .rows 1 [])]) 6 (fun y => ps.length - y.1) (a0, []) ⟨by simp only; omega, by simp, by simp, rfl⟩ ?_
  conv => whnf
  refine ⟨by (refine GOES.keeping h0 [0, 1, 2, 3, 4, 5] rfl rfl rfl (by first | rfl | (simp only [belowO, belowH, plainLL_below _ (plainStrs _), Bool.and_self, Bool.and_true] <;> rfl)) ?_ ?_ <;> (repeat' (first | (with_reducible rfl) | (exact rows_eq (plainStrs _) (renLL_plain _ (plainStrs _))) | (exact rows_eq (plainStrs _) (by simp [strRow, ofVal, List.take_of_length_le])) | (exact sl_eq rfl (by simp)) | (exact congrArg (SV.int _) (by first | omega | (simp (disch := omega) only [lnB, wrap64, wrap32] <;> omega) | (simp; done) | (simp <;> omega))) | ((conv => whnf); refine ⟨?_, ?_⟩) | exact trivial | (simp only [ren, renB]; done) | rfl))), ?_⟩
  rintro ⟨a, vs⟩ ⟨ha, hvl, hvs, hx⟩
  dsimp only at ha hvl hvs hx ⊢
  conv => whnf
  rcases Nat.lt_or_ge a ps.length with hap | hap
  · obtain ⟨w, hw⟩ : ∃ w, ps[a]? = some w := ⟨_, List.getElem?_eq_getElem hap⟩
    have hwl := hsm w (List.mem_of_getElem? hw)
    obtain ⟨k', hk'⟩ : ∃ k', ps.length - a = k' + 1 := ⟨ps.length - a - 1, by omega⟩
    repeat' (first | ((with_reducible refine IF.tt ?_); conv => whnf) | ((with_reducible refine IF.ff ?_); conv => whnf) | (refine GET.at (row := strRow w) (by rw [List.getElem?_map, show a + (0 : Int).toNat = a by simp, hw]; rfl) ?_; conv => whnf) | (refine CALL.value (r6variant_does _ hwl) rfl rfl ?_; conv => whnf) | ((with_reducible refine NEED.mk ?_ ?_); (first | with_reducible rfl | omega | (simp (disch := omega) only [lnB, wrap64, wrap32] <;> omega) | (intro h; (try simp (disch := omega) only [hsB, hsC, lnB, wrap64, wrap32, Int.reduceBEq, Int.reduceBNe, Int.reduceEq, Int.reduceNe, Int.reduceLT, Int.reduceLE, Int.reduceGT, Int.reduceGE, Int.reduceAdd, Int.reduceSub, Int.reduceMul, Int.reduceNeg, reduceCtorEq] at h); (first | omega | (simp (disch := omega) only [lnB, wrap64, wrap32] <;> omega))) | (exact needApp 256 rfl rfl (by simp) (by simp) (by omega)) | (simp <;> omega)); conv => whnf) | ((with_reducible apply GET.at); (rfl); conv => whnf) | ((with_reducible apply GETG.at); (rfl); conv => whnf) | ((with_reducible refine IF.mk (fun h => ?_) (fun h => ?_)) <;> (try simp (disch := omega) only [hsB, hsC, lnB, wrap64, wrap32, Int.reduceBEq, Int.reduceBNe, Int.reduceEq, Int.reduceNe, Int.reduceLT, Int.reduceLE, Int.reduceGT, Int.reduceGE, Int.reduceAdd, Int.reduceSub, Int.reduceMul, Int.reduceNeg, reduceCtorEq] at h) <;> (try (exfalso; omega)) <;> conv => whnf))
    · have hvm : variantM w = true := by assumption
      have hv4 := variant_len hvm
      rw [hk']
      refine CALL.at [3, 2] (next6_does ps a k' (by omega) w hw) rfl rfl rfl rfl (by first | rfl | (simp only [belowO, belowH, plainLL_below _ (plainStrs _), Bool.and_self, Bool.and_true] <;> rfl)) (by first | rfl | (simp only [belowO, belowH, plainLL_below _ (plainStrs _), Bool.and_self, Bool.and_true] <;> rfl)) (by repeat' (first | exact trivial | exact (renH_plain _ (h := .rows _ _) (plainStrs _)).symm | exact rfl | exact (renH_plain _ (h := .rows _ _) (plainStrs _)).trans (renH_plain _ (h := .rows _ _) (plainStrs _)).symm | ((conv => whnf); refine ⟨?_, ?_⟩))) (by repeat' (first | exact trivial | exact (renH_plain _ (h := .rows _ _) (plainStrs _)).symm | exact rfl | exact (renH_plain _ (h := .rows _ _) (plainStrs _)).trans (renH_plain _ (h := .rows _ _) (plainStrs _)).symm | ((conv => whnf); refine ⟨?_, ?_⟩))) rfl rfl ?_
      rintro r O' nx' ⟨rfl, rfl, rfl⟩
      have hxa : varsP (vs.map lowerM) (ps.drop a) = if lowerM w ∈ vs.map lowerM then none else varsP (vs.map lowerM ++ [lowerM w]) (ps.drop (a + 1)) := by
        rw [drop_at hw]; simp only [varsP]; rw [if_pos hvm]
      conv => whnf
      refine LOOP.go tabOK [2, 4, 5, 7] (X := Nat) (fun i => i ≤ vs.length ∧ lowerM w ∉ (vs.take i).map lowerM) (fun i => [(8, .int .i64 (i : Int))]) (fun i => [(0, tz6), (1, tg6 L E S R 4 vs.length 5 0 []), (2, .rows 1 (ps.map strRow)), (3, rd6' (a + 1) k'), (4, .rows 1 (vs.map strRow)), (5, .rows 1 [])]) 6 (fun i => vs.length - i) 0 ⟨by omega, by simp⟩ ?_
      conv => whnf
      refine ⟨by (refine GOES.keeping h0 [0, 1, 2, 3, 4, 5] rfl rfl rfl (by first | rfl | (simp only [belowO, belowH, plainLL_below _ (plainStrs _), Bool.and_self, Bool.and_true] <;> rfl)) ?_ ?_ <;> (repeat' (first | (with_reducible rfl) | (exact rows_eq (plainStrs _) (renLL_plain _ (plainStrs _))) | (exact rows_eq (plainStrs _) (by simp [strRow, ofVal, List.take_of_length_le])) | (exact sl_eq rfl (by simp)) | (exact congrArg (SV.int _) (by first | omega | (simp (disch := omega) only [lnB, wrap64, wrap32] <;> omega) | (simp; done) | (simp <;> omega))) | ((conv => whnf); refine ⟨?_, ?_⟩) | exact trivial | (simp only [ren, renB]; done) | rfl))), ?_⟩
      rintro i ⟨hi, hn⟩
      dsimp only at hi hn ⊢
      conv => whnf
      rcases Nat.lt_or_ge i vs.length with hiv | hiv
      · have hvi := (hvs _ (List.getElem_mem hiv)).2
        repeat' (first | ((with_reducible refine IF.tt ?_); conv => whnf) | ((with_reducible refine IF.ff ?_); conv => whnf) | (refine GET.at (row := strRow (vs[i]'(by omega))) (by rw [List.getElem?_map, show 0 + (i : Int).toNat = i by simp, List.getElem?_eq_getElem (by omega)]; rfl) ?_; conv => whnf) | (refine CALL.value (r6lower_does _ hvi) rfl rfl ?_; conv => whnf) | (refine CALL.value (r6lower_does _ hwl) rfl rfl ?_; conv => whnf) | ((with_reducible refine NEED.mk ?_ ?_); (first | with_reducible rfl | omega | (simp (disch := omega) only [lnB, wrap64, wrap32] <;> omega) | (intro h; (try simp (disch := omega) only [hsB, hsC, lnB, wrap64, wrap32, Int.reduceBEq, Int.reduceBNe, Int.reduceEq, Int.reduceNe, Int.reduceLT, Int.reduceLE, Int.reduceGT, Int.reduceGE, Int.reduceAdd, Int.reduceSub, Int.reduceMul, Int.reduceNeg, reduceCtorEq] at h); (first | omega | (simp (disch := omega) only [lnB, wrap64, wrap32] <;> omega))) | (exact needApp 256 rfl rfl (by simp) (by simp) (by omega)) | (simp <;> omega)); conv => whnf) | ((with_reducible apply GET.at); (rfl); conv => whnf) | ((with_reducible apply GETG.at); (rfl); conv => whnf) | ((with_reducible refine IF.mk (fun h => ?_) (fun h => ?_)) <;> (try simp (disch := omega) only [hsB, hsC, lnB, wrap64, wrap32, Int.reduceBEq, Int.reduceBNe, Int.reduceEq, Int.reduceNe, Int.reduceLT, Int.reduceLE, Int.reduceGT, Int.reduceGE, Int.reduceAdd, Int.reduceSub, Int.reduceMul, Int.reduceNeg, reduceCtorEq] at h) <;> (try (exfalso; omega)) <;> conv => whnf))
        · have hin : lowerM w ∈ vs.map lowerM := by rw [← (by assumption : lowerM vs[i] = lowerM w)]; exact List.mem_map_of_mem (List.getElem_mem hiv)
          refine FIN.anyA 7 h0 rfl rfl rfl ⟨?_, rfl, rfl⟩
          rw [htag]; unfold contP; rw [hx, hxa, if_pos hin]; rfl
        · refine ⟨i + 1, ⟨by omega, ?_⟩, by omega, ?_⟩
          · rw [List.take_succ_eq_append_getElem hiv, List.map_append, List.mem_append]
            rintro (h1 | h1)
            · exact hn h1
            · have : lowerM w = lowerM vs[i] := by simpa using h1
              exact (by assumption : ¬ lowerM vs[i] = lowerM w) this.symm
          · conv => whnf
            (refine GOES.keeping h0 [0, 1, 2, 3, 4, 5] rfl rfl rfl (by first | rfl | (simp only [belowO, belowH, plainLL_below _ (plainStrs _), Bool.and_self, Bool.and_true] <;> rfl)) ?_ ?_ <;> (repeat' (first | (with_reducible rfl) | (exact rows_eq (plainStrs _) (renLL_plain _ (plainStrs _))) | (exact rows_eq (plainStrs _) (by simp [strRow, ofVal, List.take_of_length_le])) | (exact sl_eq rfl (by simp)) | (exact congrArg (SV.int _) (by first | omega | (simp (disch := omega) only [lnB, wrap64, wrap32] <;> omega) | (simp; done) | (simp <;> omega))) | ((conv => whnf); refine ⟨?_, ?_⟩) | exact trivial | (simp only [ren, renB]; done) | rfl)))
      · rw [List.take_of_length_le (by omega)] at hn
        repeat' (first | ((with_reducible refine IF.tt ?_); conv => whnf) | ((with_reducible refine IF.ff ?_); conv => whnf) | ((with_reducible refine NEED.mk ?_ ?_); (first | with_reducible rfl | omega | (simp (disch := omega) only [lnB, wrap64, wrap32] <;> omega) | (intro h; (try simp (disch := omega) only [hsB, hsC, lnB, wrap64, wrap32, Int.reduceBEq, Int.reduceBNe, Int.reduceEq, Int.reduceNe, Int.reduceLT, Int.reduceLE, Int.reduceGT, Int.reduceGE, Int.reduceAdd, Int.reduceSub, Int.reduceMul, Int.reduceNeg, reduceCtorEq] at h); (first | omega | (simp (disch := omega) only [lnB, wrap64, wrap32] <;> omega))) | (exact needApp 256 rfl rfl (by simp) (by simp) (by omega)) | (simp <;> omega)); conv => whnf) | ((with_reducible apply GET.at); (rfl); conv => whnf) | ((with_reducible apply GETG.at); (rfl); conv => whnf) | ((with_reducible refine IF.mk (fun h => ?_) (fun h => ?_)) <;> (try simp (disch := omega) only [hsB, hsC, lnB, wrap64, wrap32, Int.reduceBEq, Int.reduceBNe, Int.reduceEq, Int.reduceNe, Int.reduceLT, Int.reduceLE, Int.reduceGT, Int.reduceGE, Int.reduceAdd, Int.reduceSub, Int.reduceMul, Int.reduceNeg, reduceCtorEq] at h) <;> (try (exfalso; omega)) <;> conv => whnf))
        have e : (vs ++ [w]).length = vs.length + 1 := by simp
        refine ⟨(a + 1, vs ++ [w]), ⟨by simp only; omega, by simp; omega, ?_, by simp only; rw [hx, hxa, if_neg hn]; simp⟩, by simp only; omega, ?_⟩
        · intro x hx'
          rcases List.mem_append.1 hx' with h1 | h1
          · exact hvs x h1
          · rw [List.mem_singleton.1 h1]; exact ⟨hv4, hwl⟩
        · dsimp only
          rw [e, show ps.length - (a + 1) = k' by omega]
          conv => whnf
          (refine GOES.keeping h0 [0, 1, 2, 3, 7, 5] rfl rfl rfl (by first | rfl | (simp only [belowO, belowH, plainLL_below _ (plainStrs _), Bool.and_self, Bool.and_true] <;> rfl)) ?_ ?_ <;> (repeat' (first | (with_reducible rfl) | (exact rows_eq (plainStrs _) (renLL_plain _ (plainStrs _))) | (exact rows_eq (plainStrs _) (by simp [strRow, ofVal, List.take_of_length_le])) | (exact sl_eq rfl (by simp)) | (exact congrArg (SV.int _) (by first | omega | (simp (disch := omega) only [lnB, wrap64, wrap32] <;> omega) | (simp; done) | (simp <;> omega))) | ((conv => whnf); refine ⟨?_, ?_⟩) | exact trivial | (simp only [ren, renB]; done) | rfl)))
    · have hvm : variantM w = false := by assumption
      have hv0 : varsP (vs.map lowerM) (ps.drop a) = some (ps.drop a, vs.map lowerM) := by
        rw [drop_at hw]; simp only [varsP]; rw [if_neg (by simp [hvm])]
      have hc0 : tagP ps = match extsP (vs.map lowerM) (ps.drop a) with | none => false | some l => lastP l := by rw [htag]; unfold contP; rw [hx, hv0]
      refine LOOP.go tabOK [2, 4, 5] (X := Nat × List (List UInt8)) (fun y => y.1 ≤ ps.length ∧ y.2.length ≤ y.1 ∧ (∀ x ∈ y.2, 1 ≤ x.length ∧ Sm x) ∧ extsP (vs.map lowerM) (ps.drop a) = extsP (vs.map lowerM ++ y.2.map fun x => lowerM (x.take 1)) (ps.drop y.1)) (fun y => []) (fun y => [(0, tz6), (1, tg6 L E S R 4 vs.length 5 y.2.length []), (2, .rows 1 (ps.map strRow)), (3, rd6' y.1 (ps.length - y.1)), (4, .rows 1 (vs.map strRow)), (5, .rows 1 (y.2.map strRow))]) 6 (fun y => ps.length - y.1) (a, []) ⟨by simp only; omega, by simp, by simp, by simp⟩ ?_
      conv => whnf
      refine ⟨by (refine GOES.keeping h0 [0, 1, 2, 3, 4, 5] rfl rfl rfl (by first | rfl | (simp only [belowO, belowH, plainLL_below _ (plainStrs _), Bool.and_self, Bool.and_true] <;> rfl)) ?_ ?_ <;> (repeat' (first | (with_reducible rfl) | (exact rows_eq (plainStrs _) (renLL_plain _ (plainStrs _))) | (exact rows_eq (plainStrs _) (by simp [strRow, ofVal, List.take_of_length_le])) | (exact sl_eq rfl (by simp)) | (exact congrArg (SV.int _) (by first | omega | (simp (disch := omega) only [lnB, wrap64, wrap32] <;> omega) | (simp; done) | (simp <;> omega))) | ((conv => whnf); refine ⟨?_, ?_⟩) | exact trivial | (simp only [ren, renB]; done) | rfl))), ?_⟩
      rintro ⟨b, xs⟩ ⟨hb1, hxl, hxs, hy⟩
      dsimp only at hb1 hxl hxs hy ⊢
      conv => whnf
      rcases Nat.lt_or_ge b ps.length with hbp | hbp
      · obtain ⟨u, hu⟩ : ∃ u, ps[b]? = some u := ⟨_, List.getElem?_eq_getElem hbp⟩
        have hul := hsm u (List.mem_of_getElem? hu)
        obtain ⟨k', hk'⟩ : ∃ k', ps.length - b = k' + 1 := ⟨ps.length - b - 1, by omega⟩
        clear hx hv0 hvl
        repeat' (first | ((with_reducible refine IF.tt ?_); conv => whnf) | ((with_reducible refine IF.ff ?_); conv => whnf) | (refine GET.at (row := strRow u) (by rw [List.getElem?_map, show b + (0 : Int).toNat = b by simp, hu]; rfl) ?_; conv => whnf) | (refine CALL.value (r6lower_does _ hul) rfl rfl ?_; conv => whnf) | (refine CALL.value (r6both_does _ _ _ hul) rfl rfl ?_; conv => whnf) | ((with_reducible refine NEED.mk ?_ ?_); (first | with_reducible rfl | omega | (simp (disch := omega) only [lnB, wrap64, wrap32] <;> omega) | (intro h; (try simp (disch := omega) only [hsB, hsC, lnB, wrap64, wrap32, Int.reduceBEq, Int.reduceBNe, Int.reduceEq, Int.reduceNe, Int.reduceLT, Int.reduceLE, Int.reduceGT, Int.reduceGE, Int.reduceAdd, Int.reduceSub, Int.reduceMul, Int.reduceNeg, reduceCtorEq] at h); (first | omega | (simp (disch := omega) only [lnB, wrap64, wrap32] <;> omega))) | (exact needApp 256 rfl rfl (by simp) (by simp) (by omega)) | (simp <;> omega)); conv => whnf) | ((with_reducible apply GET.at); (rfl); conv => whnf) | ((with_reducible apply GETG.at); (rfl); conv => whnf) | ((with_reducible refine IF.mk (fun h => ?_) (fun h => ?_)) <;> (try simp (disch := omega) only [hsB, hsC, lnB, wrap64, wrap32, Int.reduceBEq, Int.reduceBNe, Int.reduceEq, Int.reduceNe, Int.reduceLT, Int.reduceLE, Int.reduceGT, Int.reduceGE, Int.reduceAdd, Int.reduceSub, Int.reduceMul, Int.reduceNeg, reduceCtorEq] at h) <;> (try (exfalso; omega)) <;> conv => whnf))
        all_goals try (exact absurd (by assumption : lowerM u = [120]) (by assumption))
        · have hnp : privateM u = false := by rw [private_lower]; simpa using (by assumption : ¬ lowerM u = [120])
          have hmm : madeM u 1 1 false = true := by assumption
          have hsg : singleM u = true := by unfold singleM; rw [hmm, hnp]; rfl
          have hu1 : u.length = 1 := by have := made_len hmm; omega
          rw [hk']
          refine CALL.at [3, 2, 1, 4, 5] (extension6_does ps hb b k' (by omega) u hu hu1 L E S R vs.length [] xs hxs (by omega)) rfl rfl rfl rfl (by first | rfl | (simp only [belowO, belowH, plainLL_below _ (plainStrs _), Bool.and_self, Bool.and_true] <;> rfl)) (by first | rfl | (simp only [belowO, belowH, plainLL_below _ (plainStrs _), Bool.and_self, Bool.and_true] <;> rfl)) (by repeat' (first | exact trivial | exact (renH_plain _ (h := .rows _ _) (plainStrs _)).symm | exact rfl | exact (renH_plain _ (h := .rows _ _) (plainStrs _)).trans (renH_plain _ (h := .rows _ _) (plainStrs _)).symm | ((conv => whnf); refine ⟨?_, ?_⟩))) (by repeat' (first | exact trivial | exact (renH_plain _ (h := .rows _ _) (plainStrs _)).symm | exact rfl | exact (renH_plain _ (h := .rows _ _) (plainStrs _)).trans (renH_plain _ (h := .rows _ _) (plainStrs _)).symm | ((conv => whnf); refine ⟨?_, ?_⟩))) rfl rfl ?_
          rintro r O' nx' ⟨n, xs', hn, rfl, hz, rfl, rfl⟩
          have hnle : n ≤ (ps.drop (b + 1)).length := by rw [hn]; exact span_le _ _
          rw [List.length_drop] at hnle
          have hmem : lowerM u ∈ vs.map lowerM ++ (xs.map fun x => lowerM (x.take 1)) ↔ dupM xs u = true := by
            unfold dupM
            rw [List.mem_append, List.any_eq_true]
            constructor
            · rintro (h | h)
              · obtain ⟨v, hv, he⟩ := List.mem_map.1 h
                have h1 := (hvs v hv).1
                have h2 := congrArg List.length he
                unfold lowerM at h2; simp only [List.length_map] at h2; omega
              · obtain ⟨x, hx, he⟩ := List.mem_map.1 h
                exact ⟨x, hx, by simp [he]⟩
            · rintro ⟨x, hx, he⟩
              exact .inr (List.mem_map.2 ⟨x, hx, by simpa using he⟩)
          have hya : extsP (vs.map lowerM ++ xs.map fun x => lowerM (x.take 1)) (ps.drop b) = if n = 0 ∨ dupM xs u = true then none else extsP ((vs.map lowerM ++ xs.map fun x => lowerM (x.take 1)) ++ [lowerM u]) (ps.drop (b + 1 + n)) := by
            rw [drop_at hu, extsP, if_pos hsg, ← hn, List.drop_drop]
            simp only [hmem]
          by_cases hgood : dupM xs u = false ∧ n ≠ 0
          · obtain ⟨z, rfl, hz1, hz2⟩ := hz hgood.1
            rw [show (!dupM xs u && decide (n ≠ 0)) = true by simp [hgood]]
            conv => whnf
            repeat' (first | ((with_reducible refine IF.tt ?_); conv => whnf) | ((with_reducible refine IF.ff ?_); conv => whnf) | ((with_reducible refine NEED.mk ?_ ?_); (first | with_reducible rfl | omega | (simp (disch := omega) only [lnB, wrap64, wrap32] <;> omega) | (intro h; (try simp (disch := omega) only [hsB, hsC, lnB, wrap64, wrap32, Int.reduceBEq, Int.reduceBNe, Int.reduceEq, Int.reduceNe, Int.reduceLT, Int.reduceLE, Int.reduceGT, Int.reduceGE, Int.reduceAdd, Int.reduceSub, Int.reduceMul, Int.reduceNeg, reduceCtorEq] at h); (first | omega | (simp (disch := omega) only [lnB, wrap64, wrap32] <;> omega))) | (exact needApp 256 rfl rfl (by simp) (by simp) (by omega)) | (simp <;> omega)); conv => whnf) | ((with_reducible apply GET.at); (rfl); conv => whnf) | ((with_reducible apply GETG.at); (rfl); conv => whnf) | ((with_reducible refine IF.mk (fun h => ?_) (fun h => ?_)) <;> (try simp (disch := omega) only [hsB, hsC, lnB, wrap64, wrap32, Int.reduceBEq, Int.reduceBNe, Int.reduceEq, Int.reduceNe, Int.reduceLT, Int.reduceLE, Int.reduceGT, Int.reduceGE, Int.reduceAdd, Int.reduceSub, Int.reduceMul, Int.reduceNeg, reduceCtorEq] at h) <;> (try (exfalso; omega)) <;> conv => whnf))
            have e : (xs ++ [z]).length = xs.length + 1 := by simp
            refine ⟨(b + 1 + n, xs ++ [z]), ⟨by simp only; omega, by simp; omega, ?_, ?_⟩, by simp only; omega, ?_⟩
            · intro x hx'
              rcases List.mem_append.1 hx' with h1 | h1
              · exact hxs x h1
              · rw [List.mem_singleton.1 h1]
                refine ⟨?_, hz2⟩
                rcases z with _ | ⟨c, t⟩
                · simp at hz1; subst hz1; simp at hu1
                · simp
            · simp only
              rw [hy, hya, if_neg (by simp [hgood])]
              simp [hz1]
            · dsimp only
              rw [show ps.length - (b + 1 + n) = k' - n by omega]
              conv => whnf
              (refine GOES.keeping h0 [0, 1, 2, 3, 4, 6] rfl rfl rfl (by first | rfl | (simp only [belowO, belowH, plainLL_below _ (plainStrs _), Bool.and_self, Bool.and_true] <;> rfl)) ?_ ?_ <;> (repeat' (first | (with_reducible rfl) | (exact rows_eq (plainStrs _) (renLL_plain _ (plainStrs _))) | (exact rows_eq (plainStrs _) (by simp [strRow, ofVal, List.take_of_length_le])) | (exact sl_eq rfl (by simp)) | (exact congrArg (SV.int _) (by first | omega | (simp (disch := omega) only [lnB, wrap64, wrap32] <;> omega) | (simp; done) | (simp <;> omega))) | ((conv => whnf); refine ⟨?_, ?_⟩) | exact trivial | (simp only [ren, renB]; done) | rfl)))
          · have hbad : n = 0 ∨ dupM xs u = true := by
              rcases Nat.eq_zero_or_pos n with h | h
              · exact .inl h
              · right
                cases hd : dupM xs u with
                | true => rfl
                | false => exact absurd ⟨hd, by omega⟩ hgood
            have htf : tagP ps = false := by rw [hc0, hy, hya, if_pos hbad]
            rw [show (!dupM xs u && decide (n ≠ 0)) = false by rcases hbad with h | h <;> simp [h]]
            conv => whnf
            repeat' (first | ((with_reducible refine IF.tt ?_); conv => whnf) | ((with_reducible refine IF.ff ?_); conv => whnf) | ((with_reducible refine NEED.mk ?_ ?_); (first | with_reducible rfl | omega | (simp (disch := omega) only [lnB, wrap64, wrap32] <;> omega) | (intro h; (try simp (disch := omega) only [hsB, hsC, lnB, wrap64, wrap32, Int.reduceBEq, Int.reduceBNe, Int.reduceEq, Int.reduceNe, Int.reduceLT, Int.reduceLE, Int.reduceGT, Int.reduceGE, Int.reduceAdd, Int.reduceSub, Int.reduceMul, Int.reduceNeg, reduceCtorEq] at h); (first | omega | (simp (disch := omega) only [lnB, wrap64, wrap32] <;> omega))) | (exact needApp 256 rfl rfl (by simp) (by simp) (by omega)) | (simp <;> omega)); conv => whnf) | ((with_reducible apply GET.at); (rfl); conv => whnf) | ((with_reducible apply GETG.at); (rfl); conv => whnf) | ((with_reducible refine IF.mk (fun h => ?_) (fun h => ?_)) <;> (try simp (disch := omega) only [hsB, hsC, lnB, wrap64, wrap32, Int.reduceBEq, Int.reduceBNe, Int.reduceEq, Int.reduceNe, Int.reduceLT, Int.reduceLE, Int.reduceGT, Int.reduceGE, Int.reduceAdd, Int.reduceSub, Int.reduceMul, Int.reduceNeg, reduceCtorEq] at h) <;> (try (exfalso; omega)) <;> conv => whnf))
            refine FIN.anyA 7 h0 rfl rfl rfl ⟨?_, rfl, rfl⟩
            rw [htf]; rfl
        · have hnp : privateM u = false := by rw [private_lower]; simpa using (by assumption : ¬ lowerM u = [120])
          have hmm : madeM u 1 1 false = false := by assumption
          have hsg : ¬ singleM u = true := by unfold singleM; simp [hmm]
          have hlast : tagP ps = false := by
            rw [hc0, hy, drop_at hu, extsP, if_neg hsg]; simp only [lastP]; rw [if_neg (by simp [hnp])]
          refine FIN.anyA 7 h0 rfl rfl rfl ⟨?_, rfl, rfl⟩
          rw [hlast]; rfl
        · have hpv : privateM u = true := by rw [private_lower]; simpa using (by assumption : lowerM u = [120])
          have hsg : ¬ singleM u = true := by unfold singleM; simp [hpv]
          have hlast : tagP ps = decide (spanM (partOK 1) (ps.drop (b + 1)) ≠ 0 ∧ spanM (partOK 1) (ps.drop (b + 1)) = (ps.drop (b + 1)).length) := by
            rw [hc0, hy, drop_at hu, extsP, if_neg hsg]; simp only [lastP]; rw [if_pos hpv]
          refine CALL.at [3, 2, 1, 4, 5] (private6_does ps hb b (ps.length - b) (by omega) hbp L E S R vs.length xs.length []) rfl rfl rfl rfl (by first | rfl | (simp only [belowO, belowH, plainLL_below _ (plainStrs _), Bool.and_self, Bool.and_true] <;> rfl)) (by first | rfl | (simp only [belowO, belowH, plainLL_below _ (plainStrs _), Bool.and_self, Bool.and_true] <;> rfl)) (by repeat' (first | exact trivial | exact (renH_plain _ (h := .rows _ _) (plainStrs _)).symm | exact rfl | exact (renH_plain _ (h := .rows _ _) (plainStrs _)).trans (renH_plain _ (h := .rows _ _) (plainStrs _)).symm | ((conv => whnf); refine ⟨?_, ?_⟩))) (by repeat' (first | exact trivial | exact (renH_plain _ (h := .rows _ _) (plainStrs _)).symm | exact rfl | exact (renH_plain _ (h := .rows _ _) (plainStrs _)).trans (renH_plain _ (h := .rows _ _) (plainStrs _)).symm | ((conv => whnf); refine ⟨?_, ?_⟩))) rfl rfl ?_
          rintro r O' nx' ⟨P', rfl, rfl, rfl⟩
          rw [← hlast]
          cases htf : tagP ps with
          | true =>
            conv => whnf
            repeat' (first | ((with_reducible refine IF.tt ?_); conv => whnf) | ((with_reducible refine IF.ff ?_); conv => whnf) | ((with_reducible refine NEED.mk ?_ ?_); (first | with_reducible rfl | omega | (simp (disch := omega) only [lnB, wrap64, wrap32] <;> omega) | (intro h; (try simp (disch := omega) only [hsB, hsC, lnB, wrap64, wrap32, Int.reduceBEq, Int.reduceBNe, Int.reduceEq, Int.reduceNe, Int.reduceLT, Int.reduceLE, Int.reduceGT, Int.reduceGE, Int.reduceAdd, Int.reduceSub, Int.reduceMul, Int.reduceNeg, reduceCtorEq] at h); (first | omega | (simp (disch := omega) only [lnB, wrap64, wrap32] <;> omega))) | (exact needApp 256 rfl rfl (by simp) (by simp) (by omega)) | (simp <;> omega)); conv => whnf) | ((with_reducible apply GET.at); (rfl); conv => whnf) | ((with_reducible apply GETG.at); (rfl); conv => whnf) | ((with_reducible refine IF.mk (fun h => ?_) (fun h => ?_)) <;> (try simp (disch := omega) only [hsB, hsC, lnB, wrap64, wrap32, Int.reduceBEq, Int.reduceBNe, Int.reduceEq, Int.reduceNe, Int.reduceLT, Int.reduceLE, Int.reduceGT, Int.reduceGE, Int.reduceAdd, Int.reduceSub, Int.reduceMul, Int.reduceNeg, reduceCtorEq] at h) <;> (try (exfalso; omega)) <;> conv => whnf))
            exact FIN.anyA 7 h0 rfl rfl rfl ⟨rfl, rfl, rfl⟩
          | false =>
            conv => whnf
            repeat' (first | ((with_reducible refine IF.tt ?_); conv => whnf) | ((with_reducible refine IF.ff ?_); conv => whnf) | ((with_reducible refine NEED.mk ?_ ?_); (first | with_reducible rfl | omega | (simp (disch := omega) only [lnB, wrap64, wrap32] <;> omega) | (intro h; (try simp (disch := omega) only [hsB, hsC, lnB, wrap64, wrap32, Int.reduceBEq, Int.reduceBNe, Int.reduceEq, Int.reduceNe, Int.reduceLT, Int.reduceLE, Int.reduceGT, Int.reduceGE, Int.reduceAdd, Int.reduceSub, Int.reduceMul, Int.reduceNeg, reduceCtorEq] at h); (first | omega | (simp (disch := omega) only [lnB, wrap64, wrap32] <;> omega))) | (exact needApp 256 rfl rfl (by simp) (by simp) (by omega)) | (simp <;> omega)); conv => whnf) | ((with_reducible apply GET.at); (rfl); conv => whnf) | ((with_reducible apply GETG.at); (rfl); conv => whnf) | ((with_reducible refine IF.mk (fun h => ?_) (fun h => ?_)) <;> (try simp (disch := omega) only [hsB, hsC, lnB, wrap64, wrap32, Int.reduceBEq, Int.reduceBNe, Int.reduceEq, Int.reduceNe, Int.reduceLT, Int.reduceLE, Int.reduceGT, Int.reduceGE, Int.reduceAdd, Int.reduceSub, Int.reduceMul, Int.reduceNeg, reduceCtorEq] at h) <;> (try (exfalso; omega)) <;> conv => whnf))
            exact FIN.anyA 7 h0 rfl rfl rfl ⟨rfl, rfl, rfl⟩
      · repeat' (first | ((with_reducible refine IF.tt ?_); conv => whnf) | ((with_reducible refine IF.ff ?_); conv => whnf) | ((with_reducible refine NEED.mk ?_ ?_); (first | with_reducible rfl | omega | (simp (disch := omega) only [lnB, wrap64, wrap32] <;> omega) | (intro h; (try simp (disch := omega) only [hsB, hsC, lnB, wrap64, wrap32, Int.reduceBEq, Int.reduceBNe, Int.reduceEq, Int.reduceNe, Int.reduceLT, Int.reduceLE, Int.reduceGT, Int.reduceGE, Int.reduceAdd, Int.reduceSub, Int.reduceMul, Int.reduceNeg, reduceCtorEq] at h); (first | omega | (simp (disch := omega) only [lnB, wrap64, wrap32] <;> omega))) | (exact needApp 256 rfl rfl (by simp) (by simp) (by omega)) | (simp <;> omega)); conv => whnf) | ((with_reducible apply GET.at); (rfl); conv => whnf) | ((with_reducible apply GETG.at); (rfl); conv => whnf) | ((with_reducible refine IF.mk (fun h => ?_) (fun h => ?_)) <;> (try simp (disch := omega) only [hsB, hsC, lnB, wrap64, wrap32, Int.reduceBEq, Int.reduceBNe, Int.reduceEq, Int.reduceNe, Int.reduceLT, Int.reduceLE, Int.reduceGT, Int.reduceGE, Int.reduceAdd, Int.reduceSub, Int.reduceMul, Int.reduceNeg, reduceCtorEq] at h) <;> (try (exfalso; omega)) <;> conv => whnf))
        have hlast : tagP ps = true := by rw [hc0, hy, List.drop_eq_nil_of_le (by omega), extsP]; rfl
        refine FIN.anyA 7 h0 rfl rfl rfl ⟨?_, rfl, rfl⟩
        rw [hlast]; rfl
  · repeat' (first | ((with_reducible refine IF.tt ?_); conv => whnf) | ((with_reducible refine IF.ff ?_); conv => whnf) | ((with_reducible refine NEED.mk ?_ ?_); (first | with_reducible rfl | omega | (simp (disch := omega) only [lnB, wrap64, wrap32] <;> omega) | (intro h; (try simp (disch := omega) only [hsB, hsC, lnB, wrap64, wrap32, Int.reduceBEq, Int.reduceBNe, Int.reduceEq, Int.reduceNe, Int.reduceLT, Int.reduceLE, Int.reduceGT, Int.reduceGE, Int.reduceAdd, Int.reduceSub, Int.reduceMul, Int.reduceNeg, reduceCtorEq] at h); (first | omega | (simp (disch := omega) only [lnB, wrap64, wrap32] <;> omega))) | (exact needApp 256 rfl rfl (by simp) (by simp) (by omega)) | (simp <;> omega)); conv => whnf) | ((with_reducible apply GET.at); (rfl); conv => whnf) | ((with_reducible apply GETG.at); (rfl); conv => whnf) | ((with_reducible refine IF.mk (fun h => ?_) (fun h => ?_)) <;> (try simp (disch := omega) only [hsB, hsC, lnB, wrap64, wrap32, Int.reduceBEq, Int.reduceBNe, Int.reduceEq, Int.reduceNe, Int.reduceLT, Int.reduceLE, Int.reduceGT, Int.reduceGE, Int.reduceAdd, Int.reduceSub, Int.reduceMul, Int.reduceNeg, reduceCtorEq] at h) <;> (try (exfalso; omega)) <;> conv => whnf))
    have hv0 : varsP (vs.map lowerM) (ps.drop a) = some (ps.drop a, vs.map lowerM) := by
      rw [List.drop_eq_nil_of_le (by omega)]; rfl
    have hc0 : tagP ps = match extsP (vs.map lowerM) (ps.drop a) with | none => false | some l => lastP l := by rw [htag]; unfold contP; rw [hx, hv0]
    refine LOOP.go tabOK [2, 4, 5] (X := Nat × List (List UInt8)) (fun y => y.1 ≤ ps.length ∧ y.2.length ≤ y.1 ∧ (∀ x ∈ y.2, 1 ≤ x.length ∧ Sm x) ∧ extsP (vs.map lowerM) (ps.drop a) = extsP (vs.map lowerM ++ y.2.map fun x => lowerM (x.take 1)) (ps.drop y.1)) (fun y => []) (fun y => [(0, tz6), (1, tg6 L E S R 4 vs.length 5 y.2.length []), (2, .rows 1 (ps.map strRow)), (3, rd6' y.1 (ps.length - y.1)), (4, .rows 1 (vs.map strRow)), (5, .rows 1 (y.2.map strRow))]) 6 (fun y => ps.length - y.1) (a, []) ⟨by simp only; omega, by simp, by simp, by simp⟩ ?_
    conv => whnf
    refine ⟨by (refine GOES.keeping h0 [0, 1, 2, 3, 4, 5] rfl rfl rfl (by first | rfl | (simp only [belowO, belowH, plainLL_below _ (plainStrs _), Bool.and_self, Bool.and_true] <;> rfl)) ?_ ?_ <;> (repeat' (first | (with_reducible rfl) | (exact rows_eq (plainStrs _) (renLL_plain _ (plainStrs _))) | (exact rows_eq (plainStrs _) (by simp [strRow, ofVal, List.take_of_length_le])) | (exact sl_eq rfl (by simp)) | (exact congrArg (SV.int _) (by first | omega | (simp (disch := omega) only [lnB, wrap64, wrap32] <;> omega) | (simp; done) | (simp <;> omega))) | ((conv => whnf); refine ⟨?_, ?_⟩) | exact trivial | (simp only [ren, renB]; done) | rfl))), ?_⟩
    rintro ⟨b, xs⟩ ⟨hb1, hxl, hxs, hy⟩
    dsimp only at hb1 hxl hxs hy ⊢
    conv => whnf
    rcases Nat.lt_or_ge b ps.length with hbp | hbp
    · obtain ⟨u, hu⟩ : ∃ u, ps[b]? = some u := ⟨_, List.getElem?_eq_getElem hbp⟩
      have hul := hsm u (List.mem_of_getElem? hu)
      obtain ⟨k', hk'⟩ : ∃ k', ps.length - b = k' + 1 := ⟨ps.length - b - 1, by omega⟩
      clear hx hv0 hvl
      repeat' (first | ((with_reducible refine IF.tt ?_); conv => whnf) | ((with_reducible refine IF.ff ?_); conv => whnf) | (refine GET.at (row := strRow u) (by rw [List.getElem?_map, show b + (0 : Int).toNat = b by simp, hu]; rfl) ?_; conv => whnf) | (refine CALL.value (r6lower_does _ hul) rfl rfl ?_; conv => whnf) | (refine CALL.value (r6both_does _ _ _ hul) rfl rfl ?_; conv => whnf) | ((with_reducible refine NEED.mk ?_ ?_); (first | with_reducible rfl | omega | (simp (disch := omega) only [lnB, wrap64, wrap32] <;> omega) | (intro h; (try simp (disch := omega) only [hsB, hsC, lnB, wrap64, wrap32, Int.reduceBEq, Int.reduceBNe, Int.reduceEq, Int.reduceNe, Int.reduceLT, Int.reduceLE, Int.reduceGT, Int.reduceGE, Int.reduceAdd, Int.reduceSub, Int.reduceMul, Int.reduceNeg, reduceCtorEq] at h); (first | omega | (simp (disch := omega) only [lnB, wrap64, wrap32] <;> omega))) | (exact needApp 256 rfl rfl (by simp) (by simp) (by omega)) | (simp <;> omega)); conv => whnf) | ((with_reducible apply GET.at); (rfl); conv => whnf) | ((with_reducible apply GETG.at); (rfl); conv => whnf) | ((with_reducible refine IF.mk (fun h => ?_) (fun h => ?_)) <;> (try simp (disch := omega) only [hsB, hsC, lnB, wrap64, wrap32, Int.reduceBEq, Int.reduceBNe, Int.reduceEq, Int.reduceNe, Int.reduceLT, Int.reduceLE, Int.reduceGT, Int.reduceGE, Int.reduceAdd, Int.reduceSub, Int.reduceMul, Int.reduceNeg, reduceCtorEq] at h) <;> (try (exfalso; omega)) <;> conv => whnf))
      all_goals try (exact absurd (by assumption : lowerM u = [120]) (by assumption))
      · have hnp : privateM u = false := by rw [private_lower]; simpa using (by assumption : ¬ lowerM u = [120])
        have hmm : madeM u 1 1 false = true := by assumption
        have hsg : singleM u = true := by unfold singleM; rw [hmm, hnp]; rfl
        have hu1 : u.length = 1 := by have := made_len hmm; omega
        rw [hk']
        refine CALL.at [3, 2, 1, 4, 5] (extension6_does ps hb b k' (by omega) u hu hu1 L E S R vs.length [] xs hxs (by omega)) rfl rfl rfl rfl (by first | rfl | (simp only [belowO, belowH, plainLL_below _ (plainStrs _), Bool.and_self, Bool.and_true] <;> rfl)) (by first | rfl | (simp only [belowO, belowH, plainLL_below _ (plainStrs _), Bool.and_self, Bool.and_true] <;> rfl)) (by repeat' (first | exact trivial | exact (renH_plain _ (h := .rows _ _) (plainStrs _)).symm | exact rfl | exact (renH_plain _ (h := .rows _ _) (plainStrs _)).trans (renH_plain _ (h := .rows _ _) (plainStrs _)).symm | ((conv => whnf); refine ⟨?_, ?_⟩))) (by repeat' (first | exact trivial | exact (renH_plain _ (h := .rows _ _) (plainStrs _)).symm | exact rfl | exact (renH_plain _ (h := .rows _ _) (plainStrs _)).trans (renH_plain _ (h := .rows _ _) (plainStrs _)).symm | ((conv => whnf); refine ⟨?_, ?_⟩))) rfl rfl ?_
        rintro r O' nx' ⟨n, xs', hn, rfl, hz, rfl, rfl⟩
        have hnle : n ≤ (ps.drop (b + 1)).length := by rw [hn]; exact span_le _ _
        rw [List.length_drop] at hnle
        have hmem : lowerM u ∈ vs.map lowerM ++ (xs.map fun x => lowerM (x.take 1)) ↔ dupM xs u = true := by
          unfold dupM
          rw [List.mem_append, List.any_eq_true]
          constructor
          · rintro (h | h)
            · obtain ⟨v, hv, he⟩ := List.mem_map.1 h
              have h1 := (hvs v hv).1
              have h2 := congrArg List.length he
              unfold lowerM at h2; simp only [List.length_map] at h2; omega
            · obtain ⟨x, hx, he⟩ := List.mem_map.1 h
              exact ⟨x, hx, by simp [he]⟩
          · rintro ⟨x, hx, he⟩
            exact .inr (List.mem_map.2 ⟨x, hx, by simpa using he⟩)
        have hya : extsP (vs.map lowerM ++ xs.map fun x => lowerM (x.take 1)) (ps.drop b) = if n = 0 ∨ dupM xs u = true then none else extsP ((vs.map lowerM ++ xs.map fun x => lowerM (x.take 1)) ++ [lowerM u]) (ps.drop (b + 1 + n)) := by
          rw [drop_at hu, extsP, if_pos hsg, ← hn, List.drop_drop]
          simp only [hmem]
        by_cases hgood : dupM xs u = false ∧ n ≠ 0
        · obtain ⟨z, rfl, hz1, hz2⟩ := hz hgood.1
          rw [show (!dupM xs u && decide (n ≠ 0)) = true by simp [hgood]]
          conv => whnf
          repeat' (first | ((with_reducible refine IF.tt ?_); conv => whnf) | ((with_reducible refine IF.ff ?_); conv => whnf) | ((with_reducible refine NEED.mk ?_ ?_); (first | with_reducible rfl | omega | (simp (disch := omega) only [lnB, wrap64, wrap32] <;> omega) | (intro h; (try simp (disch := omega) only [hsB, hsC, lnB, wrap64, wrap32, Int.reduceBEq, Int.reduceBNe, Int.reduceEq, Int.reduceNe, Int.reduceLT, Int.reduceLE, Int.reduceGT, Int.reduceGE, Int.reduceAdd, Int.reduceSub, Int.reduceMul, Int.reduceNeg, reduceCtorEq] at h); (first | omega | (simp (disch := omega) only [lnB, wrap64, wrap32] <;> omega))) | (exact needApp 256 rfl rfl (by simp) (by simp) (by omega)) | (simp <;> omega)); conv => whnf) | ((with_reducible apply GET.at); (rfl); conv => whnf) | ((with_reducible apply GETG.at); (rfl); conv => whnf) | ((with_reducible refine IF.mk (fun h => ?_) (fun h => ?_)) <;> (try simp (disch := omega) only [hsB, hsC, lnB, wrap64, wrap32, Int.reduceBEq, Int.reduceBNe, Int.reduceEq, Int.reduceNe, Int.reduceLT, Int.reduceLE, Int.reduceGT, Int.reduceGE, Int.reduceAdd, Int.reduceSub, Int.reduceMul, Int.reduceNeg, reduceCtorEq] at h) <;> (try (exfalso; omega)) <;> conv => whnf))
          have e : (xs ++ [z]).length = xs.length + 1 := by simp
          refine ⟨(b + 1 + n, xs ++ [z]), ⟨by simp only; omega, by simp; omega, ?_, ?_⟩, by simp only; omega, ?_⟩
          · intro x hx'
            rcases List.mem_append.1 hx' with h1 | h1
            · exact hxs x h1
            · rw [List.mem_singleton.1 h1]
              refine ⟨?_, hz2⟩
              rcases z with _ | ⟨c, t⟩
              · simp at hz1; subst hz1; simp at hu1
              · simp
          · simp only
            rw [hy, hya, if_neg (by simp [hgood])]
            simp [hz1]
          · dsimp only
            rw [show ps.length - (b + 1 + n) = k' - n by omega]
            conv => whnf
            (refine GOES.keeping h0 [0, 1, 2, 3, 4, 6] rfl rfl rfl (by first | rfl | (simp only [belowO, belowH, plainLL_below _ (plainStrs _), Bool.and_self, Bool.and_true] <;> rfl)) ?_ ?_ <;> (repeat' (first | (with_reducible rfl) | (exact rows_eq (plainStrs _) (renLL_plain _ (plainStrs _))) | (exact rows_eq (plainStrs _) (by simp [strRow, ofVal, List.take_of_length_le])) | (exact sl_eq rfl (by simp)) | (exact congrArg (SV.int _) (by first | omega | (simp (disch := omega) only [lnB, wrap64, wrap32] <;> omega) | (simp; done) | (simp <;> omega))) | ((conv => whnf); refine ⟨?_, ?_⟩) | exact trivial | (simp only [ren, renB]; done) | rfl)))
        · have hbad : n = 0 ∨ dupM xs u = true := by
            rcases Nat.eq_zero_or_pos n with h | h
            · exact .inl h
            · right
              cases hd : dupM xs u with
              | true => rfl
              | false => exact absurd ⟨hd, by omega⟩ hgood
          have htf : tagP ps = false := by rw [hc0, hy, hya, if_pos hbad]
          rw [show (!dupM xs u && decide (n ≠ 0)) = false by rcases hbad with h | h <;> simp [h]]
          conv => whnf
          repeat' (first | ((with_reducible refine IF.tt ?_); conv => whnf) | ((with_reducible refine IF.ff ?_); conv => whnf) | ((with_reducible refine NEED.mk ?_ ?_); (first | with_reducible rfl | omega | (simp (disch := omega) only [lnB, wrap64, wrap32] <;> omega) | (intro h; (try simp (disch := omega) only [hsB, hsC, lnB, wrap64, wrap32, Int.reduceBEq, Int.reduceBNe, Int.reduceEq, Int.reduceNe, Int.reduceLT, Int.reduceLE, Int.reduceGT, Int.reduceGE, Int.reduceAdd, Int.reduceSub, Int.reduceMul, Int.reduceNeg, reduceCtorEq] at h); (first | omega | (simp (disch := omega) only [lnB, wrap64, wrap32] <;> omega))) | (exact needApp 256 rfl rfl (by simp) (by simp) (by omega)) | (simp <;> omega)); conv => whnf) | ((with_reducible apply GET.at); (rfl); conv => whnf) | ((with_reducible apply GETG.at); (rfl); conv => whnf) | ((with_reducible refine IF.mk (fun h => ?_) (fun h => ?_)) <;> (try simp (disch := omega) only [hsB, hsC, lnB, wrap64, wrap32, Int.reduceBEq, Int.reduceBNe, Int.reduceEq, Int.reduceNe, Int.reduceLT, Int.reduceLE, Int.reduceGT, Int.reduceGE, Int.reduceAdd, Int.reduceSub, Int.reduceMul, Int.reduceNeg, reduceCtorEq] at h) <;> (try (exfalso; omega)) <;> conv => whnf))
          refine FIN.anyA 7 h0 rfl rfl rfl ⟨?_, rfl, rfl⟩
          rw [htf]; rfl
      · have hnp : privateM u = false := by rw [private_lower]; simpa using (by assumption : ¬ lowerM u = [120])
        have hmm : madeM u 1 1 false = false := by assumption
        have hsg : ¬ singleM u = true := by unfold singleM; simp [hmm]
        have hlast : tagP ps = false := by
          rw [hc0, hy, drop_at hu, extsP, if_neg hsg]; simp only [lastP]; rw [if_neg (by simp [hnp])]
        refine FIN.anyA 7 h0 rfl rfl rfl ⟨?_, rfl, rfl⟩
        rw [hlast]; rfl
      · have hpv : privateM u = true := by rw [private_lower]; simpa using (by assumption : lowerM u = [120])
        have hsg : ¬ singleM u = true := by unfold singleM; simp [hpv]
        have hlast : tagP ps = decide (spanM (partOK 1) (ps.drop (b + 1)) ≠ 0 ∧ spanM (partOK 1) (ps.drop (b + 1)) = (ps.drop (b + 1)).length) := by
          rw [hc0, hy, drop_at hu, extsP, if_neg hsg]; simp only [lastP]; rw [if_pos hpv]
        refine CALL.at [3, 2, 1, 4, 5] (private6_does ps hb b (ps.length - b) (by omega) hbp L E S R vs.length xs.length []) rfl rfl rfl rfl (by first | rfl | (simp only [belowO, belowH, plainLL_below _ (plainStrs _), Bool.and_self, Bool.and_true] <;> rfl)) (by first | rfl | (simp only [belowO, belowH, plainLL_below _ (plainStrs _), Bool.and_self, Bool.and_true] <;> rfl)) (by repeat' (first | exact trivial | exact (renH_plain _ (h := .rows _ _) (plainStrs _)).symm | exact rfl | exact (renH_plain _ (h := .rows _ _) (plainStrs _)).trans (renH_plain _ (h := .rows _ _) (plainStrs _)).symm | ((conv => whnf); refine ⟨?_, ?_⟩))) (by repeat' (first | exact trivial | exact (renH_plain _ (h := .rows _ _) (plainStrs _)).symm | exact rfl | exact (renH_plain _ (h := .rows _ _) (plainStrs _)).trans (renH_plain _ (h := .rows _ _) (plainStrs _)).symm | ((conv => whnf); refine ⟨?_, ?_⟩))) rfl rfl ?_
        rintro r O' nx' ⟨P', rfl, rfl, rfl⟩
        rw [← hlast]
        cases htf : tagP ps with
        | true =>
          conv => whnf
          repeat' (first | ((with_reducible refine IF.tt ?_); conv => whnf) | ((with_reducible refine IF.ff ?_); conv => whnf) | ((with_reducible refine NEED.mk ?_ ?_); (first | with_reducible rfl | omega | (simp (disch := omega) only [lnB, wrap64, wrap32] <;> omega) | (intro h; (try simp (disch := omega) only [hsB, hsC, lnB, wrap64, wrap32, Int.reduceBEq, Int.reduceBNe, Int.reduceEq, Int.reduceNe, Int.reduceLT, Int.reduceLE, Int.reduceGT, Int.reduceGE, Int.reduceAdd, Int.reduceSub, Int.reduceMul, Int.reduceNeg, reduceCtorEq] at h); (first | omega | (simp (disch := omega) only [lnB, wrap64, wrap32] <;> omega))) | (exact needApp 256 rfl rfl (by simp) (by simp) (by omega)) | (simp <;> omega)); conv => whnf) | ((with_reducible apply GET.at); (rfl); conv => whnf) | ((with_reducible apply GETG.at); (rfl); conv => whnf) | ((with_reducible refine IF.mk (fun h => ?_) (fun h => ?_)) <;> (try simp (disch := omega) only [hsB, hsC, lnB, wrap64, wrap32, Int.reduceBEq, Int.reduceBNe, Int.reduceEq, Int.reduceNe, Int.reduceLT, Int.reduceLE, Int.reduceGT, Int.reduceGE, Int.reduceAdd, Int.reduceSub, Int.reduceMul, Int.reduceNeg, reduceCtorEq] at h) <;> (try (exfalso; omega)) <;> conv => whnf))
          exact FIN.anyA 7 h0 rfl rfl rfl ⟨rfl, rfl, rfl⟩
        | false =>
          conv => whnf
          repeat' (first | ((with_reducible refine IF.tt ?_); conv => whnf) | ((with_reducible refine IF.ff ?_); conv => whnf) | ((with_reducible refine NEED.mk ?_ ?_); (first | with_reducible rfl | omega | (simp (disch := omega) only [lnB, wrap64, wrap32] <;> omega) | (intro h; (try simp (disch := omega) only [hsB, hsC, lnB, wrap64, wrap32, Int.reduceBEq, Int.reduceBNe, Int.reduceEq, Int.reduceNe, Int.reduceLT, Int.reduceLE, Int.reduceGT, Int.reduceGE, Int.reduceAdd, Int.reduceSub, Int.reduceMul, Int.reduceNeg, reduceCtorEq] at h); (first | omega | (simp (disch := omega) only [lnB, wrap64, wrap32] <;> omega))) | (exact needApp 256 rfl rfl (by simp) (by simp) (by omega)) | (simp <;> omega)); conv => whnf) | ((with_reducible apply GET.at); (rfl); conv => whnf) | ((with_reducible apply GETG.at); (rfl); conv => whnf) | ((with_reducible refine IF.mk (fun h => ?_) (fun h => ?_)) <;> (try simp (disch := omega) only [hsB, hsC, lnB, wrap64, wrap32, Int.reduceBEq, Int.reduceBNe, Int.reduceEq, Int.reduceNe, Int.reduceLT, Int.reduceLE, Int.reduceGT, Int.reduceGE, Int.reduceAdd, Int.reduceSub, Int.reduceMul, Int.reduceNeg, reduceCtorEq] at h) <;> (try (exfalso; omega)) <;> conv => whnf))
          exact FIN.anyA 7 h0 rfl rfl rfl ⟨rfl, rfl, rfl⟩
    · repeat' (first | ((with_reducible refine IF.tt ?_); conv => whnf) | ((with_reducible refine IF.ff ?_); conv => whnf) | ((with_reducible refine NEED.mk ?_ ?_); (first | with_reducible rfl | omega | (simp (disch := omega) only [lnB, wrap64, wrap32] <;> omega) | (intro h; (try simp (disch := omega) only [hsB, hsC, lnB, wrap64, wrap32, Int.reduceBEq, Int.reduceBNe, Int.reduceEq, Int.reduceNe, Int.reduceLT, Int.reduceLE, Int.reduceGT, Int.reduceGE, Int.reduceAdd, Int.reduceSub, Int.reduceMul, Int.reduceNeg, reduceCtorEq] at h); (first | omega | (simp (disch := omega) only [lnB, wrap64, wrap32] <;> omega))) | (exact needApp 256 rfl rfl (by simp) (by simp) (by omega)) | (simp <;> omega)); conv => whnf) | ((with_reducible apply GET.at); (rfl); conv => whnf) | ((with_reducible apply GETG.at); (rfl); conv => whnf) | ((with_reducible refine IF.mk (fun h => ?_) (fun h => ?_)) <;> (try simp (disch := omega) only [hsB, hsC, lnB, wrap64, wrap32, Int.reduceBEq, Int.reduceBNe, Int.reduceEq, Int.reduceNe, Int.reduceLT, Int.reduceLE, Int.reduceGT, Int.reduceGE, Int.reduceAdd, Int.reduceSub, Int.reduceMul, Int.reduceNeg, reduceCtorEq] at h) <;> (try (exfalso; omega)) <;> conv => whnf))
      have hlast : tagP ps = true := by rw [hc0, hy, List.drop_eq_nil_of_le (by omega), extsP]; rfl
      refine FIN.anyA 7 h0 rfl rfl rfl ⟨?_, rfl, rfl⟩
      rw [hlast]; rfl
end Go.Proofs.YtamnapaephmpmaaGreatDoor
/- term and its reference: Check and CheckQuad, walked. Conditions: none. -/
set_option linter.unusedVariables false
set_option linter.unusedSimpArgs false
set_option maxRecDepth 20000
namespace Go.Proofs.YtamnapaephmpmaaGreatDoor
open Go.Sx Go.Our
theorem literal_does (k : Int) (t y l : List UInt8) (ht : Sm t) (hy : Sm y) (hl : Sm l) : Does Tryz.prog tab 29 0 [.agg [.int .i64 k, .str t, .str y, .str l]] [] [] (Val (.int .i64 (litM t y l))) := by
  refine Does.enter tabOK (g := 29) (fn := Tryz.f29) Tryz.call29 Tryz.func29 rfl 55 rfl rfl [.tmp 2] rfl ?_
  intro w0 F η0 h0
  conv => whnf
  repeat' (first | ((with_reducible refine IF.tt ?_); conv => whnf) | ((with_reducible refine IF.ff ?_); conv => whnf) | (refine DRAWN.of (id := 12) tabOK mixed (planOf [(0, 1), (1, 1), (2, 1), (3, 1), (6, 1), (4, 2), (7, 2), (5, 3), (8, 1), (9, 1)]) (by kernel_rfl) ?_; conv => whnf) | ((with_reducible refine ADD.mk (fun _ _ => ?_)); conv => whnf) | ((with_reducible refine NEED.mk (Det.of rfl) ?_); conv => whnf) | ((with_reducible refine FORK.mk ?_ ?_) <;> conv => whnf) | (refine CALL.value (check_does _ ht) rfl rfl ?_; conv => whnf) | (refine CALL.value (iriCheck_does _ hy) rfl rfl ?_; conv => whnf) | (refine CALL.value (tag_does _ (by omega)) rfl rfl ?_; conv => whnf) | (refine CALL.value (lower_does _ hl) rfl rfl ?_; conv => whnf) | (refine CALL.look1 2 (cmpOrErr_does [(if tagP (splitM l) = true then 0 else 61), 61] (by simp)) rfl rfl rfl rfl rfl rfl ?_; conv => whnf) | ((with_reducible refine NEED.mk ?_ ?_); (first | with_reducible rfl | omega | (simp (disch := omega) only [lnB, wrap64, wrap32] <;> omega) | (intro h; (try simp (disch := omega) only [hsB, hsC, lnB, wrap64, wrap32, Int.reduceBEq, Int.reduceBNe, Int.reduceEq, Int.reduceNe, Int.reduceLT, Int.reduceLE, Int.reduceGT, Int.reduceGE, Int.reduceAdd, Int.reduceSub, Int.reduceMul, Int.reduceNeg, reduceCtorEq] at h); (first | omega | (simp (disch := omega) only [lnB, wrap64, wrap32] <;> omega))) | (exact needApp 256 rfl rfl (by simp) (by simp) (by omega)) | (simp <;> omega)); conv => whnf) | ((with_reducible apply GET.at); (rfl); conv => whnf) | ((with_reducible apply GETG.at); (rfl); conv => whnf) | ((with_reducible refine IF.mk (fun h => ?_) (fun h => ?_)) <;> (try simp (disch := omega) only [hsB, hsC, lnB, wrap64, wrap32, Int.reduceBEq, Int.reduceBNe, Int.reduceEq, Int.reduceNe, Int.reduceLT, Int.reduceLE, Int.reduceGT, Int.reduceGE, Int.reduceAdd, Int.reduceSub, Int.reduceMul, Int.reduceNeg, reduceCtorEq] at h) <;> (try (exfalso; omega)) <;> conv => whnf))
  all_goals
    refine FIN.value h0 rfl (congrArg (SV.int _) ?_)
    by_cases hy0 : y = taggedB
    · have hyb : (y == taggedB) = true := by simp [hy0]
      unfold taggedB at hyb
      try rw [hyb] at h
      by_cases htg : tagP (splitM l) = true <;> by_cases hlw : lowerM l = l <;> by_cases hl0 : l = [] <;> simp_all [litM, taggedB, orE] <;> omega
    · have hyb : (y == taggedB) = false := by simp [hy0]
      unfold taggedB at hyb
      try rw [hyb] at h
      by_cases htg : tagP (splitM l) = true <;> by_cases hlw : lowerM l = l <;> by_cases hl0 : l = [] <;> simp_all [litM, taggedB, orE] <;> omega
theorem tcheck_does (x : Tm) (hx : TmSm x) : Does Tryz.prog tab 23 0 [.agg [.int .i64 x.k, .str x.t, .str x.y, .str x.l]] [] [] (Val (.int .i64 (checkM x))) := by
  obtain ⟨ht, hy, hl⟩ := hx
  obtain ⟨k, t, y, l⟩ := x
  dsimp only at ht hy hl ⊢
  refine Does.enter tabOK (g := 23) (fn := Tryz.f23) Tryz.call23 Tryz.func23 rfl 33 rfl rfl [.tmp 2] rfl ?_
  intro w0 F η0 h0
  conv => whnf
  repeat' (first | ((with_reducible refine IF.tt ?_); conv => whnf) | ((with_reducible refine IF.ff ?_); conv => whnf) | (refine CALL.value (literal_does _ _ _ _ ht hy hl) rfl rfl ?_; conv => whnf) | (refine CALL.value (iriCheck_does _ ht) rfl rfl ?_; conv => whnf) | (refine CALL.value (nLabel_does _ ht) rfl rfl ?_; conv => whnf) | ((with_reducible refine NEED.mk ?_ ?_); (first | with_reducible rfl | omega | (simp (disch := omega) only [lnB, wrap64, wrap32] <;> omega) | (intro h; (try simp (disch := omega) only [hsB, hsC, lnB, wrap64, wrap32, Int.reduceBEq, Int.reduceBNe, Int.reduceEq, Int.reduceNe, Int.reduceLT, Int.reduceLE, Int.reduceGT, Int.reduceGE, Int.reduceAdd, Int.reduceSub, Int.reduceMul, Int.reduceNeg, reduceCtorEq] at h); (first | omega | (simp (disch := omega) only [lnB, wrap64, wrap32] <;> omega))) | (exact needApp 256 rfl rfl (by simp) (by simp) (by omega)) | (simp <;> omega)); conv => whnf) | ((with_reducible apply GET.at); (rfl); conv => whnf) | ((with_reducible apply GETG.at); (rfl); conv => whnf) | ((with_reducible refine IF.mk (fun h => ?_) (fun h => ?_)) <;> (try simp (disch := omega) only [hsB, hsC, lnB, wrap64, wrap32, Int.reduceBEq, Int.reduceBNe, Int.reduceEq, Int.reduceNe, Int.reduceLT, Int.reduceLE, Int.reduceGT, Int.reduceGE, Int.reduceAdd, Int.reduceSub, Int.reduceMul, Int.reduceNeg, reduceCtorEq] at h) <;> (try (exfalso; omega)) <;> conv => whnf))
  all_goals
    refine FIN.value h0 rfl (congrArg (SV.int _) ?_)
    unfold checkM
    first
      | (simp_all; done)
      | (simp_all <;> omega)
theorem stands0_does (x : Tm) : Does Tryz.prog tab 22 0 [.int .i64 0, .agg [.int .i64 x.k, .str x.t, .str x.y, .str x.l]] [] [] (Val (.bool (decide (x.k = 1 ∨ x.k = 2)))) := by
  refine Does.enter tabOK (g := 22) (fn := Tryz.f22) Tryz.call22 Tryz.func22 rfl 49 rfl rfl [.tmp 4] rfl ?_
  intro w0 F η0 h0
  conv => whnf
  repeat' (first | ((with_reducible refine IF.tt ?_); conv => whnf) | ((with_reducible refine IF.ff ?_); conv => whnf) | ((with_reducible refine NEED.mk ?_ ?_); (first | with_reducible rfl | omega | (simp (disch := omega) only [lnB, wrap64, wrap32] <;> omega) | (intro h; (try simp (disch := omega) only [hsB, hsC, lnB, wrap64, wrap32, Int.reduceBEq, Int.reduceBNe, Int.reduceEq, Int.reduceNe, Int.reduceLT, Int.reduceLE, Int.reduceGT, Int.reduceGE, Int.reduceAdd, Int.reduceSub, Int.reduceMul, Int.reduceNeg, reduceCtorEq] at h); (first | omega | (simp (disch := omega) only [lnB, wrap64, wrap32] <;> omega))) | (exact needApp 256 rfl rfl (by simp) (by simp) (by omega)) | (simp <;> omega)); conv => whnf) | ((with_reducible apply GET.at); (rfl); conv => whnf) | ((with_reducible apply GETG.at); (rfl); conv => whnf) | ((with_reducible refine IF.mk (fun h => ?_) (fun h => ?_)) <;> (try simp (disch := omega) only [hsB, hsC, lnB, wrap64, wrap32, Int.reduceBEq, Int.reduceBNe, Int.reduceEq, Int.reduceNe, Int.reduceLT, Int.reduceLE, Int.reduceGT, Int.reduceGE, Int.reduceAdd, Int.reduceSub, Int.reduceMul, Int.reduceNeg, reduceCtorEq] at h) <;> (try (exfalso; omega)) <;> conv => whnf))
  all_goals
    refine FIN.value h0 rfl (congrArg SV.bool ?_)
    by_cases h1 : x.k = 1 <;> by_cases h2 : x.k = 2 <;> simp_all
theorem stands1_does (x : Tm) : Does Tryz.prog tab 22 0 [.int .i64 1, .agg [.int .i64 x.k, .str x.t, .str x.y, .str x.l]] [] [] (Val (.bool (decide (x.k = 1)))) := by
  refine Does.enter tabOK (g := 22) (fn := Tryz.f22) Tryz.call22 Tryz.func22 rfl 49 rfl rfl [.tmp 4] rfl ?_
  intro w0 F η0 h0
  conv => whnf
  repeat' (first | ((with_reducible refine IF.tt ?_); conv => whnf) | ((with_reducible refine IF.ff ?_); conv => whnf) | ((with_reducible refine NEED.mk ?_ ?_); (first | with_reducible rfl | omega | (simp (disch := omega) only [lnB, wrap64, wrap32] <;> omega) | (intro h; (try simp (disch := omega) only [hsB, hsC, lnB, wrap64, wrap32, Int.reduceBEq, Int.reduceBNe, Int.reduceEq, Int.reduceNe, Int.reduceLT, Int.reduceLE, Int.reduceGT, Int.reduceGE, Int.reduceAdd, Int.reduceSub, Int.reduceMul, Int.reduceNeg, reduceCtorEq] at h); (first | omega | (simp (disch := omega) only [lnB, wrap64, wrap32] <;> omega))) | (exact needApp 256 rfl rfl (by simp) (by simp) (by omega)) | (simp <;> omega)); conv => whnf) | ((with_reducible apply GET.at); (rfl); conv => whnf) | ((with_reducible apply GETG.at); (rfl); conv => whnf) | ((with_reducible refine IF.mk (fun h => ?_) (fun h => ?_)) <;> (try simp (disch := omega) only [hsB, hsC, lnB, wrap64, wrap32, Int.reduceBEq, Int.reduceBNe, Int.reduceEq, Int.reduceNe, Int.reduceLT, Int.reduceLE, Int.reduceGT, Int.reduceGE, Int.reduceAdd, Int.reduceSub, Int.reduceMul, Int.reduceNeg, reduceCtorEq] at h) <;> (try (exfalso; omega)) <;> conv => whnf))
  all_goals
    refine FIN.value h0 rfl (congrArg SV.bool ?_)
    by_cases h1 : x.k = 1 <;> simp_all
theorem stands2_does (x : Tm) : Does Tryz.prog tab 22 0 [.int .i64 2, .agg [.int .i64 x.k, .str x.t, .str x.y, .str x.l]] [] [] (Val (.bool (decide (x.k = 1 ∨ x.k = 2 ∨ x.k = 3)))) := by
  refine Does.enter tabOK (g := 22) (fn := Tryz.f22) Tryz.call22 Tryz.func22 rfl 49 rfl rfl [.tmp 4] rfl ?_
  intro w0 F η0 h0
  conv => whnf
  repeat' (first | ((with_reducible refine IF.tt ?_); conv => whnf) | ((with_reducible refine IF.ff ?_); conv => whnf) | ((with_reducible refine NEED.mk ?_ ?_); (first | with_reducible rfl | omega | (simp (disch := omega) only [lnB, wrap64, wrap32] <;> omega) | (intro h; (try simp (disch := omega) only [hsB, hsC, lnB, wrap64, wrap32, Int.reduceBEq, Int.reduceBNe, Int.reduceEq, Int.reduceNe, Int.reduceLT, Int.reduceLE, Int.reduceGT, Int.reduceGE, Int.reduceAdd, Int.reduceSub, Int.reduceMul, Int.reduceNeg, reduceCtorEq] at h); (first | omega | (simp (disch := omega) only [lnB, wrap64, wrap32] <;> omega))) | (exact needApp 256 rfl rfl (by simp) (by simp) (by omega)) | (simp <;> omega)); conv => whnf) | ((with_reducible apply GET.at); (rfl); conv => whnf) | ((with_reducible apply GETG.at); (rfl); conv => whnf) | ((with_reducible refine IF.mk (fun h => ?_) (fun h => ?_)) <;> (try simp (disch := omega) only [hsB, hsC, lnB, wrap64, wrap32, Int.reduceBEq, Int.reduceBNe, Int.reduceEq, Int.reduceNe, Int.reduceLT, Int.reduceLE, Int.reduceGT, Int.reduceGE, Int.reduceAdd, Int.reduceSub, Int.reduceMul, Int.reduceNeg, reduceCtorEq] at h) <;> (try (exfalso; omega)) <;> conv => whnf))
  all_goals
    refine FIN.value h0 rfl (congrArg SV.bool ?_)
    by_cases h1 : x.k = 1 <;> by_cases h2 : x.k = 2 <;> by_cases h3 : x.k = 3 <;> simp_all
theorem stands3_does (x : Tm) : Does Tryz.prog tab 22 0 [.int .i64 3, .agg [.int .i64 x.k, .str x.t, .str x.y, .str x.l]] [] [] (Val (.bool (decide (x.k = 1 ∨ x.k = 2 ∨ x = zeroTm)))) := by
  obtain ⟨k, t, y, l⟩ := x
  dsimp only
  refine Does.enter tabOK (g := 22) (fn := Tryz.f22) Tryz.call22 Tryz.func22 rfl 49 rfl rfl [.tmp 4] rfl ?_
  intro w0 F η0 h0
  conv => whnf
  repeat' (first | ((with_reducible refine IF.tt ?_); conv => whnf) | ((with_reducible refine IF.ff ?_); conv => whnf) | ((with_reducible refine NEED.mk ?_ ?_); (first | with_reducible rfl | omega | (simp (disch := omega) only [lnB, wrap64, wrap32] <;> omega) | (intro h; (try simp (disch := omega) only [hsB, hsC, lnB, wrap64, wrap32, Int.reduceBEq, Int.reduceBNe, Int.reduceEq, Int.reduceNe, Int.reduceLT, Int.reduceLE, Int.reduceGT, Int.reduceGE, Int.reduceAdd, Int.reduceSub, Int.reduceMul, Int.reduceNeg, reduceCtorEq] at h); (first | omega | (simp (disch := omega) only [lnB, wrap64, wrap32] <;> omega))) | (exact needApp 256 rfl rfl (by simp) (by simp) (by omega)) | (simp <;> omega)); conv => whnf) | ((with_reducible apply GET.at); (rfl); conv => whnf) | ((with_reducible apply GETG.at); (rfl); conv => whnf) | ((with_reducible refine IF.mk (fun h => ?_) (fun h => ?_)) <;> (try simp (disch := omega) only [hsB, hsC, lnB, wrap64, wrap32, Int.reduceBEq, Int.reduceBNe, Int.reduceEq, Int.reduceNe, Int.reduceLT, Int.reduceLE, Int.reduceGT, Int.reduceGE, Int.reduceAdd, Int.reduceSub, Int.reduceMul, Int.reduceNeg, reduceCtorEq] at h) <;> (try (exfalso; omega)) <;> conv => whnf))
  all_goals
    refine FIN.value h0 rfl (congrArg SV.bool ?_)
    unfold zeroTm
    by_cases h1 : k = 1 <;> by_cases h2 : k = 2 <;> by_cases h3 : k = 0 <;> cases t <;> cases y <;> cases l <;> simp_all
theorem tcheckQuad_does (q : Qd) (hq : QdSm q) : Does Tryz.prog tab 17 0 [q.sv] [] [] (Val (.int .i64 (cquadM q))) := by
  obtain ⟨hs, hp, ho, hg⟩ := hq
  unfold Qd.sv
  refine Does.enter tabOK (g := 17) (fn := Tryz.f17) Tryz.call17 Tryz.func17 rfl 36 rfl rfl [.tmp 2] rfl ?_
  intro w0 F η0 h0
  conv => whnf
  repeat' (first | ((with_reducible refine IF.tt ?_); conv => whnf) | ((with_reducible refine IF.ff ?_); conv => whnf) | (refine LOOP.once tabOK ?_; conv => whnf) | (refine CALL.value (stands0_does q.s) rfl rfl ?_; conv => whnf) | (refine CALL.value (stands1_does q.p) rfl rfl ?_; conv => whnf) | (refine CALL.value (stands2_does q.o) rfl rfl ?_; conv => whnf) | (refine CALL.value (stands3_does q.g) rfl rfl ?_; conv => whnf) | (refine CALL.value (tcheck_does q.s hs) rfl rfl ?_; conv => whnf) | (refine CALL.value (tcheck_does q.p hp) rfl rfl ?_; conv => whnf) | (refine CALL.value (tcheck_does q.o ho) rfl rfl ?_; conv => whnf) | (refine CALL.value (tcheck_does q.g hg) rfl rfl ?_; conv => whnf) | ((with_reducible refine NEED.mk ?_ ?_); (first | with_reducible rfl | omega | (simp (disch := omega) only [lnB, wrap64, wrap32] <;> omega) | (intro h; (try simp (disch := omega) only [hsB, hsC, lnB, wrap64, wrap32, Int.reduceBEq, Int.reduceBNe, Int.reduceEq, Int.reduceNe, Int.reduceLT, Int.reduceLE, Int.reduceGT, Int.reduceGE, Int.reduceAdd, Int.reduceSub, Int.reduceMul, Int.reduceNeg, reduceCtorEq] at h); (first | omega | (simp (disch := omega) only [lnB, wrap64, wrap32] <;> omega))) | (exact needApp 256 rfl rfl (by simp) (by simp) (by omega)) | (simp <;> omega)); conv => whnf) | ((with_reducible apply GET.at); (rfl); conv => whnf) | ((with_reducible apply GETG.at); (rfl); conv => whnf) | ((with_reducible refine IF.mk (fun h => ?_) (fun h => ?_)) <;> (try simp (disch := omega) only [hsB, hsC, lnB, wrap64, wrap32, Int.reduceBEq, Int.reduceBNe, Int.reduceEq, Int.reduceNe, Int.reduceLT, Int.reduceLE, Int.reduceGT, Int.reduceGE, Int.reduceAdd, Int.reduceSub, Int.reduceMul, Int.reduceNeg, reduceCtorEq] at h) <;> (try (exfalso; omega)) <;> conv => whnf))
  all_goals
    refine FIN.value h0 rfl (congrArg (SV.int _) ?_)
    have hco := @check_other q.o
    have hz : q.g = zeroTm → q.g.k = 0 := fun h => by rw [h]; rfl
    unfold cquadM
    clear hs hp ho hg
    by_cases hgz : q.g = zeroTm
    · have := hz hgz; simp_all
    · by_cases g1 : q.g.k = 1
      · simp_all
      · by_cases g2 : q.g.k = 2
        · simp_all
        · simp_all
end Go.Proofs.YtamnapaephmpmaaGreatDoor
/- The reference's Check and CheckQuad, walked. Conditions: none. -/
set_option linter.unusedVariables false
set_option linter.unusedSimpArgs false
set_option maxRecDepth 20000
namespace Go.Proofs.YtamnapaephmpmaaGreatDoor
open Go.Sx Go.Our
theorem rliteral_does (k : Int) (t y l : List UInt8) (ht : Sm t) (hy : Sm y) (hl : Sm l) : Does Tryz.prog tab 26 0 [.agg [.int .i64 k, .str t, .str y, .str l]] [] [] (Val (.int .i64 (litM t y l))) := by
  refine Does.enter tabOK (g := 26) (fn := Tryz.f26) Tryz.call26 Tryz.func26 rfl 61 rfl rfl [.tmp 2] rfl ?_
  intro w0 F η0 h0
  conv => whnf
  repeat' (first | ((with_reducible refine IF.tt ?_); conv => whnf) | ((with_reducible refine IF.ff ?_); conv => whnf) | (refine CALL.value (ref04Check_does _ ht) rfl rfl ?_; conv => whnf) | (refine CALL.value (ref05Check_does _ hy) rfl rfl ?_; conv => whnf) | (refine CALL.value (tag6_does _ (by omega)) rfl rfl ?_; conv => whnf) | ((with_reducible refine NEED.mk ?_ ?_); (first | with_reducible rfl | omega | (simp (disch := omega) only [lnB, wrap64, wrap32] <;> omega) | (intro h; (try simp (disch := omega) only [hsB, hsC, lnB, wrap64, wrap32, Int.reduceBEq, Int.reduceBNe, Int.reduceEq, Int.reduceNe, Int.reduceLT, Int.reduceLE, Int.reduceGT, Int.reduceGE, Int.reduceAdd, Int.reduceSub, Int.reduceMul, Int.reduceNeg, reduceCtorEq] at h); (first | omega | (simp (disch := omega) only [lnB, wrap64, wrap32] <;> omega))) | (exact needApp 256 rfl rfl (by simp) (by simp) (by omega)) | (simp <;> omega)); conv => whnf) | ((with_reducible apply GET.at); (rfl); conv => whnf) | ((with_reducible apply GETG.at); (rfl); conv => whnf) | ((with_reducible refine IF.mk (fun h => ?_) (fun h => ?_)) <;> (try simp (disch := omega) only [hsB, hsC, lnB, wrap64, wrap32, Int.reduceBEq, Int.reduceBNe, Int.reduceEq, Int.reduceNe, Int.reduceLT, Int.reduceLE, Int.reduceGT, Int.reduceGE, Int.reduceAdd, Int.reduceSub, Int.reduceMul, Int.reduceNeg, reduceCtorEq] at h) <;> (try (exfalso; omega)) <;> conv => whnf))
  all_goals try
    (refine FIN.value h0 rfl (congrArg (SV.int _) ?_)
     by_cases hy0 : y = taggedB
     · have hyb : (y == taggedB) = true := by simp [hy0]
       unfold taggedB at hyb
       try rw [hyb] at h
       by_cases htg : tagP (splitM l) = true <;> by_cases hlw : lowerM l = l <;> by_cases hl0 : l = [] <;> simp_all [litM, taggedB, orE] <;> omega
     · have hyb : (y == taggedB) = false := by simp [hy0]
       unfold taggedB at hyb
       try rw [hyb] at h
       by_cases htg : tagP (splitM l) = true <;> by_cases hlw : lowerM l = l <;> by_cases hl0 : l = [] <;> simp_all [litM, taggedB, orE] <;> omega)
  have htg : tagP (splitM l) = true := by
    cases h1 : tagP (splitM l) with
    | true => rfl
    | false => rw [h1] at h; simp at h
  refine LOOP.go tabOK [1] (X := Nat) (fun i => i ≤ l.length ∧ ∀ j : Nat, j < i → ¬ (65 ≤ byteAt l j ∧ byteAt l j ≤ 90)) (fun i => [(4, .int .i64 (i : Int))]) (fun i => [(0, .box [.int .i64 k, .str t, .str y, .str l])]) 1 (fun i => l.length - i) 0 ⟨by omega, fun j h => by omega⟩ ?_
  conv => whnf
  refine ⟨by (refine GOES.cutting h0 rfl rfl rfl (by first | rfl | simp [belowO, belowH, plainLL_below, plainLL_map, plainL, plain]) ?_ ?_ <;> (repeat' (first | (with_reducible rfl) | (exact congrArg (fun n => SV.sl _ _ _ n _) (by simp)) | (exact congrArg (Hp.rows _) (by simp)) | (exact congrArg (SV.int _) (by first | omega | (simp (disch := omega) only [lnB, wrap64, wrap32] <;> omega) | (simp; done) | (simp <;> omega))) | ((conv => whnf); refine ⟨?_, ?_⟩) | exact trivial | (simp; done) | rfl))), ?_⟩
  rintro i ⟨hi, hc⟩
  conv => whnf
  repeat' (first | ((with_reducible refine IF.tt ?_); conv => whnf) | ((with_reducible refine IF.ff ?_); conv => whnf) | ((with_reducible refine NEED.mk ?_ ?_); (first | with_reducible rfl | omega | (simp (disch := omega) only [lnB, wrap64, wrap32] <;> omega) | (intro h; (try simp (disch := omega) only [hsB, hsC, lnB, wrap64, wrap32, Int.reduceBEq, Int.reduceBNe, Int.reduceEq, Int.reduceNe, Int.reduceLT, Int.reduceLE, Int.reduceGT, Int.reduceGE, Int.reduceAdd, Int.reduceSub, Int.reduceMul, Int.reduceNeg, reduceCtorEq] at h); (first | omega | (simp (disch := omega) only [lnB, wrap64, wrap32] <;> omega))) | (exact needApp 256 rfl rfl (by simp) (by simp) (by omega)) | (simp <;> omega)); conv => whnf) | ((with_reducible apply GET.at); (rfl); conv => whnf) | ((with_reducible apply GETG.at); (rfl); conv => whnf) | ((with_reducible refine IF.mk (fun h => ?_) (fun h => ?_)) <;> (try simp (disch := omega) only [hsB, hsC, lnB, wrap64, wrap32, Int.reduceBEq, Int.reduceBNe, Int.reduceEq, Int.reduceNe, Int.reduceLT, Int.reduceLE, Int.reduceGT, Int.reduceGE, Int.reduceAdd, Int.reduceSub, Int.reduceMul, Int.reduceNeg, reduceCtorEq] at h) <;> (try (exfalso; omega)) <;> conv => whnf))
  · have hlw : lowerM l ≠ l := lower_up (i := i) (by omega) h
    refine FIN.value h0 rfl (congrArg (SV.int _) ?_)
    simp_all [litM] <;> omega
  · refine ⟨i + 1, ⟨by omega, fun j hj => ?_⟩, by omega, ?_⟩
    · by_cases he : j = i
      · subst he; omega
      · exact hc j (by omega)
    · conv => whnf
      (refine GOES.cutting h0 rfl rfl rfl (by first | rfl | simp [belowO, belowH, plainLL_below, plainLL_map, plainL, plain]) ?_ ?_ <;> (repeat' (first | (with_reducible rfl) | (exact congrArg (fun n => SV.sl _ _ _ n _) (by simp)) | (exact congrArg (Hp.rows _) (by simp)) | (exact congrArg (SV.int _) (by first | omega | (simp (disch := omega) only [lnB, wrap64, wrap32] <;> omega) | (simp; done) | (simp <;> omega))) | ((conv => whnf); refine ⟨?_, ?_⟩) | exact trivial | (simp; done) | rfl)))
  all_goals
    have hlw : lowerM l = l := lower_same fun j hj => hc j (by omega)
    refine FIN.value h0 rfl (congrArg (SV.int _) ?_)
    by_cases hy0 : y = taggedB
    · have hyb : (y == taggedB) = true := by simp [hy0]
      unfold taggedB at hyb
      try rw [hyb] at h
      by_cases hl0 : l = [] <;> simp_all [litM, taggedB, orE] <;> omega
    · have hyb : (y == taggedB) = false := by simp [hy0]
      unfold taggedB at hyb
      try rw [hyb] at h
      by_cases hl0 : l = [] <;> simp_all [litM, taggedB, orE] <;> omega
theorem rcheck_does (x : Tm) (hx : TmSm x) : Does Tryz.prog tab 18 0 [.agg [.int .i64 x.k, .str x.t, .str x.y, .str x.l]] [] [] (Val (.int .i64 (checkM x))) := by
  obtain ⟨ht, hy, hl⟩ := hx
  obtain ⟨k, t, y, l⟩ := x
  dsimp only at ht hy hl ⊢
  refine Does.enter tabOK (g := 18) (fn := Tryz.f18) Tryz.call18 Tryz.func18 rfl 33 rfl rfl [.tmp 2] rfl ?_
  intro w0 F η0 h0
  conv => whnf
  repeat' (first | ((with_reducible refine IF.tt ?_); conv => whnf) | ((with_reducible refine IF.ff ?_); conv => whnf) | (refine CALL.value (rliteral_does _ _ _ _ ht hy hl) rfl rfl ?_; conv => whnf) | (refine CALL.value (ref05Check_does _ ht) rfl rfl ?_; conv => whnf) | (refine CALL.value (r6Label_does _ (by omega)) rfl rfl ?_; conv => whnf) | ((with_reducible refine NEED.mk ?_ ?_); (first | with_reducible rfl | omega | (simp (disch := omega) only [lnB, wrap64, wrap32] <;> omega) | (intro h; (try simp (disch := omega) only [hsB, hsC, lnB, wrap64, wrap32, Int.reduceBEq, Int.reduceBNe, Int.reduceEq, Int.reduceNe, Int.reduceLT, Int.reduceLE, Int.reduceGT, Int.reduceGE, Int.reduceAdd, Int.reduceSub, Int.reduceMul, Int.reduceNeg, reduceCtorEq] at h); (first | omega | (simp (disch := omega) only [lnB, wrap64, wrap32] <;> omega))) | (exact needApp 256 rfl rfl (by simp) (by simp) (by omega)) | (simp <;> omega)); conv => whnf) | ((with_reducible apply GET.at); (rfl); conv => whnf) | ((with_reducible apply GETG.at); (rfl); conv => whnf) | ((with_reducible refine IF.mk (fun h => ?_) (fun h => ?_)) <;> (try simp (disch := omega) only [hsB, hsC, lnB, wrap64, wrap32, Int.reduceBEq, Int.reduceBNe, Int.reduceEq, Int.reduceNe, Int.reduceLT, Int.reduceLE, Int.reduceGT, Int.reduceGE, Int.reduceAdd, Int.reduceSub, Int.reduceMul, Int.reduceNeg, reduceCtorEq] at h) <;> (try (exfalso; omega)) <;> conv => whnf))
  all_goals
    refine FIN.value h0 rfl (congrArg (SV.int _) ?_)
    have hle := label_eq t
    unfold checkM
    first
      | (simp_all; done)
      | (simp_all <;> omega)
theorem rcheckQuad_does (q : Qd) (hq : QdSm q) : Does Tryz.prog tab 8 0 [q.sv] [] [] (Val (.int .i64 (cquadM q))) := by
  obtain ⟨hs, hp, ho, hg⟩ := hq
  unfold Qd.sv
  refine Does.enter tabOK (g := 8) (fn := Tryz.f8) Tryz.call8 Tryz.func8 rfl 53 rfl rfl [.tmp 2] rfl ?_
  intro w0 F η0 h0
  conv => whnf
  repeat' (first | ((with_reducible refine IF.tt ?_); conv => whnf) | ((with_reducible refine IF.ff ?_); conv => whnf) | (refine CALL.value (rcheck_does q.s hs) rfl rfl ?_; conv => whnf) | (refine CALL.value (rcheck_does q.p hp) rfl rfl ?_; conv => whnf) | (refine CALL.value (rcheck_does q.o ho) rfl rfl ?_; conv => whnf) | (refine CALL.value (rcheck_does q.g hg) rfl rfl ?_; conv => whnf) | ((with_reducible refine NEED.mk ?_ ?_); (first | with_reducible rfl | omega | (simp (disch := omega) only [lnB, wrap64, wrap32] <;> omega) | (intro h; (try simp (disch := omega) only [hsB, hsC, lnB, wrap64, wrap32, Int.reduceBEq, Int.reduceBNe, Int.reduceEq, Int.reduceNe, Int.reduceLT, Int.reduceLE, Int.reduceGT, Int.reduceGE, Int.reduceAdd, Int.reduceSub, Int.reduceMul, Int.reduceNeg, reduceCtorEq] at h); (first | omega | (simp (disch := omega) only [lnB, wrap64, wrap32] <;> omega))) | (exact needApp 256 rfl rfl (by simp) (by simp) (by omega)) | (simp <;> omega)); conv => whnf) | ((with_reducible apply GET.at); (rfl); conv => whnf) | ((with_reducible apply GETG.at); (rfl); conv => whnf) | ((with_reducible refine IF.mk (fun h => ?_) (fun h => ?_)) <;> (try simp (disch := omega) only [hsB, hsC, lnB, wrap64, wrap32, Int.reduceBEq, Int.reduceBNe, Int.reduceEq, Int.reduceNe, Int.reduceLT, Int.reduceLE, Int.reduceGT, Int.reduceGE, Int.reduceAdd, Int.reduceSub, Int.reduceMul, Int.reduceNeg, reduceCtorEq] at h) <;> (try (exfalso; omega)) <;> conv => whnf))
  all_goals
    refine FIN.value h0 rfl (congrArg (SV.int _) ?_)
    clear hs hp ho hg
    have hz : q.g = zeroTm ↔ q.g.k = 0 ∧ q.g.t = [] ∧ q.g.y = [] ∧ q.g.l = [] := by
      obtain ⟨s, p, o, g⟩ := q
      obtain ⟨k, t, y, l⟩ := g
      simp [zeroTm]
    unfold cquadM
    by_cases hgz : q.g = zeroTm
    · have := hz.1 hgz; simp_all
    · by_cases g1 : q.g.k = 1
      · simp_all
      · by_cases g2 : q.g.k = 2
        · simp_all
        · simp_all
end Go.Proofs.YtamnapaephmpmaaGreatDoor
/- What the rules draw from two quads. No program in sight. -/
set_option linter.unusedVariables false
set_option linter.unusedSimpArgs false
namespace Go.Our
open Go.Sx
def typB : List UInt8 := [104, 116, 116, 112, 58, 47, 47, 119, 119, 119, 46, 119, 51, 46, 111, 114, 103, 47, 49, 57, 57, 57, 47, 48, 50, 47, 50, 50, 45, 114, 100, 102, 45, 115, 121, 110, 116, 97, 120, 45, 110, 115, 35, 116, 121, 112, 101]
def domB : List UInt8 := [104, 116, 116, 112, 58, 47, 47, 119, 119, 119, 46, 119, 51, 46, 111, 114, 103, 47, 50, 48, 48, 48, 47, 48, 49, 47, 114, 100, 102, 45, 115, 99, 104, 101, 109, 97, 35, 100, 111, 109, 97, 105, 110]
def ranB : List UInt8 := [104, 116, 116, 112, 58, 47, 47, 119, 119, 119, 46, 119, 51, 46, 111, 114, 103, 47, 50, 48, 48, 48, 47, 48, 49, 47, 114, 100, 102, 45, 115, 99, 104, 101, 109, 97, 35, 114, 97, 110, 103, 101]
def subP : List UInt8 := [104, 116, 116, 112, 58, 47, 47, 119, 119, 119, 46, 119, 51, 46, 111, 114, 103, 47, 50, 48, 48, 48, 47, 48, 49, 47, 114, 100, 102, 45, 115, 99, 104, 101, 109, 97, 35, 115, 117, 98, 80, 114, 111, 112, 101, 114, 116, 121, 79, 102]
def subC : List UInt8 := [104, 116, 116, 112, 58, 47, 47, 119, 119, 119, 46, 119, 51, 46, 111, 114, 103, 47, 50, 48, 48, 48, 47, 48, 49, 47, 114, 100, 102, 45, 115, 99, 104, 101, 109, 97, 35, 115, 117, 98, 67, 108, 97, 115, 115, 79, 102]
def rdfB : List UInt8 := [104, 116, 116, 112, 58, 47, 47, 119, 119, 119, 46, 119, 51, 46, 111, 114, 103, 47, 49, 57, 57, 57, 47, 48, 50, 47, 50, 50, 45, 114, 100, 102, 45, 115, 121, 110, 116, 97, 120, 45, 110, 115, 35]
def rdfsB : List UInt8 := [104, 116, 116, 112, 58, 47, 47, 119, 119, 119, 46, 119, 51, 46, 111, 114, 103, 47, 50, 48, 48, 48, 47, 48, 49, 47, 114, 100, 102, 45, 115, 99, 104, 101, 109, 97, 35]
abbrev iriT (s : List UInt8) : Tm := ⟨1, s, [], []⟩
def zeroQd : Qd := ⟨zeroTm, zeroTm, zeroTm, zeroTm⟩
abbrev dr2 (a b : Qd) : Qd × Bool := (⟨b.s, iriT typB, a.o, a.g⟩, decide (a.p = iriT domB ∧ a.s = b.p))
abbrev dr3 (a b : Qd) : Qd × Bool := (⟨b.o, iriT typB, a.o, a.g⟩, decide (a.p = iriT ranB ∧ a.s = b.p))
abbrev chn (s : List UInt8) (a b : Qd) : Qd × Bool := (⟨a.s, a.p, b.o, a.g⟩, decide (a.p = iriT s ∧ b.p = a.p ∧ a.o = b.s))
abbrev dr7 (a b : Qd) : Qd × Bool := (⟨b.s, a.o, b.o, a.g⟩, decide (a.p = iriT subP ∧ a.s = b.p))
abbrev dr9 (a b : Qd) : Qd × Bool := (⟨b.s, iriT typB, a.o, a.g⟩, decide (a.p = iriT subC ∧ b.p = iriT typB ∧ b.o = a.s))
def drawnM (n : Int) (a b : Qd) : Qd × Bool :=
  if n = 2 then dr2 a b else if n = 3 then dr3 a b else if n = 5 then chn subP a b else if n = 7 then dr7 a b else if n = 9 then dr9 a b else if n = 11 then chn subC a b else (zeroQd, false)
def drawM (n : Int) (a b : Qd) : Qd × Bool :=
  if cquadM a = 0 ∧ cquadM b = 0 ∧ a.g = b.g ∧ (drawnM n a b).2 = true ∧ cquadM (drawnM n a b).1 = 0 then ((drawnM n a b).1, true) else (zeroQd, false)
theorem sm_iri {s : List UInt8} (h : s.length ≤ 100) : TmSm (iriT s) := ⟨by show s.length ≤ _; omega, by simp, by simp⟩
theorem drawn_sm {n : Int} {a b : Qd} (ha : QdSm a) (hb : QdSm b) : QdSm (drawnM n a b).1 := by
  obtain ⟨a1, a2, a3, a4⟩ := ha
  obtain ⟨b1, b2, b3, b4⟩ := hb
  have ht : TmSm (iriT typB) := sm_iri (by decide)
  have hz : TmSm zeroTm := ⟨by simp [zeroTm], by simp [zeroTm], by simp [zeroTm]⟩
  unfold drawnM
  (repeat' split) <;> first | exact ⟨b1, ht, a3, a4⟩ | exact ⟨b3, ht, a3, a4⟩ | exact ⟨a1, a2, b3, a4⟩ | exact ⟨b1, a3, b3, a4⟩ | exact ⟨hz, hz, hz, hz⟩
theorem tm_eq {x y : Tm} : x = y ↔ x.k = y.k ∧ x.t = y.t ∧ x.y = y.y ∧ x.l = y.l := by
  obtain ⟨a, b, c, d⟩ := x
  obtain ⟨e, f, g, h⟩ := y
  simp
theorem draw_no {n : Int} {a b : Qd} (h : ¬ (cquadM a = 0 ∧ cquadM b = 0 ∧ a.g = b.g ∧ (drawnM n a b).2 = true ∧ cquadM (drawnM n a b).1 = 0)) : drawM n a b = (zeroQd, false) := if_neg h
theorem draw_yes {n : Int} {a b : Qd} (h : cquadM a = 0 ∧ cquadM b = 0 ∧ a.g = b.g ∧ (drawnM n a b).2 = true ∧ cquadM (drawnM n a b).1 = 0) : drawM n a b = ((drawnM n a b).1, true) := if_pos h
theorem drawn_other {n : Int} {a b : Qd} (h : ¬ (n = 2 ∨ n = 3 ∨ n = 5 ∨ n = 7 ∨ n = 9 ∨ n = 11)) : drawnM n a b = (zeroQd, false) := by
  unfold drawnM
  rw [if_neg (by omega), if_neg (by omega), if_neg (by omega), if_neg (by omega), if_neg (by omega), if_neg (by omega)]
end Go.Our
/- infer: what the rules draw, the program's and the reference's, walked. Conditions: none. -/
set_option linter.unusedVariables false
set_option linter.unusedSimpArgs false
set_option maxRecDepth 20000
namespace Go.Proofs.YtamnapaephmpmaaGreatDoor
open Go.Sx Go.Our
theorem teq (x y : Tm) : (x.k == y.k && (x.t == y.t && (x.y == y.y && (x.l == y.l && true)))) = decide (x = y) := by
  rw [Bool.eq_iff_iff]
  simp [tm_eq]
theorem rdf_does (s : List UInt8) (hs : s.length ≤ 100) : Does Tryz.prog tab 19 0 [.str s] [] [] (Val (iriT (rdfB ++ s)).sv) := by
  refine Does.enter tabOK (g := 19) (fn := Tryz.f19) Tryz.call19 Tryz.func19 rfl 6 rfl rfl [.cell 2 23] rfl ?_
  intro w0 F η0 h0
  conv => whnf
  repeat' (first | ((with_reducible refine IF.tt ?_); conv => whnf) | ((with_reducible refine IF.ff ?_); conv => whnf) | ((with_reducible refine NEED.mk ?_ ?_); (first | with_reducible rfl | omega | (simp (disch := omega) only [lnB, wrap64, wrap32] <;> omega) | (intro h; (try simp (disch := omega) only [hsB, hsC, lnB, wrap64, wrap32, Int.reduceBEq, Int.reduceBNe, Int.reduceEq, Int.reduceNe, Int.reduceLT, Int.reduceLE, Int.reduceGT, Int.reduceGE, Int.reduceAdd, Int.reduceSub, Int.reduceMul, Int.reduceNeg, reduceCtorEq] at h); (first | omega | (simp (disch := omega) only [lnB, wrap64, wrap32] <;> omega))) | (exact needApp 256 rfl rfl (by simp) (by simp) (by omega)) | (simp <;> omega)); conv => whnf) | ((with_reducible apply GET.at); (rfl); conv => whnf) | ((with_reducible apply GETG.at); (rfl); conv => whnf) | ((with_reducible refine IF.mk (fun h => ?_) (fun h => ?_)) <;> (try simp (disch := omega) only [hsB, hsC, lnB, wrap64, wrap32, Int.reduceBEq, Int.reduceBNe, Int.reduceEq, Int.reduceNe, Int.reduceLT, Int.reduceLE, Int.reduceGT, Int.reduceGE, Int.reduceAdd, Int.reduceSub, Int.reduceMul, Int.reduceNeg, reduceCtorEq] at h) <;> (try (exfalso; omega)) <;> conv => whnf))
  all_goals first
    | exact FIN.value h0 rfl rfl
    | (show 43 + s.length ≤ _; omega)
theorem rdfs_does (s : List UInt8) (hs : s.length ≤ 100) : Does Tryz.prog tab 20 0 [.str s] [] [] (Val (iriT (rdfsB ++ s)).sv) := by
  refine Does.enter tabOK (g := 20) (fn := Tryz.f20) Tryz.call20 Tryz.func20 rfl 6 rfl rfl [.cell 2 23] rfl ?_
  intro w0 F η0 h0
  conv => whnf
  repeat' (first | ((with_reducible refine IF.tt ?_); conv => whnf) | ((with_reducible refine IF.ff ?_); conv => whnf) | ((with_reducible refine NEED.mk ?_ ?_); (first | with_reducible rfl | omega | (simp (disch := omega) only [lnB, wrap64, wrap32] <;> omega) | (intro h; (try simp (disch := omega) only [hsB, hsC, lnB, wrap64, wrap32, Int.reduceBEq, Int.reduceBNe, Int.reduceEq, Int.reduceNe, Int.reduceLT, Int.reduceLE, Int.reduceGT, Int.reduceGE, Int.reduceAdd, Int.reduceSub, Int.reduceMul, Int.reduceNeg, reduceCtorEq] at h); (first | omega | (simp (disch := omega) only [lnB, wrap64, wrap32] <;> omega))) | (exact needApp 256 rfl rfl (by simp) (by simp) (by omega)) | (simp <;> omega)); conv => whnf) | ((with_reducible apply GET.at); (rfl); conv => whnf) | ((with_reducible apply GETG.at); (rfl); conv => whnf) | ((with_reducible refine IF.mk (fun h => ?_) (fun h => ?_)) <;> (try simp (disch := omega) only [hsB, hsC, lnB, wrap64, wrap32, Int.reduceBEq, Int.reduceBNe, Int.reduceEq, Int.reduceNe, Int.reduceLT, Int.reduceLE, Int.reduceGT, Int.reduceGE, Int.reduceAdd, Int.reduceSub, Int.reduceMul, Int.reduceNeg, reduceCtorEq] at h) <;> (try (exfalso; omega)) <;> conv => whnf))
  all_goals first
    | exact FIN.value h0 rfl rfl
    | (show 37 + s.length ≤ _; omega)
theorem named_does (x : Tm) (s : List UInt8) : Does Tryz.prog tab 12 0 [x.sv, .str s] [] [] (Val (.bool (decide (x = iriT s)))) := by
  unfold Tm.sv
  refine Does.enter tabOK (g := 12) (fn := Tryz.f12) Tryz.call12 Tryz.func12 rfl 9 rfl rfl [.tmp 4] rfl ?_
  intro w0 F η0 h0
  conv => whnf
  repeat' (first | ((with_reducible refine IF.tt ?_); conv => whnf) | ((with_reducible refine IF.ff ?_); conv => whnf) | ((with_reducible refine NEED.mk ?_ ?_); (first | with_reducible rfl | omega | (simp (disch := omega) only [lnB, wrap64, wrap32] <;> omega) | (intro h; (try simp (disch := omega) only [hsB, hsC, lnB, wrap64, wrap32, Int.reduceBEq, Int.reduceBNe, Int.reduceEq, Int.reduceNe, Int.reduceLT, Int.reduceLE, Int.reduceGT, Int.reduceGE, Int.reduceAdd, Int.reduceSub, Int.reduceMul, Int.reduceNeg, reduceCtorEq] at h); (first | omega | (simp (disch := omega) only [lnB, wrap64, wrap32] <;> omega))) | (exact needApp 256 rfl rfl (by simp) (by simp) (by omega)) | (simp <;> omega)); conv => whnf) | ((with_reducible apply GET.at); (rfl); conv => whnf) | ((with_reducible apply GETG.at); (rfl); conv => whnf) | ((with_reducible refine IF.mk (fun h => ?_) (fun h => ?_)) <;> (try simp (disch := omega) only [hsB, hsC, lnB, wrap64, wrap32, Int.reduceBEq, Int.reduceBNe, Int.reduceEq, Int.reduceNe, Int.reduceLT, Int.reduceLE, Int.reduceGT, Int.reduceGE, Int.reduceAdd, Int.reduceSub, Int.reduceMul, Int.reduceNeg, reduceCtorEq] at h) <;> (try (exfalso; omega)) <;> conv => whnf))
  exact FIN.value h0 rfl (congrArg SV.bool (teq x (iriT s)))
theorem isType_does (s o g : Tm) : Does Tryz.prog tab 11 0 [s.sv, o.sv, g.sv] [] [] (Val (Qd.sv ⟨s, iriT typB, o, g⟩)) := by
  unfold Tm.sv
  refine Does.enter tabOK (g := 11) (fn := Tryz.f11) Tryz.call11 Tryz.func11 rfl 12 rfl rfl [.cell 6 25] rfl ?_
  intro w0 F η0 h0
  conv => whnf
  repeat' (first | ((with_reducible refine IF.tt ?_); conv => whnf) | ((with_reducible refine IF.ff ?_); conv => whnf) | ((with_reducible refine NEED.mk ?_ ?_); (first | with_reducible rfl | omega | (simp (disch := omega) only [lnB, wrap64, wrap32] <;> omega) | (intro h; (try simp (disch := omega) only [hsB, hsC, lnB, wrap64, wrap32, Int.reduceBEq, Int.reduceBNe, Int.reduceEq, Int.reduceNe, Int.reduceLT, Int.reduceLE, Int.reduceGT, Int.reduceGE, Int.reduceAdd, Int.reduceSub, Int.reduceMul, Int.reduceNeg, reduceCtorEq] at h); (first | omega | (simp (disch := omega) only [lnB, wrap64, wrap32] <;> omega))) | (exact needApp 256 rfl rfl (by simp) (by simp) (by omega)) | (simp <;> omega)); conv => whnf) | ((with_reducible apply GET.at); (rfl); conv => whnf) | ((with_reducible apply GETG.at); (rfl); conv => whnf) | ((with_reducible refine IF.mk (fun h => ?_) (fun h => ?_)) <;> (try simp (disch := omega) only [hsB, hsC, lnB, wrap64, wrap32, Int.reduceBEq, Int.reduceBNe, Int.reduceEq, Int.reduceNe, Int.reduceLT, Int.reduceLE, Int.reduceGT, Int.reduceGE, Int.reduceAdd, Int.reduceSub, Int.reduceMul, Int.reduceNeg, reduceCtorEq] at h) <;> (try (exfalso; omega)) <;> conv => whnf))
  exact FIN.value h0 rfl rfl
theorem rule2_does (a b : Qd) : Does Tryz.prog tab 10 0 [a.sv, b.sv] [] [] (Val (.tup [(dr2 a b).1.sv, .bool (dr2 a b).2])) := by
  unfold Qd.sv
  refine Does.enter tabOK (g := 10) (fn := Tryz.f10) Tryz.call10 Tryz.func10 rfl 23 rfl rfl [.cell 4 25, .tmp 5] rfl ?_
  intro w0 F η0 h0
  conv => whnf
  repeat' (first | ((with_reducible refine IF.tt ?_); conv => whnf) | ((with_reducible refine IF.ff ?_); conv => whnf) | (refine DRAWN.of (id := 1) tabOK mixed (.take 0 1 (.take 2 1 (.take 4 1 (.take 7 1 (.take 1 2 (.take 3 2 (.take 5 2 (.take 8 2 (.take 6 3 (.take 9 3 (.take 10 1 (.take 11 1 (.take 13 1 (.fork3 12 3 14 3 17 0 (.fork 14 3 17 0 (planOf [(15, 1), (16, 1), (17, 0), (18, 1)]) (planOf [(14, 2), (15, 1), (16, 1), (18, 1)])) (.fork 12 3 17 0 (planOf [(15, 1), (16, 1), (17, 0), (18, 1)]) (planOf [(12, 2), (15, 1), (16, 1), (18, 1)])) (planOf [(12, 2), (14, 2), (15, 1), (16, 1), (18, 1)]))))))))))))))) (by kernel_rfl) ?_; conv => whnf) | ((with_reducible refine ADD.mk (fun _ _ => ?_)); conv => whnf) | ((with_reducible refine NEED.mk (Det.of rfl) ?_); conv => whnf) | ((with_reducible refine FORK.mk ?_ ?_) <;> conv => whnf) | (refine CALL.value (isType_does b.s a.o a.g) rfl rfl ?_; conv => whnf) | (refine CALL.value (named_does a.p domB) rfl rfl ?_; conv => whnf) | ((with_reducible refine NEED.mk ?_ ?_); (first | with_reducible rfl | omega | (simp (disch := omega) only [lnB, wrap64, wrap32] <;> omega) | (intro h; (try simp (disch := omega) only [hsB, hsC, lnB, wrap64, wrap32, Int.reduceBEq, Int.reduceBNe, Int.reduceEq, Int.reduceNe, Int.reduceLT, Int.reduceLE, Int.reduceGT, Int.reduceGE, Int.reduceAdd, Int.reduceSub, Int.reduceMul, Int.reduceNeg, reduceCtorEq] at h); (first | omega | (simp (disch := omega) only [lnB, wrap64, wrap32] <;> omega))) | (exact needApp 256 rfl rfl (by simp) (by simp) (by omega)) | (simp <;> omega)); conv => whnf) | ((with_reducible apply GET.at); (rfl); conv => whnf) | ((with_reducible apply GETG.at); (rfl); conv => whnf) | ((with_reducible refine IF.mk (fun h => ?_) (fun h => ?_)) <;> (try simp (disch := omega) only [hsB, hsC, lnB, wrap64, wrap32, Int.reduceBEq, Int.reduceBNe, Int.reduceEq, Int.reduceNe, Int.reduceLT, Int.reduceLE, Int.reduceGT, Int.reduceGE, Int.reduceAdd, Int.reduceSub, Int.reduceMul, Int.reduceNeg, reduceCtorEq] at h) <;> (try (exfalso; omega)) <;> conv => whnf))
  all_goals
    refine FIN.value h0 rfl (congrArg (fun b => SV.tup [_, SV.bool b]) ?_)
    rw [Bool.eq_iff_iff]
    first
      | (simp_all [tm_eq]; done)
      | trace_state
theorem rule3_does (a b : Qd) : Does Tryz.prog tab 13 0 [a.sv, b.sv] [] [] (Val (.tup [(dr3 a b).1.sv, .bool (dr3 a b).2])) := by
  unfold Qd.sv
  refine Does.enter tabOK (g := 13) (fn := Tryz.f13) Tryz.call13 Tryz.func13 rfl 23 rfl rfl [.cell 4 25, .tmp 5] rfl ?_
  intro w0 F η0 h0
  conv => whnf
  repeat' (first | ((with_reducible refine IF.tt ?_); conv => whnf) | ((with_reducible refine IF.ff ?_); conv => whnf) | (refine DRAWN.of (id := 1) tabOK mixed (.take 0 1 (.take 2 1 (.take 4 1 (.take 7 1 (.take 1 2 (.take 3 2 (.take 5 2 (.take 8 2 (.take 6 3 (.take 9 3 (.take 10 1 (.take 11 1 (.take 13 1 (.fork3 12 3 14 3 17 0 (.fork 14 3 17 0 (planOf [(15, 1), (16, 1), (17, 0), (18, 1)]) (planOf [(14, 2), (15, 1), (16, 1), (18, 1)])) (.fork 12 3 17 0 (planOf [(15, 1), (16, 1), (17, 0), (18, 1)]) (planOf [(12, 2), (15, 1), (16, 1), (18, 1)])) (planOf [(12, 2), (14, 2), (15, 1), (16, 1), (18, 1)]))))))))))))))) (by kernel_rfl) ?_; conv => whnf) | ((with_reducible refine ADD.mk (fun _ _ => ?_)); conv => whnf) | ((with_reducible refine NEED.mk (Det.of rfl) ?_); conv => whnf) | ((with_reducible refine FORK.mk ?_ ?_) <;> conv => whnf) | (refine CALL.value (isType_does b.o a.o a.g) rfl rfl ?_; conv => whnf) | (refine CALL.value (named_does a.p ranB) rfl rfl ?_; conv => whnf) | ((with_reducible refine NEED.mk ?_ ?_); (first | with_reducible rfl | omega | (simp (disch := omega) only [lnB, wrap64, wrap32] <;> omega) | (intro h; (try simp (disch := omega) only [hsB, hsC, lnB, wrap64, wrap32, Int.reduceBEq, Int.reduceBNe, Int.reduceEq, Int.reduceNe, Int.reduceLT, Int.reduceLE, Int.reduceGT, Int.reduceGE, Int.reduceAdd, Int.reduceSub, Int.reduceMul, Int.reduceNeg, reduceCtorEq] at h); (first | omega | (simp (disch := omega) only [lnB, wrap64, wrap32] <;> omega))) | (exact needApp 256 rfl rfl (by simp) (by simp) (by omega)) | (simp <;> omega)); conv => whnf) | ((with_reducible apply GET.at); (rfl); conv => whnf) | ((with_reducible apply GETG.at); (rfl); conv => whnf) | ((with_reducible refine IF.mk (fun h => ?_) (fun h => ?_)) <;> (try simp (disch := omega) only [hsB, hsC, lnB, wrap64, wrap32, Int.reduceBEq, Int.reduceBNe, Int.reduceEq, Int.reduceNe, Int.reduceLT, Int.reduceLE, Int.reduceGT, Int.reduceGE, Int.reduceAdd, Int.reduceSub, Int.reduceMul, Int.reduceNeg, reduceCtorEq] at h) <;> (try (exfalso; omega)) <;> conv => whnf))
  all_goals
    refine FIN.value h0 rfl (congrArg (fun b => SV.tup [_, SV.bool b]) ?_)
    rw [Bool.eq_iff_iff]
    first
      | (simp_all [tm_eq]; done)
      | trace_state
theorem rule7_does (a b : Qd) : Does Tryz.prog tab 15 0 [a.sv, b.sv] [] [] (Val (.tup [(dr7 a b).1.sv, .bool (dr7 a b).2])) := by
  unfold Qd.sv
  refine Does.enter tabOK (g := 15) (fn := Tryz.f15) Tryz.call15 Tryz.func15 rfl 25 rfl rfl [.cell 4 25, .tmp 5] rfl ?_
  intro w0 F η0 h0
  conv => whnf
  repeat' (first | ((with_reducible refine IF.tt ?_); conv => whnf) | ((with_reducible refine IF.ff ?_); conv => whnf) | (refine DRAWN.of (id := 1) tabOK mixed (.take 0 1 (.take 2 1 (.take 4 1 (.take 6 1 (.take 9 1 (.take 1 2 (.take 3 2 (.take 5 2 (.take 7 2 (.take 8 1 (.take 10 2 (.take 11 3 (.take 12 1 (.take 13 1 (.take 15 1 (.fork3 14 3 16 3 19 0 (.fork 16 3 19 0 (planOf [(17, 1), (18, 1), (19, 0), (20, 1)]) (planOf [(16, 2), (17, 1), (18, 1), (20, 1)])) (.fork 14 3 19 0 (planOf [(17, 1), (18, 1), (19, 0), (20, 1)]) (planOf [(14, 2), (17, 1), (18, 1), (20, 1)])) (planOf [(14, 2), (16, 2), (17, 1), (18, 1), (20, 1)]))))))))))))))))) (by kernel_rfl) ?_; conv => whnf) | ((with_reducible refine ADD.mk (fun _ _ => ?_)); conv => whnf) | ((with_reducible refine NEED.mk (Det.of rfl) ?_); conv => whnf) | ((with_reducible refine FORK.mk ?_ ?_) <;> conv => whnf) | (refine CALL.value (named_does a.p subP) rfl rfl ?_; conv => whnf) | ((with_reducible refine NEED.mk ?_ ?_); (first | with_reducible rfl | omega | (simp (disch := omega) only [lnB, wrap64, wrap32] <;> omega) | (intro h; (try simp (disch := omega) only [hsB, hsC, lnB, wrap64, wrap32, Int.reduceBEq, Int.reduceBNe, Int.reduceEq, Int.reduceNe, Int.reduceLT, Int.reduceLE, Int.reduceGT, Int.reduceGE, Int.reduceAdd, Int.reduceSub, Int.reduceMul, Int.reduceNeg, reduceCtorEq] at h); (first | omega | (simp (disch := omega) only [lnB, wrap64, wrap32] <;> omega))) | (exact needApp 256 rfl rfl (by simp) (by simp) (by omega)) | (simp <;> omega)); conv => whnf) | ((with_reducible apply GET.at); (rfl); conv => whnf) | ((with_reducible apply GETG.at); (rfl); conv => whnf) | ((with_reducible refine IF.mk (fun h => ?_) (fun h => ?_)) <;> (try simp (disch := omega) only [hsB, hsC, lnB, wrap64, wrap32, Int.reduceBEq, Int.reduceBNe, Int.reduceEq, Int.reduceNe, Int.reduceLT, Int.reduceLE, Int.reduceGT, Int.reduceGE, Int.reduceAdd, Int.reduceSub, Int.reduceMul, Int.reduceNeg, reduceCtorEq] at h) <;> (try (exfalso; omega)) <;> conv => whnf))
  all_goals
    refine FIN.value h0 rfl (congrArg (fun b => SV.tup [_, SV.bool b]) ?_)
    rw [Bool.eq_iff_iff]
    first
      | (simp_all [tm_eq]; done)
      | trace_state
theorem rule9_does (a b : Qd) : Does Tryz.prog tab 16 0 [a.sv, b.sv] [] [] (Val (.tup [(dr9 a b).1.sv, .bool (dr9 a b).2])) := by
  unfold Qd.sv
  refine Does.enter tabOK (g := 16) (fn := Tryz.f16) Tryz.call16 Tryz.func16 rfl 28 rfl rfl [.cell 4 25, .tmp 5] rfl ?_
  intro w0 F η0 h0
  conv => whnf
  repeat' (first | ((with_reducible refine IF.tt ?_); conv => whnf) | ((with_reducible refine IF.ff ?_); conv => whnf) | (refine DRAWN.of (id := 1) tabOK mixed (.take 0 1 (.take 2 1 (.take 4 1 (.take 7 1 (.take 1 2 (.take 3 2 (.take 5 2 (.take 8 2 (.take 6 3 (.take 9 3 (.take 10 1 (.take 11 1 (.take 12 2 (.take 13 3 (.take 14 1 (.take 15 1 (.take 16 1 (.take 18 1 (.fork3 17 3 19 3 22 0 (.fork 19 3 22 0 (planOf [(20, 1), (21, 1), (22, 0), (23, 1)]) (planOf [(19, 2), (20, 1), (21, 1), (23, 1)])) (.fork 17 3 22 0 (planOf [(20, 1), (21, 1), (22, 0), (23, 1)]) (planOf [(17, 2), (20, 1), (21, 1), (23, 1)])) (planOf [(17, 2), (19, 2), (20, 1), (21, 1), (23, 1)])))))))))))))))))))) (by kernel_rfl) ?_; conv => whnf) | ((with_reducible refine ADD.mk (fun _ _ => ?_)); conv => whnf) | ((with_reducible refine NEED.mk (Det.of rfl) ?_); conv => whnf) | ((with_reducible refine FORK.mk ?_ ?_) <;> conv => whnf) | (refine CALL.value (isType_does b.s a.o a.g) rfl rfl ?_; conv => whnf) | (refine CALL.value (named_does a.p subC) rfl rfl ?_; conv => whnf) | (refine CALL.value (named_does b.p typB) rfl rfl ?_; conv => whnf) | ((with_reducible refine NEED.mk ?_ ?_); (first | with_reducible rfl | omega | (simp (disch := omega) only [lnB, wrap64, wrap32] <;> omega) | (intro h; (try simp (disch := omega) only [hsB, hsC, lnB, wrap64, wrap32, Int.reduceBEq, Int.reduceBNe, Int.reduceEq, Int.reduceNe, Int.reduceLT, Int.reduceLE, Int.reduceGT, Int.reduceGE, Int.reduceAdd, Int.reduceSub, Int.reduceMul, Int.reduceNeg, reduceCtorEq] at h); (first | omega | (simp (disch := omega) only [lnB, wrap64, wrap32] <;> omega))) | (exact needApp 256 rfl rfl (by simp) (by simp) (by omega)) | (simp <;> omega)); conv => whnf) | ((with_reducible apply GET.at); (rfl); conv => whnf) | ((with_reducible apply GETG.at); (rfl); conv => whnf) | ((with_reducible refine IF.mk (fun h => ?_) (fun h => ?_)) <;> (try simp (disch := omega) only [hsB, hsC, lnB, wrap64, wrap32, Int.reduceBEq, Int.reduceBNe, Int.reduceEq, Int.reduceNe, Int.reduceLT, Int.reduceLE, Int.reduceGT, Int.reduceGE, Int.reduceAdd, Int.reduceSub, Int.reduceMul, Int.reduceNeg, reduceCtorEq] at h) <;> (try (exfalso; omega)) <;> conv => whnf))
  all_goals
    refine FIN.value h0 rfl (congrArg (fun b => SV.tup [_, SV.bool b]) ?_)
    rw [Bool.eq_iff_iff]
    first
      | (simp_all [tm_eq]; done)
      | trace_state
theorem chain1_does (s : List UInt8) (a b : Qd) : Does Tryz.prog tab 21 1 [a.sv, b.sv, .ptr (.loc 0) 0 0 0] [] [(0, .box [.str s])] (ValK 1 (.tup [(chn s a b).1.sv, .bool (chn s a b).2])) := by
  unfold Qd.sv
  refine Does.enter tabOK (g := 21) (fn := Tryz.f21) Tryz.call21 Tryz.func21 rfl 34 rfl rfl [.cell 5 25, .tmp 6] rfl ?_
  intro w0 F η0 h0
  conv => whnf
  repeat' (first | ((with_reducible refine IF.tt ?_); conv => whnf) | ((with_reducible refine IF.ff ?_); conv => whnf) | (refine DRAWN.of (id := 1) tabOK mixed (.take 0 1 (.take 2 1 (.take 4 1 (.take 6 1 (.take 9 1 (.take 1 2 (.take 3 2 (.take 5 2 (.take 7 2 (.take 8 1 (.take 10 2 (.take 11 2 (.take 12 3 (.take 13 1 (.take 14 1 (.take 16 1 (.take 15 2 (.take 17 2 (.take 18 1 (.take 19 1 (.take 20 1 (.take 21 1 (.take 23 1 (.fork3 22 3 24 3 27 0 (.fork 24 3 27 0 (planOf [(25, 1), (26, 1), (27, 0), (28, 1)]) (planOf [(24, 2), (25, 1), (26, 1), (28, 1)])) (.fork 22 3 27 0 (planOf [(25, 1), (26, 1), (27, 0), (28, 1)]) (planOf [(22, 2), (25, 1), (26, 1), (28, 1)])) (planOf [(22, 2), (24, 2), (25, 1), (26, 1), (28, 1)]))))))))))))))))))))))))) (by kernel_rfl) ?_; conv => whnf) | ((with_reducible refine ADD.mk (fun _ _ => ?_)); conv => whnf) | ((with_reducible refine NEED.mk (Det.of rfl) ?_); conv => whnf) | ((with_reducible refine FORK.mk ?_ ?_) <;> conv => whnf) | (refine CALL.value (named_does a.p s) rfl rfl ?_; conv => whnf) | ((with_reducible refine NEED.mk ?_ ?_); (first | with_reducible rfl | omega | (simp (disch := omega) only [lnB, wrap64, wrap32] <;> omega) | (intro h; (try simp (disch := omega) only [hsB, hsC, lnB, wrap64, wrap32, Int.reduceBEq, Int.reduceBNe, Int.reduceEq, Int.reduceNe, Int.reduceLT, Int.reduceLE, Int.reduceGT, Int.reduceGE, Int.reduceAdd, Int.reduceSub, Int.reduceMul, Int.reduceNeg, reduceCtorEq] at h); (first | omega | (simp (disch := omega) only [lnB, wrap64, wrap32] <;> omega))) | (exact needApp 256 rfl rfl (by simp) (by simp) (by omega)) | (simp <;> omega)); conv => whnf) | ((with_reducible apply GET.at); (rfl); conv => whnf) | ((with_reducible apply GETG.at); (rfl); conv => whnf) | ((with_reducible refine IF.mk (fun h => ?_) (fun h => ?_)) <;> (try simp (disch := omega) only [hsB, hsC, lnB, wrap64, wrap32, Int.reduceBEq, Int.reduceBNe, Int.reduceEq, Int.reduceNe, Int.reduceLT, Int.reduceLE, Int.reduceGT, Int.reduceGE, Int.reduceAdd, Int.reduceSub, Int.reduceMul, Int.reduceNeg, reduceCtorEq] at h) <;> (try (exfalso; omega)) <;> conv => whnf))
  all_goals
    refine FIN.valueK h0 rfl (congrArg (fun b => SV.tup [_, SV.bool b]) ?_)
    rw [Bool.eq_iff_iff]
    first
      | (simp_all [tm_eq]; done)
      | trace_state
def FnK (f : FuncId) (s : List UInt8) : SV → Hps → Nat → Prop := fun r O nx => r = .fn (.func f) [] [.ptr (.loc 0) 0 0 0] ∧ O = [(0, .box [.str s])] ∧ nx = 1
theorem chain_does (s : List UInt8) : Does Tryz.prog tab 14 0 [.str s] [] [] (FnK 21 s) := by
  refine Does.enter tabOK (g := 14) (fn := Tryz.f14) Tryz.call14 Tryz.func14 rfl 4 rfl rfl [.tmp 2] rfl ?_
  intro w0 F η0 h0
  conv => whnf
  repeat' (first | ((with_reducible refine IF.tt ?_); conv => whnf) | ((with_reducible refine IF.ff ?_); conv => whnf) | ((with_reducible refine NEED.mk ?_ ?_); (first | with_reducible rfl | omega | (simp (disch := omega) only [lnB, wrap64, wrap32] <;> omega) | (intro h; (try simp (disch := omega) only [hsB, hsC, lnB, wrap64, wrap32, Int.reduceBEq, Int.reduceBNe, Int.reduceEq, Int.reduceNe, Int.reduceLT, Int.reduceLE, Int.reduceGT, Int.reduceGE, Int.reduceAdd, Int.reduceSub, Int.reduceMul, Int.reduceNeg, reduceCtorEq] at h); (first | omega | (simp (disch := omega) only [lnB, wrap64, wrap32] <;> omega))) | (exact needApp 256 rfl rfl (by simp) (by simp) (by omega)) | (simp <;> omega)); conv => whnf) | ((with_reducible apply GET.at); (rfl); conv => whnf) | ((with_reducible apply GETG.at); (rfl); conv => whnf) | ((with_reducible refine IF.mk (fun h => ?_) (fun h => ?_)) <;> (try simp (disch := omega) only [hsB, hsC, lnB, wrap64, wrap32, Int.reduceBEq, Int.reduceBNe, Int.reduceEq, Int.reduceNe, Int.reduceLT, Int.reduceLE, Int.reduceGT, Int.reduceGE, Int.reduceAdd, Int.reduceSub, Int.reduceMul, Int.reduceNeg, reduceCtorEq] at h) <;> (try (exfalso; omega)) <;> conv => whnf))
  refine FIN.at h0 [0] (.fn (.func 21) [] [.ptr (.loc 0) 0 0 0]) [(0, .box [.str s])] rfl rfl rfl (by first | rfl | (simp only [belowO, belowH, plainLL_below _ (plainStrs _), Bool.and_self, Bool.and_true] <;> rfl)) (by repeat' (first | exact trivial | exact (renH_plain _ (h := .rows _ _) (plainStrs _)).symm | (with_reducible rfl) | (exact rows_eq (plainStrs _) (by simp [strRow, ofVal, List.take_of_length_le])) | exact rfl | ((conv => whnf); refine ⟨?_, ?_⟩))) rfl ?_
  exact ⟨rfl, rfl, rfl⟩
def fnR (f : FuncId) : List SV := [.fn (.func f) [] []]
def fnC (f : FuncId) (i : Nat) : List SV := [.fn (.func f) [] [.ptr (.loc i) 0 0 0]]
def nilR : List SV := [.val .nilFunc]
def tableR : List (List SV) := [nilR, nilR, fnR 10, fnR 13, nilR, fnC 21 0, nilR, fnR 15, nilR, fnR 16, nilR, fnC 21 1]
def TableK : SV → Hps → Nat → Prop := fun r O nx => r = .arr 1 tableR ∧ O = [(0, .box [.str subP]), (1, .box [.str subC])] ∧ nx = 2
theorem rules_does : Does Tryz.prog tab 6 0 [] [] [] TableK := by
  refine Does.enter tabOK (g := 6) (fn := Tryz.f6) Tryz.call6 Tryz.func6 rfl 4 rfl rfl [.cell 0 31] rfl ?_
  intro w0 F η0 h0
  conv => whnf
  refine CALL.at [] (chain_does subP) rfl rfl rfl rfl (by first | rfl | (simp only [belowO, belowH, plainLL_below _ (plainStrs _), Bool.and_self, Bool.and_true] <;> rfl)) (by first | rfl | (simp only [belowO, belowH, plainLL_below _ (plainStrs _), Bool.and_self, Bool.and_true] <;> rfl)) (by repeat' (first | exact trivial | exact (renH_plain _ (h := .rows _ _) (plainStrs _)).symm | exact rfl | exact (renH_plain _ (h := .rows _ _) (plainStrs _)).trans (renH_plain _ (h := .rows _ _) (plainStrs _)).symm | ((conv => whnf); refine ⟨?_, ?_⟩))) (by repeat' (first | exact trivial | exact (renH_plain _ (h := .rows _ _) (plainStrs _)).symm | exact rfl | exact (renH_plain _ (h := .rows _ _) (plainStrs _)).trans (renH_plain _ (h := .rows _ _) (plainStrs _)).symm | ((conv => whnf); refine ⟨?_, ?_⟩))) rfl rfl ?_
  rintro r O' nx' ⟨rfl, rfl, rfl⟩
  conv => whnf
  refine CALL.at [] (chain_does subC) rfl rfl rfl rfl (by first | rfl | (simp only [belowO, belowH, plainLL_below _ (plainStrs _), Bool.and_self, Bool.and_true] <;> rfl)) (by first | rfl | (simp only [belowO, belowH, plainLL_below _ (plainStrs _), Bool.and_self, Bool.and_true] <;> rfl)) (by repeat' (first | exact trivial | exact (renH_plain _ (h := .rows _ _) (plainStrs _)).symm | exact rfl | exact (renH_plain _ (h := .rows _ _) (plainStrs _)).trans (renH_plain _ (h := .rows _ _) (plainStrs _)).symm | ((conv => whnf); refine ⟨?_, ?_⟩))) (by repeat' (first | exact trivial | exact (renH_plain _ (h := .rows _ _) (plainStrs _)).symm | exact rfl | exact (renH_plain _ (h := .rows _ _) (plainStrs _)).trans (renH_plain _ (h := .rows _ _) (plainStrs _)).symm | ((conv => whnf); refine ⟨?_, ?_⟩))) rfl rfl ?_
  rintro r O' nx' ⟨rfl, rfl, rfl⟩
  conv => whnf
  repeat' (first | ((with_reducible refine IF.tt ?_); conv => whnf) | ((with_reducible refine IF.ff ?_); conv => whnf) | ((with_reducible refine NEED.mk ?_ ?_); (first | with_reducible rfl | omega | (simp (disch := omega) only [lnB, wrap64, wrap32] <;> omega) | (intro h; (try simp (disch := omega) only [hsB, hsC, lnB, wrap64, wrap32, Int.reduceBEq, Int.reduceBNe, Int.reduceEq, Int.reduceNe, Int.reduceLT, Int.reduceLE, Int.reduceGT, Int.reduceGE, Int.reduceAdd, Int.reduceSub, Int.reduceMul, Int.reduceNeg, reduceCtorEq] at h); (first | omega | (simp (disch := omega) only [lnB, wrap64, wrap32] <;> omega))) | (exact needApp 256 rfl rfl (by simp) (by simp) (by omega)) | (simp <;> omega)); conv => whnf) | ((with_reducible apply GET.at); (rfl); conv => whnf) | ((with_reducible apply GETG.at); (rfl); conv => whnf) | ((with_reducible refine IF.mk (fun h => ?_) (fun h => ?_)) <;> (try simp (disch := omega) only [hsB, hsC, lnB, wrap64, wrap32, Int.reduceBEq, Int.reduceBNe, Int.reduceEq, Int.reduceNe, Int.reduceLT, Int.reduceLE, Int.reduceGT, Int.reduceGE, Int.reduceAdd, Int.reduceSub, Int.reduceMul, Int.reduceNeg, reduceCtorEq] at h) <;> (try (exfalso; omega)) <;> conv => whnf))
  refine FIN.at h0 [1, 2] (.arr 1 tableR) [(0, .box [.str subP]), (1, .box [.str subC])] rfl rfl rfl (by first | rfl | (simp only [belowO, belowH, plainLL_below _ (plainStrs _), Bool.and_self, Bool.and_true] <;> rfl)) (by repeat' (first | exact trivial | exact (renH_plain _ (h := .rows _ _) (plainStrs _)).symm | (with_reducible rfl) | (exact rows_eq (plainStrs _) (by simp [strRow, ofVal, List.take_of_length_le])) | exact rfl | ((conv => whnf); refine ⟨?_, ?_⟩))) rfl ?_
  exact ⟨rfl, rfl, rfl⟩
end Go.Proofs.YtamnapaephmpmaaGreatDoor
