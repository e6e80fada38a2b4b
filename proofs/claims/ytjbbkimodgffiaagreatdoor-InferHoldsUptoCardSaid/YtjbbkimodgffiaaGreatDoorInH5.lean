/- InferHolds: the row and its card out of the walk. Conditions: none beyond the statement's own (its bound on the bulk of what is read). -/
import Derived.Test.YtjbbkimodgffiaaGreatDoorCards
import Derived.Test.YtjbbkimodgffiaaGreatDoorTie
import Derived.Test.YtjbbkimodgffiaaGreatDoorInH4
/- The reference's tags: extensions, the private part, walked. Conditions: none. -/
set_option linter.unusedVariables false
set_option linter.unusedSimpArgs false
set_option maxRecDepth 20000
set_option maxHeartbeats 8000000
namespace Go.Proofs.YtjbbkimodgffiaaGreatDoor
open Go.Sx Go.Our
def plTag70 : Plan := (planOf [(0, 1), (1, 1), (2, 1), (4, 1), (9, 1), (10, 1), (3, 2), (5, 1), (6, 2), (7, 1), (11, 2), (8, 3), (12, 3), (13, 1)])
def plTag71 : Plan := (planOf [(0, 1), (1, 1), (2, 1), (3, 1), (5, 1), (4, 2), (6, 3), (7, 3), (8, 0), (9, 1), (10, 1), (11, 0)])
/-- Has one of these extensions that letter? -/
def dupM (xs : List (List UInt8)) (w : List UInt8) : Bool := xs.any fun x => lowerM (x.take 1) == lowerM w
theorem dup_at {xs : List (List UInt8)} {w : List UInt8} {i : Nat} (h : i < xs.length) : dupM (xs.drop i) w = (lowerM (xs[i].take 1) == lowerM w || dupM (xs.drop (i + 1)) w) := by
  unfold dupM; rw [List.drop_eq_getElem_cons h]; rfl
theorem extension6_does (ps : List (List UInt8)) (hb : bulkM ps + ps.length ≤ 34359738368) (a m : Nat) (ham : a + (m + 1) = ps.length) (w : List UInt8) (hw : ps[a]? = some w) (hw1 : w.length = 1)
    (L E S R : List UInt8) (v : Nat) (P : List UInt8) (xs : List (List UInt8)) (hxs : ∀ x ∈ xs, 1 ≤ x.length ∧ Sm x) (hxl : xs.length ≤ 34359738368) :
    Does Tryz.prog tab 166 5 [.ptr (.loc 0) 0 0 0, .ptr (.loc 2) 0 0 0] [(0, rd6 a (m + 1)), (2, tg6 L E S R 3 v 4 xs.length P), (4, .rows 1 (xs.map strRow))] [(1, .rows 1 (ps.map strRow))]
      (fun r O nx => ∃ (n : Nat) (xs' : List (List UInt8)), n = spanM (partOK 2) (ps.drop (a + 1)) ∧ r = .bool (!dupM xs w && decide (n ≠ 0)) ∧ (dupM xs w = false → ∃ z, xs' = xs ++ [z] ∧ z.take 1 = w ∧ Sm z) ∧
        O = [(0, rd6 (a + 1 + n) (m - n)), (2, tg6 L E S R 3 v 5 xs'.length P), (5, .rows 1 (xs'.map strRow))] ∧ nx = 6) := by
  have hsm := bulk_sm (ps := ps) (by omega)
  have hwl : Sm w := hsm w (List.mem_of_getElem? hw)
  refine Does.enter tabOK (g := 166) (fn := Tryz.f166) Tryz.call166 Tryz.func166 rfl 69 rfl rfl [.tmp 4] rfl ?_
  intro w0 F η0 h0
  conv => whnf
  refine CALL.aA [0, 1] (next6_does ps a m ham w hw) ?_
  rintro r O' nx' ⟨rfl, rfl, rfl⟩
  conv => whnf
  refine LOOP.go tabOK [0, 1] (X := Nat × List (List UInt8)) (fun y => y.1 ≤ m ∧ y.2.length = y.1 + 1 ∧ y.2[0]? = some w ∧ bulkM y.2 ≤ ((ps.take (a + 1 + y.1)).map List.length).sum ∧ spanM (partOK 2) (ps.drop (a + 1)) = y.1 + spanM (partOK 2) (ps.drop (a + 1 + y.1))) (fun y => [(5, .sl (.loc 5) 0 1 y.2.length none)]) (fun y => [(0, rd6 (a + 1 + y.1) (m - y.1)), (2, tg6 L E S R 3 v 4 xs.length P), (4, .rows 1 (xs.map strRow)), (5, .rows 1 (y.2.map strRow))]) 6 (fun y => m - y.1) (0, [w]) ⟨by simp, by simp, by simp, ?_, by simp⟩ ?_
  · simp only [Nat.add_zero]
    rw [sum_le hw]; simp [bulkM]
  conv => whnf
  refine ⟨by (refine GOES.keeping h0 [5] rfl rfl rfl (by first | rfl | (simp only [belowO, belowH, plainLL_below _ (plainStrs _), Bool.and_self, Bool.and_true] <;> rfl)) ?_ ?_ <;> (repeat' (first | (with_reducible rfl) | (exact rows_eq (plainStrs _) (renLL_plain _ (plainStrs _))) | (exact rows_eq (plainStrs _) (by simp [strRow, ofVal, List.take_of_length_le])) | (exact sl_eq rfl (by first | (simp; done) | omega | (simp; omega))) | (exact congrArg (SV.int _) (by first | omega | (simp (disch := omega) only [lnB, wrap64, wrap32] <;> omega) | (simp; done) | (simp <;> omega))) | ((conv => whnf); refine ⟨?_, ?_⟩) | exact trivial | (simp only [ren, renB]; done) | rfl))), ?_⟩
  rintro ⟨c, l⟩ ⟨hc, hl, hl0, hlb, hx⟩
  dsimp only at hc hl hl0 hlb hx ⊢
  have hlt0 := bulk_take ps (a + 1 + c)
  have out : ∀ (n : Nat), spanM (partOK 2) (ps.drop (a + 1 + c)) = 0 → spanM (partOK 2) (ps.drop (a + 1)) = c := by intro n h; omega
  conv => whnf
  rcases Nat.lt_or_ge c m with hcm | hcm
  · have hlt : a + 1 + c < ps.length := by omega
    have hs := hsm _ (List.getElem_mem hlt)
    have hs1 := sum_le (List.getElem?_eq_getElem hlt)
    repeat' ((first | (refine GET.at (row := strRow (ps[a + 1 + c]'(by omega))) (by rw [List.getElem?_map, show a + 1 + c + (0 : Int).toNat = a + 1 + c by simp, List.getElem?_eq_getElem (by omega)]; rfl) ?_; conv => whnf) | refine CALL.value (r6both_does _ _ _ hs) rfl rfl ?_ | refine AU ?_ | ((with_reducible refine IF.mk (fun h => ?_) (fun h => ?_)) <;> (try simp (disch := omega) only [hsB, hsC, lnB, wrap64, wrap32, simprocAttr] at h) <;> try (exfalso; omega))) <;> conv => whnf)
    · obtain ⟨k', hk'⟩ : ∃ k', m - c = k' + 1 := ⟨m - c - 1, by omega⟩
      rw [hk']
      refine CALL.aA [0, 1] (next6_does ps (a + 1 + c) k' (by omega) _ (List.getElem?_eq_getElem hlt)) ?_
      rintro r O' nx' ⟨rfl, rfl, rfl⟩
      conv => whnf
      repeat' ((first | refine AU ?_ | ((with_reducible refine IF.mk (fun h => ?_) (fun h => ?_)) <;> (try simp (disch := omega) only [hsB, hsC, lnB, wrap64, wrap32, simprocAttr] at h) <;> try (exfalso; omega))) <;> conv => whnf)
      have e : (l ++ [ps[a + 1 + c]]).length = l.length + 1 := by simp
      refine ⟨(c + 1, l ++ [ps[a + 1 + c]]), ⟨by simp only; omega, by simp; omega, by simp only; rw [List.getElem?_append_left (by omega), hl0], ?_, ?_⟩, by simp only; omega, ?_⟩
      · simp only
        rw [show a + 1 + (c + 1) = a + 1 + c + 1 by omega, hs1]
        simp [bulkM] at hlb ⊢; omega
      · simp only
        rw [hx, List.drop_eq_getElem_cons hlt]
        simp only [spanM]
        rw [if_pos h]
        show c + (spanM _ _ + 1) = _
        rw [show a + 1 + (c + 1) = a + 1 + c + 1 by omega]; omega
      · dsimp only
        rw [e, show a + 1 + (c + 1) = a + 1 + c + 1 by omega, show m - (c + 1) = k' by omega]
        conv => whnf
        (refine GOES.keeping h0 [7] rfl rfl rfl (by first | rfl | (simp only [belowO, belowH, plainLL_below _ (plainStrs _), Bool.and_self, Bool.and_true] <;> rfl)) ?_ ?_ <;> (repeat' (first | (with_reducible rfl) | (exact rows_eq (plainStrs _) (renLL_plain _ (plainStrs _))) | (exact rows_eq (plainStrs _) (by simp [strRow, ofVal, List.take_of_length_le])) | (exact sl_eq rfl (by first | (simp; done) | omega | (simp; omega))) | (exact congrArg (SV.int _) (by first | omega | (simp (disch := omega) only [lnB, wrap64, wrap32] <;> omega) | (simp; done) | (simp <;> omega))) | ((conv => whnf); refine ⟨?_, ?_⟩) | exact trivial | (simp only [ren, renB]; done) | rfl)))
    · have hn : spanM (partOK 2) (ps.drop (a + 1)) = c := by
        rw [hx, List.drop_eq_getElem_cons hlt]; simp only [spanM]; rw [if_neg (by simp [h])]; rfl
      refine LOOP.go tabOK [1, 5] (X := Nat) (fun i => i ≤ xs.length ∧ dupM xs w = dupM (xs.drop i) w) (fun i => [(7, .int .i64 (i : Int))]) (fun i => [(0, rd6 (a + 1 + c) (m - c)), (2, tg6 L E S R 3 v 4 xs.length P), (4, .rows 1 (xs.map strRow)), (5, .rows 1 (l.map strRow))]) 6 (fun i => xs.length - i) 0 ⟨by omega, rfl⟩ ?_
      conv => whnf
      refine ⟨by (refine GOES.keeping h0 [5] rfl rfl rfl (by first | rfl | (simp only [belowO, belowH, plainLL_below _ (plainStrs _), Bool.and_self, Bool.and_true] <;> rfl)) ?_ ?_ <;> (repeat' (first | (with_reducible rfl) | (exact rows_eq (plainStrs _) (renLL_plain _ (plainStrs _))) | (exact rows_eq (plainStrs _) (by simp [strRow, ofVal, List.take_of_length_le])) | (exact sl_eq rfl (by first | (simp; done) | omega | (simp; omega))) | (exact congrArg (SV.int _) (by first | omega | (simp (disch := omega) only [lnB, wrap64, wrap32] <;> omega) | (simp; done) | (simp <;> omega))) | ((conv => whnf); refine ⟨?_, ?_⟩) | exact trivial | (simp only [ren, renB]; done) | rfl))), ?_⟩
      rintro i ⟨hi, hd⟩
      dsimp only at hi hd ⊢
      conv => whnf
      rcases Nat.lt_or_ge i xs.length with him | him
      · obtain ⟨hx1, hx2⟩ := hxs _ (List.getElem_mem him)
        have hsub : Sm (xs[i].take (1 : Int).toNat) := by simp; omega
        repeat' ((first | refine DRAWN.of (id := 8) tabOK mixed plTag70 (by kernel_rfl) ?_ | refine DRAWN.of (id := 10) tabOK mixed plTag71 (by kernel_rfl) ?_ | with_reducible refine ADD.mk (fun _ _ => ?_) | with_reducible refine NEED.mk (Det.of rfl) ?_ | refine NEED.mk (det_pos (by omega)) ?_ | with_reducible refine FORK.mk ?_ ?_ | (refine GET.at (row := strRow (xs[i]'(by omega))) (by rw [List.getElem?_map, show 0 + (i : Int).toNat = i by simp, List.getElem?_eq_getElem (by omega)]; rfl) ?_; conv => whnf) | (refine GET.at (row := strRow w) (by rw [List.getElem?_map, show 0 + (0 : Int).toNat = 0 by simp, hl0]; rfl) ?_; conv => whnf) | refine CALL.value (r6lower_does _ hsub) rfl rfl ?_ | refine CALL.value (r6lower_does _ hwl) rfl rfl ?_ | refine AU ?_ | ((with_reducible refine IF.mk (fun h => ?_) (fun h => ?_)) <;> (try simp (disch := omega) only [hsB, hsC, lnB, wrap64, wrap32, simprocAttr] at h) <;> try (exfalso; omega))) <;> conv => whnf)
        · have hdup : dupM xs w = true := by rw [hd, dup_at him, beq_iff_eq.2 h]; rfl
          refine FIN.aA h0 [4] (.bool false) [(0, rd6 (a + 1 + c) (m - c)), (2, tg6 L E S R 3 v 5 xs.length P), (5, .rows 1 (xs.map strRow))] ?_
          exact ⟨c, xs, hn.symm, by rw [hdup]; rfl, by simp [hdup], rfl, rfl⟩
        · refine ⟨i + 1, ⟨by omega, ?_⟩, by omega, ?_⟩
          · rw [hd, dup_at him]
            have : (lowerM (xs[i].take 1) == lowerM w) = false := by simpa using h
            rw [this, Bool.false_or]
          · conv => whnf
            (refine GOES.keeping h0 [5] rfl rfl rfl (by first | rfl | (simp only [belowO, belowH, plainLL_below _ (plainStrs _), Bool.and_self, Bool.and_true] <;> rfl)) ?_ ?_ <;> (repeat' (first | (with_reducible rfl) | (exact rows_eq (plainStrs _) (renLL_plain _ (plainStrs _))) | (exact rows_eq (plainStrs _) (by simp [strRow, ofVal, List.take_of_length_le])) | (exact sl_eq rfl (by first | (simp; done) | omega | (simp; omega))) | (exact congrArg (SV.int _) (by first | omega | (simp (disch := omega) only [lnB, wrap64, wrap32] <;> omega) | (simp; done) | (simp <;> omega))) | ((conv => whnf); refine ⟨?_, ?_⟩) | exact trivial | (simp only [ren, renB]; done) | rfl)))
      · have hdup : dupM xs w = false := by rw [hd, List.drop_eq_nil_of_le (by omega)]; rfl
        repeat' ((first | refine DRAWN.of (id := 8) tabOK mixed plTag70 (by kernel_rfl) ?_ | refine DRAWN.of (id := 10) tabOK mixed plTag71 (by kernel_rfl) ?_ | with_reducible refine ADD.mk (fun _ _ => ?_) | with_reducible refine NEED.mk (Det.of rfl) ?_ | refine NEED.mk (det_pos (by omega)) ?_ | with_reducible refine FORK.mk ?_ ?_ | refine AU ?_ | ((with_reducible refine IF.mk (fun h => ?_) (fun h => ?_)) <;> (try simp (disch := omega) only [hsB, hsC, lnB, wrap64, wrap32, simprocAttr] at h) <;> try (exfalso; omega))) <;> conv => whnf)
        refine CALL.aA [5] (r6joined_does l (by omega) 0 l.length (by omega)) ?_
        rintro r O' nx' ⟨z, hz, hzw, rfl, rfl, rfl⟩
        conv => whnf
        repeat' ((first | refine DRAWN.of (id := 8) tabOK mixed plTag70 (by kernel_rfl) ?_ | refine DRAWN.of (id := 10) tabOK mixed plTag71 (by kernel_rfl) ?_ | with_reducible refine ADD.mk (fun _ _ => ?_) | with_reducible refine NEED.mk (Det.of rfl) ?_ | refine NEED.mk (det_pos (by omega)) ?_ | with_reducible refine FORK.mk ?_ ?_ | refine AU ?_ | ((with_reducible refine IF.mk (fun h => ?_) (fun h => ?_)) <;> (try simp (disch := omega) only [hsB, hsC, lnB, wrap64, wrap32, simprocAttr] at h) <;> try (exfalso; omega))) <;> conv => whnf)
        obtain ⟨t, rfl⟩ := hzw w hl0
        have e : (xs ++ [w ++ t]).length = xs.length + 1 := by simp
        have ec : decide ((1 : Int) < (l.length : Int)) = decide (c ≠ 0) := decide_eq_decide.2 (by omega)
        rw [ec]
        refine FIN.aA h0 [7] (.bool (decide (c ≠ 0))) [(0, rd6 (a + 1 + c) (m - c)), (2, tg6 L E S R 3 v 5 (xs.length + 1) P), (5, .rows 1 ((xs ++ [w ++ t]).map strRow))] ?_
        exact ⟨c, xs ++ [w ++ t], hn.symm, by rw [hdup]; rfl, fun _ => ⟨_, rfl, by rw [List.take_append_of_le_length (by omega), List.take_of_length_le (by omega)], by omega⟩, by rw [e], rfl⟩
  · repeat' ((first | refine AU ?_ | ((with_reducible refine IF.mk (fun h => ?_) (fun h => ?_)) <;> (try simp (disch := omega) only [hsB, hsC, lnB, wrap64, wrap32, simprocAttr] at h) <;> try (exfalso; omega))) <;> conv => whnf)
    have hn : spanM (partOK 2) (ps.drop (a + 1)) = c := by
      rw [hx, List.drop_eq_nil_of_le (by omega)]; rfl
    refine LOOP.go tabOK [1, 5] (X := Nat) (fun i => i ≤ xs.length ∧ dupM xs w = dupM (xs.drop i) w) (fun i => [(7, .int .i64 (i : Int))]) (fun i => [(0, rd6 (a + 1 + c) (m - c)), (2, tg6 L E S R 3 v 4 xs.length P), (4, .rows 1 (xs.map strRow)), (5, .rows 1 (l.map strRow))]) 6 (fun i => xs.length - i) 0 ⟨by omega, rfl⟩ ?_
    conv => whnf
    refine ⟨by (refine GOES.keeping h0 [5] rfl rfl rfl (by first | rfl | (simp only [belowO, belowH, plainLL_below _ (plainStrs _), Bool.and_self, Bool.and_true] <;> rfl)) ?_ ?_ <;> (repeat' (first | (with_reducible rfl) | (exact rows_eq (plainStrs _) (renLL_plain _ (plainStrs _))) | (exact rows_eq (plainStrs _) (by simp [strRow, ofVal, List.take_of_length_le])) | (exact sl_eq rfl (by first | (simp; done) | omega | (simp; omega))) | (exact congrArg (SV.int _) (by first | omega | (simp (disch := omega) only [lnB, wrap64, wrap32] <;> omega) | (simp; done) | (simp <;> omega))) | ((conv => whnf); refine ⟨?_, ?_⟩) | exact trivial | (simp only [ren, renB]; done) | rfl))), ?_⟩
    rintro i ⟨hi, hd⟩
    dsimp only at hi hd ⊢
    conv => whnf
    rcases Nat.lt_or_ge i xs.length with him | him
    · obtain ⟨hx1, hx2⟩ := hxs _ (List.getElem_mem him)
      have hsub : Sm (xs[i].take (1 : Int).toNat) := by simp; omega
      repeat' ((first | refine DRAWN.of (id := 8) tabOK mixed plTag70 (by kernel_rfl) ?_ | refine DRAWN.of (id := 10) tabOK mixed plTag71 (by kernel_rfl) ?_ | with_reducible refine ADD.mk (fun _ _ => ?_) | with_reducible refine NEED.mk (Det.of rfl) ?_ | refine NEED.mk (det_pos (by omega)) ?_ | with_reducible refine FORK.mk ?_ ?_ | (refine GET.at (row := strRow (xs[i]'(by omega))) (by rw [List.getElem?_map, show 0 + (i : Int).toNat = i by simp, List.getElem?_eq_getElem (by omega)]; rfl) ?_; conv => whnf) | (refine GET.at (row := strRow w) (by rw [List.getElem?_map, show 0 + (0 : Int).toNat = 0 by simp, hl0]; rfl) ?_; conv => whnf) | refine CALL.value (r6lower_does _ hsub) rfl rfl ?_ | refine CALL.value (r6lower_does _ hwl) rfl rfl ?_ | refine AU ?_ | ((with_reducible refine IF.mk (fun h => ?_) (fun h => ?_)) <;> (try simp (disch := omega) only [hsB, hsC, lnB, wrap64, wrap32, simprocAttr] at h) <;> try (exfalso; omega))) <;> conv => whnf)
      · have hdup : dupM xs w = true := by rw [hd, dup_at him, beq_iff_eq.2 h]; rfl
        refine FIN.aA h0 [4] (.bool false) [(0, rd6 (a + 1 + c) (m - c)), (2, tg6 L E S R 3 v 5 xs.length P), (5, .rows 1 (xs.map strRow))] ?_
        exact ⟨c, xs, hn.symm, by rw [hdup]; rfl, by simp [hdup], rfl, rfl⟩
      · refine ⟨i + 1, ⟨by omega, ?_⟩, by omega, ?_⟩
        · rw [hd, dup_at him]
          have : (lowerM (xs[i].take 1) == lowerM w) = false := by simpa using h
          rw [this, Bool.false_or]
        · conv => whnf
          (refine GOES.keeping h0 [5] rfl rfl rfl (by first | rfl | (simp only [belowO, belowH, plainLL_below _ (plainStrs _), Bool.and_self, Bool.and_true] <;> rfl)) ?_ ?_ <;> (repeat' (first | (with_reducible rfl) | (exact rows_eq (plainStrs _) (renLL_plain _ (plainStrs _))) | (exact rows_eq (plainStrs _) (by simp [strRow, ofVal, List.take_of_length_le])) | (exact sl_eq rfl (by first | (simp; done) | omega | (simp; omega))) | (exact congrArg (SV.int _) (by first | omega | (simp (disch := omega) only [lnB, wrap64, wrap32] <;> omega) | (simp; done) | (simp <;> omega))) | ((conv => whnf); refine ⟨?_, ?_⟩) | exact trivial | (simp only [ren, renB]; done) | rfl)))
    · have hdup : dupM xs w = false := by rw [hd, List.drop_eq_nil_of_le (by omega)]; rfl
      repeat' ((first | refine DRAWN.of (id := 8) tabOK mixed plTag70 (by kernel_rfl) ?_ | refine DRAWN.of (id := 10) tabOK mixed plTag71 (by kernel_rfl) ?_ | with_reducible refine ADD.mk (fun _ _ => ?_) | with_reducible refine NEED.mk (Det.of rfl) ?_ | refine NEED.mk (det_pos (by omega)) ?_ | with_reducible refine FORK.mk ?_ ?_ | refine AU ?_ | ((with_reducible refine IF.mk (fun h => ?_) (fun h => ?_)) <;> (try simp (disch := omega) only [hsB, hsC, lnB, wrap64, wrap32, simprocAttr] at h) <;> try (exfalso; omega))) <;> conv => whnf)
      refine CALL.aA [5] (r6joined_does l (by omega) 0 l.length (by omega)) ?_
      rintro r O' nx' ⟨z, hz, hzw, rfl, rfl, rfl⟩
      conv => whnf
      repeat' ((first | refine DRAWN.of (id := 8) tabOK mixed plTag70 (by kernel_rfl) ?_ | refine DRAWN.of (id := 10) tabOK mixed plTag71 (by kernel_rfl) ?_ | with_reducible refine ADD.mk (fun _ _ => ?_) | with_reducible refine NEED.mk (Det.of rfl) ?_ | refine NEED.mk (det_pos (by omega)) ?_ | with_reducible refine FORK.mk ?_ ?_ | refine AU ?_ | ((with_reducible refine IF.mk (fun h => ?_) (fun h => ?_)) <;> (try simp (disch := omega) only [hsB, hsC, lnB, wrap64, wrap32, simprocAttr] at h) <;> try (exfalso; omega))) <;> conv => whnf)
      obtain ⟨t, rfl⟩ := hzw w hl0
      have e : (xs ++ [w ++ t]).length = xs.length + 1 := by simp
      have ec : decide ((1 : Int) < (l.length : Int)) = decide (c ≠ 0) := decide_eq_decide.2 (by omega)
      rw [ec]
      refine FIN.aA h0 [7] (.bool (decide (c ≠ 0))) [(0, rd6 (a + 1 + c) (m - c)), (2, tg6 L E S R 3 v 5 (xs.length + 1) P), (5, .rows 1 ((xs ++ [w ++ t]).map strRow))] ?_
      exact ⟨c, xs ++ [w ++ t], hn.symm, by rw [hdup]; rfl, fun _ => ⟨_, rfl, by rw [List.take_append_of_le_length (by omega), List.take_of_length_le (by omega)], by omega⟩, by rw [e], rfl⟩
theorem private6_does (ps : List (List UInt8)) (hb : bulkM ps + ps.length ≤ 34359738368) (a m : Nat) (ham : a + m = ps.length) (ha : a < ps.length)
    (L E S R : List UInt8) (v x : Nat) (P : List UInt8) :
    Does Tryz.prog tab 167 5 [.ptr (.loc 0) 0 0 0, .ptr (.loc 2) 0 0 0] [(2, tg6 L E S R 3 v 4 x P)] [(0, rd6 a m), (1, .rows 1 (ps.map strRow))]
      (fun r O nx => ∃ P', r = .bool (decide (spanM (partOK 1) (ps.drop (a + 1)) ≠ 0 ∧ spanM (partOK 1) (ps.drop (a + 1)) = (ps.drop (a + 1)).length)) ∧ O = [(2, tg6 L E S R 3 v 4 x P')] ∧ nx = 5) := by
  have hsm := bulk_sm (ps := ps) (by omega)
  have hspan := span_le (partOK 1) (ps.drop (a + 1))
  rw [List.length_drop] at hspan ⊢
  refine Does.enter tabOK (g := 167) (fn := Tryz.f167) Tryz.call167 Tryz.func167 rfl 40 rfl rfl [.tmp 4] rfl ?_
  intro w0 F η0 h0
  conv => whnf
  refine CALL.aA [1] (r6joined_does ps (by omega) a m ham) ?_
  rintro r O' nx' ⟨z, hz, _, rfl, rfl, rfl⟩
  conv => whnf
  refine IF.mk (fun h => ?_) (fun h => ?_)
  · have h : m < 2 := by simp at h; omega
    conv => whnf
    exact FIN.here h0 (rc := .bool _) (Oc := [(2, tg6 L E S R 3 v 4 x z)]) rfl rfl rfl ⟨rfl, trivial⟩ ⟨z, congrArg SV.bool (decide_eq_false (by omega)).symm, rfl, rfl⟩
  have h : 2 ≤ m := by simp at h; omega
  conv => whnf
  refine LOOP.go tabOK [0] (X := Nat) (fun i => 1 ≤ i ∧ i ≤ m ∧ spanM (partOK 1) (ps.drop (a + 1)) = (i - 1) + spanM (partOK 1) (ps.drop (a + i))) (fun i => [(5, .int .i64 (i : Int))]) (fun i => [(2, tg6 L E S R 3 v 4 x z)]) 5 (fun i => m - i) 1 ⟨by omega, by omega, by simp⟩ ?_
  conv => whnf
  refine ⟨by exact GOES.cA h0, ?_⟩
  rintro i ⟨hi1, hi, hx⟩
  dsimp only at hi1 hi hx ⊢
  conv => whnf
  rcases Nat.lt_or_ge i m with him | him
  · have hlt : a + i < ps.length := by omega
    have hs := hsm _ (List.getElem_mem hlt)
    rw [List.drop_eq_getElem_cons hlt] at hx
    simp only [spanM] at hx
    repeat' ((first | (refine GET.at (row := strRow (ps[a + i]'(by omega))) (by rw [List.getElem?_map, show a + (i : Int).toNat = a + i by simp, List.getElem?_eq_getElem (by omega)]; rfl) ?_; conv => whnf) | refine CALL.value (r6both_does _ _ _ hs) rfl rfl ?_ | refine AU ?_ | ((with_reducible refine IF.mk (fun h => ?_) (fun h => ?_)) <;> (try simp (disch := omega) only [hsB, hsC, lnB, wrap64, wrap32, simprocAttr] at h) <;> try (exfalso; omega))) <;> conv => whnf)
    · rw [if_neg (by simp [partOK, h])] at hx
      exact FIN.here h0 (rc := .bool _) (Oc := [(2, tg6 L E S R 3 v 4 x z)]) rfl rfl rfl ⟨rfl, trivial⟩ ⟨z, congrArg SV.bool (decide_eq_false (by omega)).symm, rfl, rfl⟩
    · rw [if_pos (by simp [partOK, h])] at hx
      refine ⟨i + 1, ⟨by omega, by omega, by rw [hx, show a + (i + 1) = a + i + 1 by omega]; omega⟩, by omega, ?_⟩
      conv => whnf
      exact GOES.cA h0
  · rw [show ps.drop (a + i) = [] from List.drop_eq_nil_of_le (by omega)] at hx
    simp only [spanM] at hx
    repeat' ((first | refine AU ?_ | ((with_reducible refine IF.mk (fun h => ?_) (fun h => ?_)) <;> (try simp (disch := omega) only [hsB, hsC, lnB, wrap64, wrap32, simprocAttr] at h) <;> try (exfalso; omega))) <;> conv => whnf)
    exact FIN.here h0 (rc := .bool _) (Oc := [(2, tg6 L E S R 3 v 4 x z)]) rfl rfl rfl ⟨rfl, trivial⟩ ⟨z, congrArg SV.bool (decide_eq_true (by omega)).symm, rfl, rfl⟩
end Go.Proofs.YtjbbkimodgffiaaGreatDoor
/- The reference's tags, walked: whether it is one. Conditions: none. -/
set_option linter.unusedVariables false
set_option linter.unusedSimpArgs false
set_option maxRecDepth 20000
set_option maxHeartbeats 8000000
namespace Go.Proofs.YtjbbkimodgffiaaGreatDoor
open Go.Sx Go.Our
theorem low_x (s : List UInt8) : (lowerM s != [120]) = !privateM s := by rw [private_lower]; rfl
def rd6' (i m : Nat) : Hp := .box [.sl (.loc 2) i 1 m none]
def tz6 : Hp := .box [.str [], .str [], .str [], .str [], .val (.slice none 0 0), .val (.slice none 0 0), .str []]
def frT : Fr := [(2, .ptr (.loc 0) 0 0 0), (4, .ptr (.loc 1) 0 0 0), (5, .ptr (.loc 3) 0 0 0)]
def OT (ps : List (List UInt8)) (a : Nat) (L E S R : List UInt8) : Hps := [(0, tz6), (1, tg6 L E S R 4 0 5 0 []), (2, .rows 1 (ps.map strRow)), (3, rd6' a (ps.length - a)), (4, .rows 1 []), (5, .rows 1 [])]
def contP (l : List (List UInt8)) : Bool := match varsP [] l with
  | none => false
  | some (l, seen) => match extsP seen l with
    | none => false
    | some l => lastP l
theorem more44 : moreM 4 4 false = fun s => madeM s 4 4 true := funext (more_made 4 4)
theorem variant_len {s : List UInt8} (h : variantM s = true) : 4 ≤ s.length := by
  unfold variantM at h
  simp only [Bool.or_eq_true, Bool.and_eq_true] at h
  rcases h with h | h
  · have := made_len h; omega
  · have := made_len h.1; omega
set_option maxHeartbeats 8000000 in
theorem tag6_does (s : List UInt8) (hs : s.length ≤ 8589934592) : Does Tryz.prog tab 127 0 [.str s] [] [] (Val (.tup [.agg (anyN 7), .int .i64 (if tagP (splitM s) = true then 0 else 61)])) := by
  have hbulk := split_bulk s
  have hlen := split_len s
  have hne := split_ne s
  generalize hps : splitM s = ps at *
  have hb : bulkM ps + ps.length ≤ 34359738368 := by unfold bulkM; omega
  have hsm := bulk_sm (ps := ps) (by omega)
  obtain ⟨p0, hp0⟩ : ∃ p0, ps[0]? = some p0 := by
    cases ps with
    | nil => exact (hne rfl).elim
    | cons a t => exact ⟨a, rfl⟩
  have hp0l := hsm p0 (List.mem_of_getElem? hp0)
  have hhead : headIs privateM ps = privateM p0 := by
    cases ps with
    | nil => cases hp0
    | cons a t => have : a = p0 := by simpa using hp0
                  subst this; rfl
  refine Does.enter tabOK (g := 127) (fn := Tryz.f127) Tryz.call127 Tryz.func127 rfl 152 rfl rfl [.cell 2 147, .tmp 3] rfl ?_
  intro w0 F η0 h0
  conv => whnf
  apply loopOnce (X := Nat × List UInt8 × List UInt8 × List UInt8 × List UInt8) (n := 6) (fun x => tagP ps = contP (ps.drop x.1) ∧ x.1 ≤ ps.length) (fun _ => frT) (fun x => OT ps x.1 x.2.1 x.2.2.1 x.2.2.2.1 x.2.2.2.2)
  intro K
  refine CALL.newS (r6parts_does s (by omega)) rfl (plainStrs _) ?_
  rw [hps, List.length_map]
  have hpos : 0 < ps.length := (List.getElem?_eq_some_iff.1 hp0).1
  conv => whnf
  repeat' ((first | (refine GET.at (row := strRow p0) (by rw [List.getElem?_map, show 0 + (0 : Int).toNat = 0 by simp, hp0]; rfl) ?_; conv => whnf) | refine AU ?_ | ((with_reducible refine IF.mk (fun h => ?_) (fun h => ?_)) <;> (try simp (disch := omega) only [hsB, hsC, lnB, wrap64, wrap32, simprocAttr] at h) <;> try (exfalso; omega))) <;> conv => whnf)
  refine CALL.nilCell 1 4 1 rfl rfl ?_
  refine CALL.nilCell 1 5 1 rfl rfl ?_
  refine CALL.value (r6lower_does _ hp0l) rfl rfl ?_
  conv => whnf
  refine IF.mk (fun h => ?_) (fun h => ?_)
  · rw [low_x] at h
    have hpr : headIs privateM ps = false := by rw [hhead]; simpa using h
    have hcont : ∀ l, langP (ps.drop 0) = some l → tagP ps = contP (skipIf regionM (skipIf (fun s => madeM s 4 4 true) l)) := by
      intro l hl
      have hl : langP ps = some l := hl
      unfold tagP contP
      rw [if_neg (by simp [hpr]), hl]
      simp only [restP]
      cases varsP [] (skipIf regionM (skipIf (fun s => madeM s 4 4 true) l)) with
      | none => rfl
      | some x => obtain ⟨l', seen⟩ := x; rfl
    conv => whnf
    refine CALL.aA [3, 2, 1, 4, 5] (language6_does ps (by omega) 0 ps.length (by omega)) ?_
    rintro r O' nx' ⟨i1, m1, L, E, him1, rfl, hL, rfl, rfl⟩
    cases h2 : langP (ps.drop 0) with
    | none =>
      have htag : tagP ps = false := by
        have h2 : langP ps = none := h2
        unfold tagP; rw [if_neg (by simp [hpr]), h2]
      rw [Option.isSome_none]
      conv => whnf
      repeat' ((first | refine AU ?_ | ((with_reducible refine IF.mk (fun h => ?_) (fun h => ?_)) <;> (try simp (disch := omega) only [hsB, hsC, lnB, wrap64, wrap32, simprocAttr] at h) <;> try (exfalso; omega))) <;> conv => whnf)
      refine FIN.anyA 7 h0 rfl rfl rfl ⟨?_, rfl, rfl⟩
      rw [htag]; rfl
    | some l1 =>
      obtain ⟨hl1, hLne⟩ := hL l1 h2
      subst hl1
      have hc1 := hcont _ h2
      rw [Option.isSome_some]
      conv => whnf
      repeat' ((first | (refine IF.yes (b := L != []) (by simpa using hLne) ?_; conv => whnf) | refine AU ?_ | ((with_reducible refine IF.mk (fun h => ?_) (fun h => ?_)) <;> (try simp (disch := omega) only [hsB, hsC, lnB, wrap64, wrap32, simprocAttr] at h) <;> try (exfalso; omega))) <;> conv => whnf)
      refine CALL.aA [3, 2] (more_does 4 4 false ps hsm i1 m1 him1) ?_
      rintro r O' nx' ⟨rfl, rfl, rfl⟩
      rw [more44]
      conv => whnf
      (repeat (first | ((with_reducible refine IF.tt ?_); conv => whnf) | ((with_reducible refine IF.ff ?_); conv => whnf)))
      refine IF.mk (fun h4 => ?_) (fun h4 => ?_)
      · obtain ⟨w1, hw1, hwm1⟩ := sees_yes h4
        have hlt1 := (List.getElem?_eq_some_iff.1 hw1).1
        obtain ⟨k1, rfl⟩ : ∃ k1, m1 = k1 + 1 := ⟨m1 - 1, by omega⟩
        rw [skip_yes hw1 hwm1] at hc1
        conv => whnf
        refine CALL.aA [3, 2] (next6_does ps i1 k1 him1 w1 hw1) ?_
        rintro r O' nx' ⟨rfl, rfl, rfl⟩
        conv => whnf
        repeat' ((first | (refine IF.yes (b := L != []) (by simpa using hLne) ?_; conv => whnf) | refine AU ?_ | ((with_reducible refine IF.mk (fun h => ?_) (fun h => ?_)) <;> (try simp (disch := omega) only [hsB, hsC, lnB, wrap64, wrap32, simprocAttr] at h) <;> try (exfalso; omega))) <;> conv => whnf)
        refine CALL.aA [3, 2] (more_does 2 2 false ps hsm (i1 + 1) (k1) (by omega)) ?_
        rintro r O' nx' ⟨rfl, rfl, rfl⟩
        conv => whnf
        (repeat (first | ((with_reducible refine IF.tt ?_); conv => whnf) | ((with_reducible refine IF.ff ?_); conv => whnf)))
        refine IF.mk (fun h5 => ?_) (fun h5 => ?_)
        · have hsee : ∃ q, ps[i1 + 1]? = some q ∧ regionM q = true := by
            obtain ⟨q, hq, hqm⟩ := sees_yes h5
            exact ⟨q, hq, by rw [region_more, hqm]; rfl⟩
          conv => whnf
          repeat' ((first | refine AU ?_ | ((with_reducible refine IF.mk (fun h => ?_) (fun h => ?_)) <;> (try simp (disch := omega) only [hsB, hsC, lnB, wrap64, wrap32, simprocAttr] at h) <;> try (exfalso; omega))) <;> conv => whnf)
          obtain ⟨q, hq, hqm⟩ := hsee
          have hlt2 := (List.getElem?_eq_some_iff.1 hq).1
          obtain ⟨k2, hk2⟩ : ∃ k2, k1 = k2 + 1 := ⟨k1 - 1, by omega⟩
          have htag : tagP ps = contP (ps.drop (i1 + 1 + 1)) := by rw [hc1, skip_yes hq hqm]
          rw [hk2]
          conv => whnf
          refine CALL.aA [3, 2] (next6_does ps (i1 + 1) k2 (by omega) q hq) ?_
          rintro r O' nx' ⟨rfl, rfl, rfl⟩
          conv => whnf
          refine LOOP.goes (fr' := frT) (O' := OT ps (i1 + 1 + 1) L E w1 q) (n1 := 6) ?_ (K (i1 + 1 + 1, L, E, w1, q) ⟨htag, by simp only; omega⟩)
          unfold frT OT
          rw [show ps.length - (i1 + 1 + 1) = k2 by omega]
          (refine GOES.keeping h0 [0, 1, 2, 3, 4, 5] rfl rfl rfl (by first | rfl | (simp only [belowO, belowH, plainLL_below _ (plainStrs _), Bool.and_self, Bool.and_true] <;> rfl)) ?_ ?_ <;> (repeat' (first | (with_reducible rfl) | (exact rows_eq (plainStrs _) (renLL_plain _ (plainStrs _))) | (exact rows_eq (plainStrs _) (by simp [strRow, ofVal, List.take_of_length_le])) | (exact sl_eq rfl (by first | (simp; done) | omega | (simp; omega))) | (exact congrArg (SV.int _) (by first | omega | (simp (disch := omega) only [lnB, wrap64, wrap32] <;> omega) | (simp; done) | (simp <;> omega))) | ((conv => whnf); refine ⟨?_, ?_⟩) | exact trivial | (simp only [ren, renB]; done) | rfl)))
        · conv => whnf
          repeat' ((first | refine AU ?_ | ((with_reducible refine IF.mk (fun h => ?_) (fun h => ?_)) <;> (try simp (disch := omega) only [hsB, hsC, lnB, wrap64, wrap32, simprocAttr] at h) <;> try (exfalso; omega))) <;> conv => whnf)
          refine CALL.aA [3, 2] (more_does 3 3 true ps hsm (i1 + 1) (k1) (by omega)) ?_
          rintro r O' nx' ⟨rfl, rfl, rfl⟩
          conv => whnf
          (repeat (first | ((with_reducible refine IF.tt ?_); conv => whnf) | ((with_reducible refine IF.ff ?_); conv => whnf)))
          refine IF.mk (fun h6 => ?_) (fun h6 => ?_)
          · have hsee : ∃ q, ps[i1 + 1]? = some q ∧ regionM q = true := by
              obtain ⟨q, hq, hqm⟩ := sees_yes h6
              exact ⟨q, hq, by rw [region_more, hqm, Bool.or_true]⟩
            conv => whnf
            repeat' ((first | refine AU ?_ | ((with_reducible refine IF.mk (fun h => ?_) (fun h => ?_)) <;> (try simp (disch := omega) only [hsB, hsC, lnB, wrap64, wrap32, simprocAttr] at h) <;> try (exfalso; omega))) <;> conv => whnf)
            obtain ⟨q, hq, hqm⟩ := hsee
            have hlt2 := (List.getElem?_eq_some_iff.1 hq).1
            obtain ⟨k2, hk2⟩ : ∃ k2, k1 = k2 + 1 := ⟨k1 - 1, by omega⟩
            have htag : tagP ps = contP (ps.drop (i1 + 1 + 1)) := by rw [hc1, skip_yes hq hqm]
            rw [hk2]
            conv => whnf
            refine CALL.aA [3, 2] (next6_does ps (i1 + 1) k2 (by omega) q hq) ?_
            rintro r O' nx' ⟨rfl, rfl, rfl⟩
            conv => whnf
            refine LOOP.goes (fr' := frT) (O' := OT ps (i1 + 1 + 1) L E w1 q) (n1 := 6) ?_ (K (i1 + 1 + 1, L, E, w1, q) ⟨htag, by simp only; omega⟩)
            unfold frT OT
            rw [show ps.length - (i1 + 1 + 1) = k2 by omega]
            (refine GOES.keeping h0 [0, 1, 2, 3, 4, 5] rfl rfl rfl (by first | rfl | (simp only [belowO, belowH, plainLL_below _ (plainStrs _), Bool.and_self, Bool.and_true] <;> rfl)) ?_ ?_ <;> (repeat' (first | (with_reducible rfl) | (exact rows_eq (plainStrs _) (renLL_plain _ (plainStrs _))) | (exact rows_eq (plainStrs _) (by simp [strRow, ofVal, List.take_of_length_le])) | (exact sl_eq rfl (by first | (simp; done) | omega | (simp; omega))) | (exact congrArg (SV.int _) (by first | omega | (simp (disch := omega) only [lnB, wrap64, wrap32] <;> omega) | (simp; done) | (simp <;> omega))) | ((conv => whnf); refine ⟨?_, ?_⟩) | exact trivial | (simp only [ren, renB]; done) | rfl)))
          · have hsee : seesM regionM ps (i1 + 1) = false := by
              unfold seesM at *
              cases hq : ps[i1 + 1]? with
              | none => rfl
              | some q => rw [hq] at h5 h6; simp only at h5 h6 ⊢; rw [region_more, h5]; exact h6
            have htag : tagP ps = contP (ps.drop (i1 + 1)) := by rw [hc1, skip_no hsee]
            conv => whnf
            repeat' ((first | refine AU ?_ | ((with_reducible refine IF.mk (fun h => ?_) (fun h => ?_)) <;> (try simp (disch := omega) only [hsB, hsC, lnB, wrap64, wrap32, simprocAttr] at h) <;> try (exfalso; omega))) <;> conv => whnf)
            refine LOOP.goes (fr' := frT) (O' := OT ps (i1 + 1) L E w1 []) (n1 := 6) ?_ (K (i1 + 1, L, E, w1, []) ⟨htag, by simp only; omega⟩)
            unfold frT OT
            rw [show ps.length - (i1 + 1) = k1 by omega]
            (refine GOES.keeping h0 [0, 1, 2, 3, 4, 5] rfl rfl rfl (by first | rfl | (simp only [belowO, belowH, plainLL_below _ (plainStrs _), Bool.and_self, Bool.and_true] <;> rfl)) ?_ ?_ <;> (repeat' (first | (with_reducible rfl) | (exact rows_eq (plainStrs _) (renLL_plain _ (plainStrs _))) | (exact rows_eq (plainStrs _) (by simp [strRow, ofVal, List.take_of_length_le])) | (exact sl_eq rfl (by first | (simp; done) | omega | (simp; omega))) | (exact congrArg (SV.int _) (by first | omega | (simp (disch := omega) only [lnB, wrap64, wrap32] <;> omega) | (simp; done) | (simp <;> omega))) | ((conv => whnf); refine ⟨?_, ?_⟩) | exact trivial | (simp only [ren, renB]; done) | rfl)))
      · rw [skip_no h4] at hc1
        conv => whnf
        repeat' ((first | (refine IF.yes (b := L != []) (by simpa using hLne) ?_; conv => whnf) | refine AU ?_ | ((with_reducible refine IF.mk (fun h => ?_) (fun h => ?_)) <;> (try simp (disch := omega) only [hsB, hsC, lnB, wrap64, wrap32, simprocAttr] at h) <;> try (exfalso; omega))) <;> conv => whnf)
        refine CALL.aA [3, 2] (more_does 2 2 false ps hsm (i1) (m1) (by omega)) ?_
        rintro r O' nx' ⟨rfl, rfl, rfl⟩
        conv => whnf
        (repeat (first | ((with_reducible refine IF.tt ?_); conv => whnf) | ((with_reducible refine IF.ff ?_); conv => whnf)))
        refine IF.mk (fun h5 => ?_) (fun h5 => ?_)
        · have hsee : ∃ q, ps[i1]? = some q ∧ regionM q = true := by
            obtain ⟨q, hq, hqm⟩ := sees_yes h5
            exact ⟨q, hq, by rw [region_more, hqm]; rfl⟩
          conv => whnf
          repeat' ((first | refine AU ?_ | ((with_reducible refine IF.mk (fun h => ?_) (fun h => ?_)) <;> (try simp (disch := omega) only [hsB, hsC, lnB, wrap64, wrap32, simprocAttr] at h) <;> try (exfalso; omega))) <;> conv => whnf)
          obtain ⟨q, hq, hqm⟩ := hsee
          have hlt2 := (List.getElem?_eq_some_iff.1 hq).1
          obtain ⟨k2, hk2⟩ : ∃ k2, m1 = k2 + 1 := ⟨m1 - 1, by omega⟩
          have htag : tagP ps = contP (ps.drop (i1 + 1)) := by rw [hc1, skip_yes hq hqm]
          rw [hk2]
          conv => whnf
          refine CALL.aA [3, 2] (next6_does ps (i1) k2 (by omega) q hq) ?_
          rintro r O' nx' ⟨rfl, rfl, rfl⟩
          conv => whnf
          refine LOOP.goes (fr' := frT) (O' := OT ps (i1 + 1) L E [] q) (n1 := 6) ?_ (K (i1 + 1, L, E, [], q) ⟨htag, by simp only; omega⟩)
          unfold frT OT
          rw [show ps.length - (i1 + 1) = k2 by omega]
          (refine GOES.keeping h0 [0, 1, 2, 3, 4, 5] rfl rfl rfl (by first | rfl | (simp only [belowO, belowH, plainLL_below _ (plainStrs _), Bool.and_self, Bool.and_true] <;> rfl)) ?_ ?_ <;> (repeat' (first | (with_reducible rfl) | (exact rows_eq (plainStrs _) (renLL_plain _ (plainStrs _))) | (exact rows_eq (plainStrs _) (by simp [strRow, ofVal, List.take_of_length_le])) | (exact sl_eq rfl (by first | (simp; done) | omega | (simp; omega))) | (exact congrArg (SV.int _) (by first | omega | (simp (disch := omega) only [lnB, wrap64, wrap32] <;> omega) | (simp; done) | (simp <;> omega))) | ((conv => whnf); refine ⟨?_, ?_⟩) | exact trivial | (simp only [ren, renB]; done) | rfl)))
        · conv => whnf
          repeat' ((first | refine AU ?_ | ((with_reducible refine IF.mk (fun h => ?_) (fun h => ?_)) <;> (try simp (disch := omega) only [hsB, hsC, lnB, wrap64, wrap32, simprocAttr] at h) <;> try (exfalso; omega))) <;> conv => whnf)
          refine CALL.aA [3, 2] (more_does 3 3 true ps hsm (i1) (m1) (by omega)) ?_
          rintro r O' nx' ⟨rfl, rfl, rfl⟩
          conv => whnf
          (repeat (first | ((with_reducible refine IF.tt ?_); conv => whnf) | ((with_reducible refine IF.ff ?_); conv => whnf)))
          refine IF.mk (fun h6 => ?_) (fun h6 => ?_)
          · have hsee : ∃ q, ps[i1]? = some q ∧ regionM q = true := by
              obtain ⟨q, hq, hqm⟩ := sees_yes h6
              exact ⟨q, hq, by rw [region_more, hqm, Bool.or_true]⟩
            conv => whnf
            repeat' ((first | refine AU ?_ | ((with_reducible refine IF.mk (fun h => ?_) (fun h => ?_)) <;> (try simp (disch := omega) only [hsB, hsC, lnB, wrap64, wrap32, simprocAttr] at h) <;> try (exfalso; omega))) <;> conv => whnf)
            obtain ⟨q, hq, hqm⟩ := hsee
            have hlt2 := (List.getElem?_eq_some_iff.1 hq).1
            obtain ⟨k2, hk2⟩ : ∃ k2, m1 = k2 + 1 := ⟨m1 - 1, by omega⟩
            have htag : tagP ps = contP (ps.drop (i1 + 1)) := by rw [hc1, skip_yes hq hqm]
            rw [hk2]
            conv => whnf
            refine CALL.aA [3, 2] (next6_does ps (i1) k2 (by omega) q hq) ?_
            rintro r O' nx' ⟨rfl, rfl, rfl⟩
            conv => whnf
            refine LOOP.goes (fr' := frT) (O' := OT ps (i1 + 1) L E [] q) (n1 := 6) ?_ (K (i1 + 1, L, E, [], q) ⟨htag, by simp only; omega⟩)
            unfold frT OT
            rw [show ps.length - (i1 + 1) = k2 by omega]
            (refine GOES.keeping h0 [0, 1, 2, 3, 4, 5] rfl rfl rfl (by first | rfl | (simp only [belowO, belowH, plainLL_below _ (plainStrs _), Bool.and_self, Bool.and_true] <;> rfl)) ?_ ?_ <;> (repeat' (first | (with_reducible rfl) | (exact rows_eq (plainStrs _) (renLL_plain _ (plainStrs _))) | (exact rows_eq (plainStrs _) (by simp [strRow, ofVal, List.take_of_length_le])) | (exact sl_eq rfl (by first | (simp; done) | omega | (simp; omega))) | (exact congrArg (SV.int _) (by first | omega | (simp (disch := omega) only [lnB, wrap64, wrap32] <;> omega) | (simp; done) | (simp <;> omega))) | ((conv => whnf); refine ⟨?_, ?_⟩) | exact trivial | (simp only [ren, renB]; done) | rfl)))
          · have hsee : seesM regionM ps (i1) = false := by
              unfold seesM at *
              cases hq : ps[i1]? with
              | none => rfl
              | some q => rw [hq] at h5 h6; simp only at h5 h6 ⊢; rw [region_more, h5]; exact h6
            have htag : tagP ps = contP (ps.drop (i1)) := by rw [hc1, skip_no hsee]
            conv => whnf
            repeat' ((first | refine AU ?_ | ((with_reducible refine IF.mk (fun h => ?_) (fun h => ?_)) <;> (try simp (disch := omega) only [hsB, hsC, lnB, wrap64, wrap32, simprocAttr] at h) <;> try (exfalso; omega))) <;> conv => whnf)
            refine LOOP.goes (fr' := frT) (O' := OT ps (i1) L E [] []) (n1 := 6) ?_ (K (i1, L, E, [], []) ⟨htag, by simp only; omega⟩)
            unfold frT OT
            rw [show ps.length - (i1) = m1 by omega]
            (refine GOES.keeping h0 [0, 1, 2, 3, 4, 5] rfl rfl rfl (by first | rfl | (simp only [belowO, belowH, plainLL_below _ (plainStrs _), Bool.and_self, Bool.and_true] <;> rfl)) ?_ ?_ <;> (repeat' (first | (with_reducible rfl) | (exact rows_eq (plainStrs _) (renLL_plain _ (plainStrs _))) | (exact rows_eq (plainStrs _) (by simp [strRow, ofVal, List.take_of_length_le])) | (exact sl_eq rfl (by first | (simp; done) | omega | (simp; omega))) | (exact congrArg (SV.int _) (by first | omega | (simp (disch := omega) only [lnB, wrap64, wrap32] <;> omega) | (simp; done) | (simp <;> omega))) | ((conv => whnf); refine ⟨?_, ?_⟩) | exact trivial | (simp only [ren, renB]; done) | rfl)))
  · rw [low_x] at h
    have hpr : privateM p0 = true := by simpa using h
    have htag : tagP ps = contP (ps.drop 0) := by
      unfold tagP contP
      rw [if_pos (by rw [hhead, hpr]), drop_at hp0]
      have h4 : ¬ 4 ≤ p0.length := by
        have := hpr; unfold privateM at this; simp at this
        rcases this with rfl | rfl <;> simp
      have hv : variantM p0 ≠ true := fun h => h4 (variant_len h)
      simp only [varsP]
      rw [if_neg hv]
      simp only
      rw [extsP, if_neg (by unfold singleM; simp [hpr])]
      simp only
      rw [← drop_at hp0]; rfl
    conv => whnf
    repeat' ((first | refine AU ?_ | ((with_reducible refine IF.mk (fun h => ?_) (fun h => ?_)) <;> (try simp (disch := omega) only [hsB, hsC, lnB, wrap64, wrap32, simprocAttr] at h) <;> try (exfalso; omega))) <;> conv => whnf)
    refine LOOP.goes (fr' := frT) (O' := OT ps (0) [] [] [] []) (n1 := 6) ?_ (K (0, [], [], [], []) ⟨htag, by simp only; omega⟩)
    unfold frT OT
    rw [show ps.length - (0) = ps.length by omega]
    (refine GOES.keeping h0 [0, 1, 2, 3, 4, 5] rfl rfl rfl (by first | rfl | (simp only [belowO, belowH, plainLL_below _ (plainStrs _), Bool.and_self, Bool.and_true] <;> rfl)) ?_ ?_ <;> (repeat' (first | (with_reducible rfl) | (exact rows_eq (plainStrs _) (renLL_plain _ (plainStrs _))) | (exact rows_eq (plainStrs _) (by simp [strRow, ofVal, List.take_of_length_le])) | (exact sl_eq rfl (by first | (simp; done) | omega | (simp; omega))) | (exact congrArg (SV.int _) (by first | omega | (simp (disch := omega) only [lnB, wrap64, wrap32] <;> omega) | (simp; done) | (simp <;> omega))) | ((conv => whnf); refine ⟨?_, ?_⟩) | exact trivial | (simp only [ren, renB]; done) | rfl)))
  rintro ⟨a0, L, E, S, R⟩ ⟨htag, ha0⟩
  dsimp only at htag ha0 ⊢
  unfold frT OT
  refine LOOP.go tabOK [2, 4, 5] (X := Nat × List (List UInt8)) (fun y => y.1 ≤ ps.length ∧ y.2.length ≤ y.1 ∧ (∀ s ∈ y.2, 4 ≤ s.length ∧ Sm s) ∧ varsP [] (ps.drop a0) = varsP (y.2.map lowerM) (ps.drop y.1)) (fun y => []) (fun y => [(0, tz6), (1, tg6 L E S R 4 y.2.length 5 0 []), (2, .rows 1 (ps.map strRow)), (3, rd6' y.1 (ps.length - y.1)), (4, .rows 1 (y.2.map strRow)), (5, .rows 1 [])]) 6 (fun y => ps.length - y.1) (a0, []) ⟨by simp only; omega, by simp, by simp, rfl⟩ ?_
  conv => whnf
  refine ⟨by (refine GOES.keeping h0 [0, 1, 2, 3, 4, 5] rfl rfl rfl (by first | rfl | (simp only [belowO, belowH, plainLL_below _ (plainStrs _), Bool.and_self, Bool.and_true] <;> rfl)) ?_ ?_ <;> (repeat' (first | (with_reducible rfl) | (exact rows_eq (plainStrs _) (renLL_plain _ (plainStrs _))) | (exact rows_eq (plainStrs _) (by simp [strRow, ofVal, List.take_of_length_le])) | (exact sl_eq rfl (by first | (simp; done) | omega | (simp; omega))) | (exact congrArg (SV.int _) (by first | omega | (simp (disch := omega) only [lnB, wrap64, wrap32] <;> omega) | (simp; done) | (simp <;> omega))) | ((conv => whnf); refine ⟨?_, ?_⟩) | exact trivial | (simp only [ren, renB]; done) | rfl))), ?_⟩
  rintro ⟨a, vs⟩ ⟨ha, hvl, hvs, hx⟩
  dsimp only at ha hvl hvs hx ⊢
  conv => whnf
  rcases Nat.lt_or_ge a ps.length with hap | hap
  · obtain ⟨w, hw⟩ : ∃ w, ps[a]? = some w := ⟨_, List.getElem?_eq_getElem hap⟩
    have hwl := hsm w (List.mem_of_getElem? hw)
    obtain ⟨k', hk'⟩ : ∃ k', ps.length - a = k' + 1 := ⟨ps.length - a - 1, by omega⟩
    repeat' ((first | (refine GET.at (row := strRow w) (by rw [List.getElem?_map, show a + (0 : Int).toNat = a by simp, hw]; rfl) ?_; conv => whnf) | refine CALL.value (r6variant_does _ hwl) rfl rfl ?_ | refine AU ?_ | ((with_reducible refine IF.mk (fun h => ?_) (fun h => ?_)) <;> (try simp (disch := omega) only [hsB, hsC, lnB, wrap64, wrap32, simprocAttr] at h) <;> try (exfalso; omega))) <;> conv => whnf)
    · have hvm : variantM w = true := by assumption
      have hv4 := variant_len hvm
      rw [hk']
      refine CALL.aA [3, 2] (next6_does ps a k' (by omega) w hw) ?_
      rintro r O' nx' ⟨rfl, rfl, rfl⟩
      have hxa : varsP (vs.map lowerM) (ps.drop a) = if lowerM w ∈ vs.map lowerM then none else varsP (vs.map lowerM ++ [lowerM w]) (ps.drop (a + 1)) := by
        rw [drop_at hw]; simp only [varsP]; rw [if_pos hvm]
      conv => whnf
      refine LOOP.go tabOK [2, 4, 5, 7] (X := Nat) (fun i => i ≤ vs.length ∧ lowerM w ∉ (vs.take i).map lowerM) (fun i => [(8, .int .i64 (i : Int))]) (fun i => [(0, tz6), (1, tg6 L E S R 4 vs.length 5 0 []), (2, .rows 1 (ps.map strRow)), (3, rd6' (a + 1) k'), (4, .rows 1 (vs.map strRow)), (5, .rows 1 [])]) 6 (fun i => vs.length - i) 0 ⟨by omega, by simp⟩ ?_
      conv => whnf
      refine ⟨by (refine GOES.keeping h0 [0, 1, 2, 3, 4, 5] rfl rfl rfl (by first | rfl | (simp only [belowO, belowH, plainLL_below _ (plainStrs _), Bool.and_self, Bool.and_true] <;> rfl)) ?_ ?_ <;> (repeat' (first | (with_reducible rfl) | (exact rows_eq (plainStrs _) (renLL_plain _ (plainStrs _))) | (exact rows_eq (plainStrs _) (by simp [strRow, ofVal, List.take_of_length_le])) | (exact sl_eq rfl (by first | (simp; done) | omega | (simp; omega))) | (exact congrArg (SV.int _) (by first | omega | (simp (disch := omega) only [lnB, wrap64, wrap32] <;> omega) | (simp; done) | (simp <;> omega))) | ((conv => whnf); refine ⟨?_, ?_⟩) | exact trivial | (simp only [ren, renB]; done) | rfl))), ?_⟩
      rintro i ⟨hi, hn⟩
      dsimp only at hi hn ⊢
      conv => whnf
      rcases Nat.lt_or_ge i vs.length with hiv | hiv
      · have hvi := (hvs _ (List.getElem_mem hiv)).2
        repeat' ((first | (refine GET.at (row := strRow (vs[i]'(by omega))) (by rw [List.getElem?_map, show 0 + (i : Int).toNat = i by simp, List.getElem?_eq_getElem (by omega)]; rfl) ?_; conv => whnf) | refine CALL.value (r6lower_does _ hvi) rfl rfl ?_ | refine CALL.value (r6lower_does _ hwl) rfl rfl ?_ | refine AU ?_ | ((with_reducible refine IF.mk (fun h => ?_) (fun h => ?_)) <;> (try simp (disch := omega) only [hsB, hsC, lnB, wrap64, wrap32, simprocAttr] at h) <;> try (exfalso; omega))) <;> conv => whnf)
        · have hin : lowerM w ∈ vs.map lowerM := by rw [← (by assumption : lowerM vs[i] = lowerM w)]; exact List.mem_map_of_mem (List.getElem_mem hiv)
          refine FIN.anyA 7 h0 rfl rfl rfl ⟨?_, rfl, rfl⟩
          rw [htag]; unfold contP; rw [hx, hxa, if_pos hin]; rfl
        · refine ⟨i + 1, ⟨by omega, ?_⟩, by omega, ?_⟩
          · rw [List.take_succ_eq_append_getElem hiv, List.map_append, List.mem_append]
            rintro (h1 | h1)
            · exact hn h1
            · have : lowerM w = lowerM vs[i] := by simpa using h1
              exact (by assumption : ¬ lowerM vs[i] = lowerM w) this.symm
          · conv => whnf
            (refine GOES.keeping h0 [0, 1, 2, 3, 4, 5] rfl rfl rfl (by first | rfl | (simp only [belowO, belowH, plainLL_below _ (plainStrs _), Bool.and_self, Bool.and_true] <;> rfl)) ?_ ?_ <;> (repeat' (first | (with_reducible rfl) | (exact rows_eq (plainStrs _) (renLL_plain _ (plainStrs _))) | (exact rows_eq (plainStrs _) (by simp [strRow, ofVal, List.take_of_length_le])) | (exact sl_eq rfl (by first | (simp; done) | omega | (simp; omega))) | (exact congrArg (SV.int _) (by first | omega | (simp (disch := omega) only [lnB, wrap64, wrap32] <;> omega) | (simp; done) | (simp <;> omega))) | ((conv => whnf); refine ⟨?_, ?_⟩) | exact trivial | (simp only [ren, renB]; done) | rfl)))
      · rw [List.take_of_length_le (by omega)] at hn
        repeat' ((first | refine AU ?_ | ((with_reducible refine IF.mk (fun h => ?_) (fun h => ?_)) <;> (try simp (disch := omega) only [hsB, hsC, lnB, wrap64, wrap32, simprocAttr] at h) <;> try (exfalso; omega))) <;> conv => whnf)
        have e : (vs ++ [w]).length = vs.length + 1 := by simp
        refine ⟨(a + 1, vs ++ [w]), ⟨by simp only; omega, by simp; omega, ?_, by simp only; rw [hx, hxa, if_neg hn]; simp⟩, by simp only; omega, ?_⟩
        · intro x hx'
          rcases List.mem_append.1 hx' with h1 | h1
          · exact hvs x h1
          · rw [List.mem_singleton.1 h1]; exact ⟨hv4, hwl⟩
        · dsimp only
          rw [e, show ps.length - (a + 1) = k' by omega]
          conv => whnf
          (refine GOES.keeping h0 [0, 1, 2, 3, 7, 5] rfl rfl rfl (by first | rfl | (simp only [belowO, belowH, plainLL_below _ (plainStrs _), Bool.and_self, Bool.and_true] <;> rfl)) ?_ ?_ <;> (repeat' (first | (with_reducible rfl) | (exact rows_eq (plainStrs _) (renLL_plain _ (plainStrs _))) | (exact rows_eq (plainStrs _) (by simp [strRow, ofVal, List.take_of_length_le])) | (exact sl_eq rfl (by first | (simp; done) | omega | (simp; omega))) | (exact congrArg (SV.int _) (by first | omega | (simp (disch := omega) only [lnB, wrap64, wrap32] <;> omega) | (simp; done) | (simp <;> omega))) | ((conv => whnf); refine ⟨?_, ?_⟩) | exact trivial | (simp only [ren, renB]; done) | rfl)))
    · have hvm : variantM w = false := by assumption
      have hv0 : varsP (vs.map lowerM) (ps.drop a) = some (ps.drop a, vs.map lowerM) := by
        rw [drop_at hw]; simp only [varsP]; rw [if_neg (by simp [hvm])]
      have hc0 : tagP ps = match extsP (vs.map lowerM) (ps.drop a) with | none => false | some l => lastP l := by rw [htag]; unfold contP; rw [hx, hv0]
      refine LOOP.go tabOK [2, 4, 5] (X := Nat × List (List UInt8)) (fun y => y.1 ≤ ps.length ∧ y.2.length ≤ y.1 ∧ (∀ x ∈ y.2, 1 ≤ x.length ∧ Sm x) ∧ extsP (vs.map lowerM) (ps.drop a) = extsP (vs.map lowerM ++ y.2.map fun x => lowerM (x.take 1)) (ps.drop y.1)) (fun y => []) (fun y => [(0, tz6), (1, tg6 L E S R 4 vs.length 5 y.2.length []), (2, .rows 1 (ps.map strRow)), (3, rd6' y.1 (ps.length - y.1)), (4, .rows 1 (vs.map strRow)), (5, .rows 1 (y.2.map strRow))]) 6 (fun y => ps.length - y.1) (a, []) ⟨by simp only; omega, by simp, by simp, by simp⟩ ?_
      conv => whnf
      refine ⟨by (refine GOES.keeping h0 [0, 1, 2, 3, 4, 5] rfl rfl rfl (by first | rfl | (simp only [belowO, belowH, plainLL_below _ (plainStrs _), Bool.and_self, Bool.and_true] <;> rfl)) ?_ ?_ <;> (repeat' (first | (with_reducible rfl) | (exact rows_eq (plainStrs _) (renLL_plain _ (plainStrs _))) | (exact rows_eq (plainStrs _) (by simp [strRow, ofVal, List.take_of_length_le])) | (exact sl_eq rfl (by first | (simp; done) | omega | (simp; omega))) | (exact congrArg (SV.int _) (by first | omega | (simp (disch := omega) only [lnB, wrap64, wrap32] <;> omega) | (simp; done) | (simp <;> omega))) | ((conv => whnf); refine ⟨?_, ?_⟩) | exact trivial | (simp only [ren, renB]; done) | rfl))), ?_⟩
      rintro ⟨b, xs⟩ ⟨hb1, hxl, hxs, hy⟩
      dsimp only at hb1 hxl hxs hy ⊢
      conv => whnf
      rcases Nat.lt_or_ge b ps.length with hbp | hbp
      · obtain ⟨u, hu⟩ : ∃ u, ps[b]? = some u := ⟨_, List.getElem?_eq_getElem hbp⟩
        have hul := hsm u (List.mem_of_getElem? hu)
        obtain ⟨k', hk'⟩ : ∃ k', ps.length - b = k' + 1 := ⟨ps.length - b - 1, by omega⟩
        clear hx hv0 hvl
        repeat' ((first | (refine GET.at (row := strRow u) (by rw [List.getElem?_map, show b + (0 : Int).toNat = b by simp, hu]; rfl) ?_; conv => whnf) | refine CALL.value (r6lower_does _ hul) rfl rfl ?_ | refine CALL.value (r6both_does _ _ _ hul) rfl rfl ?_ | refine AU ?_ | ((with_reducible refine IF.mk (fun h => ?_) (fun h => ?_)) <;> (try simp (disch := omega) only [hsB, hsC, lnB, wrap64, wrap32, simprocAttr] at h) <;> try (exfalso; omega))) <;> conv => whnf)
        all_goals try (exact absurd (by assumption : lowerM u = [120]) (by assumption))
        · have hnp : privateM u = false := by rw [private_lower]; simpa using (by assumption : ¬ lowerM u = [120])
          have hmm : madeM u 1 1 false = true := by assumption
          have hsg : singleM u = true := by unfold singleM; rw [hmm, hnp]; rfl
          have hu1 : u.length = 1 := by have := made_len hmm; omega
          rw [hk']
          refine CALL.aA [3, 2, 1, 4, 5] (extension6_does ps hb b k' (by omega) u hu hu1 L E S R vs.length [] xs hxs (by omega)) ?_
          rintro r O' nx' ⟨n, xs', hn, rfl, hz, rfl, rfl⟩
          have hnle : n ≤ (ps.drop (b + 1)).length := by rw [hn]; exact span_le _ _
          rw [List.length_drop] at hnle
          have hmem : lowerM u ∈ vs.map lowerM ++ (xs.map fun x => lowerM (x.take 1)) ↔ dupM xs u = true := by
            unfold dupM
            rw [List.mem_append, List.any_eq_true]
            constructor
            · rintro (h | h)
              · obtain ⟨v, hv, he⟩ := List.mem_map.1 h
                have h1 := (hvs v hv).1
                have h2 := congrArg List.length he
                unfold lowerM at h2; simp only [List.length_map] at h2; omega
              · obtain ⟨x, hx, he⟩ := List.mem_map.1 h
                exact ⟨x, hx, by simp [he]⟩
            · rintro ⟨x, hx, he⟩
              exact .inr (List.mem_map.2 ⟨x, hx, by simpa using he⟩)
          have hya : extsP (vs.map lowerM ++ xs.map fun x => lowerM (x.take 1)) (ps.drop b) = if n = 0 ∨ dupM xs u = true then none else extsP ((vs.map lowerM ++ xs.map fun x => lowerM (x.take 1)) ++ [lowerM u]) (ps.drop (b + 1 + n)) := by
            rw [drop_at hu, extsP, if_pos hsg, ← hn, List.drop_drop]
            simp only [hmem]
          by_cases hgood : dupM xs u = false ∧ n ≠ 0
          · obtain ⟨z, rfl, hz1, hz2⟩ := hz hgood.1
            rw [show (!dupM xs u && decide (n ≠ 0)) = true by simp [hgood]]
            conv => whnf
            repeat' ((first | refine AU ?_ | ((with_reducible refine IF.mk (fun h => ?_) (fun h => ?_)) <;> (try simp (disch := omega) only [hsB, hsC, lnB, wrap64, wrap32, simprocAttr] at h) <;> try (exfalso; omega))) <;> conv => whnf)
            have e : (xs ++ [z]).length = xs.length + 1 := by simp
            refine ⟨(b + 1 + n, xs ++ [z]), ⟨by simp only; omega, by simp; omega, ?_, ?_⟩, by simp only; omega, ?_⟩
            · intro x hx'
              rcases List.mem_append.1 hx' with h1 | h1
              · exact hxs x h1
              · rw [List.mem_singleton.1 h1]
                refine ⟨?_, hz2⟩
                rcases z with _ | ⟨c, t⟩
                · simp at hz1; subst hz1; simp at hu1
                · simp
            · simp only
              rw [hy, hya, if_neg (by simp [hgood])]
              simp [hz1]
            · dsimp only
              rw [show ps.length - (b + 1 + n) = k' - n by omega]
              conv => whnf
              (refine GOES.keeping h0 [0, 1, 2, 3, 4, 6] rfl rfl rfl (by first | rfl | (simp only [belowO, belowH, plainLL_below _ (plainStrs _), Bool.and_self, Bool.and_true] <;> rfl)) ?_ ?_ <;> (repeat' (first | (with_reducible rfl) | (exact rows_eq (plainStrs _) (renLL_plain _ (plainStrs _))) | (exact rows_eq (plainStrs _) (by simp [strRow, ofVal, List.take_of_length_le])) | (exact sl_eq rfl (by first | (simp; done) | omega | (simp; omega))) | (exact congrArg (SV.int _) (by first | omega | (simp (disch := omega) only [lnB, wrap64, wrap32] <;> omega) | (simp; done) | (simp <;> omega))) | ((conv => whnf); refine ⟨?_, ?_⟩) | exact trivial | (simp only [ren, renB]; done) | rfl)))
          · have hbad : n = 0 ∨ dupM xs u = true := by
              rcases Nat.eq_zero_or_pos n with h | h
              · exact .inl h
              · right
                cases hd : dupM xs u with
                | true => rfl
                | false => exact absurd ⟨hd, by omega⟩ hgood
            have htf : tagP ps = false := by rw [hc0, hy, hya, if_pos hbad]
            rw [show (!dupM xs u && decide (n ≠ 0)) = false by rcases hbad with h | h <;> simp [h]]
            conv => whnf
            repeat' ((first | refine AU ?_ | ((with_reducible refine IF.mk (fun h => ?_) (fun h => ?_)) <;> (try simp (disch := omega) only [hsB, hsC, lnB, wrap64, wrap32, simprocAttr] at h) <;> try (exfalso; omega))) <;> conv => whnf)
            refine FIN.anyA 7 h0 rfl rfl rfl ⟨?_, rfl, rfl⟩
            rw [htf]; rfl
        · have hnp : privateM u = false := by rw [private_lower]; simpa using (by assumption : ¬ lowerM u = [120])
          have hmm : madeM u 1 1 false = false := by assumption
          have hsg : ¬ singleM u = true := by unfold singleM; simp [hmm]
          have hlast : tagP ps = false := by
            rw [hc0, hy, drop_at hu, extsP, if_neg hsg]; simp only [lastP]; rw [if_neg (by simp [hnp])]
          refine FIN.anyA 7 h0 rfl rfl rfl ⟨?_, rfl, rfl⟩
          rw [hlast]; rfl
        · have hpv : privateM u = true := by rw [private_lower]; simpa using (by assumption : lowerM u = [120])
          have hsg : ¬ singleM u = true := by unfold singleM; simp [hpv]
          have hlast : tagP ps = decide (spanM (partOK 1) (ps.drop (b + 1)) ≠ 0 ∧ spanM (partOK 1) (ps.drop (b + 1)) = (ps.drop (b + 1)).length) := by
            rw [hc0, hy, drop_at hu, extsP, if_neg hsg]; simp only [lastP]; rw [if_pos hpv]
          refine CALL.aA [3, 2, 1, 4, 5] (private6_does ps hb b (ps.length - b) (by omega) hbp L E S R vs.length xs.length []) ?_
          rintro r O' nx' ⟨P', rfl, rfl, rfl⟩
          rw [← hlast]
          cases htf : tagP ps with
          | true =>
            conv => whnf
            repeat' ((first | refine AU ?_ | ((with_reducible refine IF.mk (fun h => ?_) (fun h => ?_)) <;> (try simp (disch := omega) only [hsB, hsC, lnB, wrap64, wrap32, simprocAttr] at h) <;> try (exfalso; omega))) <;> conv => whnf)
            exact FIN.anyA 7 h0 rfl rfl rfl ⟨rfl, rfl, rfl⟩
          | false =>
            conv => whnf
            repeat' ((first | refine AU ?_ | ((with_reducible refine IF.mk (fun h => ?_) (fun h => ?_)) <;> (try simp (disch := omega) only [hsB, hsC, lnB, wrap64, wrap32, simprocAttr] at h) <;> try (exfalso; omega))) <;> conv => whnf)
            exact FIN.anyA 7 h0 rfl rfl rfl ⟨rfl, rfl, rfl⟩
      · repeat' ((first | refine AU ?_ | ((with_reducible refine IF.mk (fun h => ?_) (fun h => ?_)) <;> (try simp (disch := omega) only [hsB, hsC, lnB, wrap64, wrap32, simprocAttr] at h) <;> try (exfalso; omega))) <;> conv => whnf)
        have hlast : tagP ps = true := by rw [hc0, hy, List.drop_eq_nil_of_le (by omega), extsP]; rfl
        refine FIN.anyA 7 h0 rfl rfl rfl ⟨?_, rfl, rfl⟩
        rw [hlast]; rfl
  · repeat' ((first | refine AU ?_ | ((with_reducible refine IF.mk (fun h => ?_) (fun h => ?_)) <;> (try simp (disch := omega) only [hsB, hsC, lnB, wrap64, wrap32, simprocAttr] at h) <;> try (exfalso; omega))) <;> conv => whnf)
    have hv0 : varsP (vs.map lowerM) (ps.drop a) = some (ps.drop a, vs.map lowerM) := by
      rw [List.drop_eq_nil_of_le (by omega)]; rfl
    have hc0 : tagP ps = match extsP (vs.map lowerM) (ps.drop a) with | none => false | some l => lastP l := by rw [htag]; unfold contP; rw [hx, hv0]
    refine LOOP.go tabOK [2, 4, 5] (X := Nat × List (List UInt8)) (fun y => y.1 ≤ ps.length ∧ y.2.length ≤ y.1 ∧ (∀ x ∈ y.2, 1 ≤ x.length ∧ Sm x) ∧ extsP (vs.map lowerM) (ps.drop a) = extsP (vs.map lowerM ++ y.2.map fun x => lowerM (x.take 1)) (ps.drop y.1)) (fun y => []) (fun y => [(0, tz6), (1, tg6 L E S R 4 vs.length 5 y.2.length []), (2, .rows 1 (ps.map strRow)), (3, rd6' y.1 (ps.length - y.1)), (4, .rows 1 (vs.map strRow)), (5, .rows 1 (y.2.map strRow))]) 6 (fun y => ps.length - y.1) (a, []) ⟨by simp only; omega, by simp, by simp, by simp⟩ ?_
    conv => whnf
    refine ⟨by (refine GOES.keeping h0 [0, 1, 2, 3, 4, 5] rfl rfl rfl (by first | rfl | (simp only [belowO, belowH, plainLL_below _ (plainStrs _), Bool.and_self, Bool.and_true] <;> rfl)) ?_ ?_ <;> (repeat' (first | (with_reducible rfl) | (exact rows_eq (plainStrs _) (renLL_plain _ (plainStrs _))) | (exact rows_eq (plainStrs _) (by simp [strRow, ofVal, List.take_of_length_le])) | (exact sl_eq rfl (by first | (simp; done) | omega | (simp; omega))) | (exact congrArg (SV.int _) (by first | omega | (simp (disch := omega) only [lnB, wrap64, wrap32] <;> omega) | (simp; done) | (simp <;> omega))) | ((conv => whnf); refine ⟨?_, ?_⟩) | exact trivial | (simp only [ren, renB]; done) | rfl))), ?_⟩
    rintro ⟨b, xs⟩ ⟨hb1, hxl, hxs, hy⟩
    dsimp only at hb1 hxl hxs hy ⊢
    conv => whnf
    rcases Nat.lt_or_ge b ps.length with hbp | hbp
    · obtain ⟨u, hu⟩ : ∃ u, ps[b]? = some u := ⟨_, List.getElem?_eq_getElem hbp⟩
      have hul := hsm u (List.mem_of_getElem? hu)
      obtain ⟨k', hk'⟩ : ∃ k', ps.length - b = k' + 1 := ⟨ps.length - b - 1, by omega⟩
      clear hx hv0 hvl
      repeat' ((first | (refine GET.at (row := strRow u) (by rw [List.getElem?_map, show b + (0 : Int).toNat = b by simp, hu]; rfl) ?_; conv => whnf) | refine CALL.value (r6lower_does _ hul) rfl rfl ?_ | refine CALL.value (r6both_does _ _ _ hul) rfl rfl ?_ | refine AU ?_ | ((with_reducible refine IF.mk (fun h => ?_) (fun h => ?_)) <;> (try simp (disch := omega) only [hsB, hsC, lnB, wrap64, wrap32, simprocAttr] at h) <;> try (exfalso; omega))) <;> conv => whnf)
      all_goals try (exact absurd (by assumption : lowerM u = [120]) (by assumption))
      · have hnp : privateM u = false := by rw [private_lower]; simpa using (by assumption : ¬ lowerM u = [120])
        have hmm : madeM u 1 1 false = true := by assumption
        have hsg : singleM u = true := by unfold singleM; rw [hmm, hnp]; rfl
        have hu1 : u.length = 1 := by have := made_len hmm; omega
        rw [hk']
        refine CALL.aA [3, 2, 1, 4, 5] (extension6_does ps hb b k' (by omega) u hu hu1 L E S R vs.length [] xs hxs (by omega)) ?_
        rintro r O' nx' ⟨n, xs', hn, rfl, hz, rfl, rfl⟩
        have hnle : n ≤ (ps.drop (b + 1)).length := by rw [hn]; exact span_le _ _
        rw [List.length_drop] at hnle
        have hmem : lowerM u ∈ vs.map lowerM ++ (xs.map fun x => lowerM (x.take 1)) ↔ dupM xs u = true := by
          unfold dupM
          rw [List.mem_append, List.any_eq_true]
          constructor
          · rintro (h | h)
            · obtain ⟨v, hv, he⟩ := List.mem_map.1 h
              have h1 := (hvs v hv).1
              have h2 := congrArg List.length he
              unfold lowerM at h2; simp only [List.length_map] at h2; omega
            · obtain ⟨x, hx, he⟩ := List.mem_map.1 h
              exact ⟨x, hx, by simp [he]⟩
          · rintro ⟨x, hx, he⟩
            exact .inr (List.mem_map.2 ⟨x, hx, by simpa using he⟩)
        have hya : extsP (vs.map lowerM ++ xs.map fun x => lowerM (x.take 1)) (ps.drop b) = if n = 0 ∨ dupM xs u = true then none else extsP ((vs.map lowerM ++ xs.map fun x => lowerM (x.take 1)) ++ [lowerM u]) (ps.drop (b + 1 + n)) := by
          rw [drop_at hu, extsP, if_pos hsg, ← hn, List.drop_drop]
          simp only [hmem]
        by_cases hgood : dupM xs u = false ∧ n ≠ 0
        · obtain ⟨z, rfl, hz1, hz2⟩ := hz hgood.1
          rw [show (!dupM xs u && decide (n ≠ 0)) = true by simp [hgood]]
          conv => whnf
          repeat' ((first | refine AU ?_ | ((with_reducible refine IF.mk (fun h => ?_) (fun h => ?_)) <;> (try simp (disch := omega) only [hsB, hsC, lnB, wrap64, wrap32, simprocAttr] at h) <;> try (exfalso; omega))) <;> conv => whnf)
          have e : (xs ++ [z]).length = xs.length + 1 := by simp
          refine ⟨(b + 1 + n, xs ++ [z]), ⟨by simp only; omega, by simp; omega, ?_, ?_⟩, by simp only; omega, ?_⟩
          · intro x hx'
            rcases List.mem_append.1 hx' with h1 | h1
            · exact hxs x h1
            · rw [List.mem_singleton.1 h1]
              refine ⟨?_, hz2⟩
              rcases z with _ | ⟨c, t⟩
              · simp at hz1; subst hz1; simp at hu1
              · simp
          · simp only
            rw [hy, hya, if_neg (by simp [hgood])]
            simp [hz1]
          · dsimp only
            rw [show ps.length - (b + 1 + n) = k' - n by omega]
            conv => whnf
            (refine GOES.keeping h0 [0, 1, 2, 3, 4, 6] rfl rfl rfl (by first | rfl | (simp only [belowO, belowH, plainLL_below _ (plainStrs _), Bool.and_self, Bool.and_true] <;> rfl)) ?_ ?_ <;> (repeat' (first | (with_reducible rfl) | (exact rows_eq (plainStrs _) (renLL_plain _ (plainStrs _))) | (exact rows_eq (plainStrs _) (by simp [strRow, ofVal, List.take_of_length_le])) | (exact sl_eq rfl (by first | (simp; done) | omega | (simp; omega))) | (exact congrArg (SV.int _) (by first | omega | (simp (disch := omega) only [lnB, wrap64, wrap32] <;> omega) | (simp; done) | (simp <;> omega))) | ((conv => whnf); refine ⟨?_, ?_⟩) | exact trivial | (simp only [ren, renB]; done) | rfl)))
        · have hbad : n = 0 ∨ dupM xs u = true := by
            rcases Nat.eq_zero_or_pos n with h | h
            · exact .inl h
            · right
              cases hd : dupM xs u with
              | true => rfl
              | false => exact absurd ⟨hd, by omega⟩ hgood
          have htf : tagP ps = false := by rw [hc0, hy, hya, if_pos hbad]
          rw [show (!dupM xs u && decide (n ≠ 0)) = false by rcases hbad with h | h <;> simp [h]]
          conv => whnf
          repeat' ((first | refine AU ?_ | ((with_reducible refine IF.mk (fun h => ?_) (fun h => ?_)) <;> (try simp (disch := omega) only [hsB, hsC, lnB, wrap64, wrap32, simprocAttr] at h) <;> try (exfalso; omega))) <;> conv => whnf)
          refine FIN.anyA 7 h0 rfl rfl rfl ⟨?_, rfl, rfl⟩
          rw [htf]; rfl
      · have hnp : privateM u = false := by rw [private_lower]; simpa using (by assumption : ¬ lowerM u = [120])
        have hmm : madeM u 1 1 false = false := by assumption
        have hsg : ¬ singleM u = true := by unfold singleM; simp [hmm]
        have hlast : tagP ps = false := by
          rw [hc0, hy, drop_at hu, extsP, if_neg hsg]; simp only [lastP]; rw [if_neg (by simp [hnp])]
        refine FIN.anyA 7 h0 rfl rfl rfl ⟨?_, rfl, rfl⟩
        rw [hlast]; rfl
      · have hpv : privateM u = true := by rw [private_lower]; simpa using (by assumption : lowerM u = [120])
        have hsg : ¬ singleM u = true := by unfold singleM; simp [hpv]
        have hlast : tagP ps = decide (spanM (partOK 1) (ps.drop (b + 1)) ≠ 0 ∧ spanM (partOK 1) (ps.drop (b + 1)) = (ps.drop (b + 1)).length) := by
          rw [hc0, hy, drop_at hu, extsP, if_neg hsg]; simp only [lastP]; rw [if_pos hpv]
        refine CALL.aA [3, 2, 1, 4, 5] (private6_does ps hb b (ps.length - b) (by omega) hbp L E S R vs.length xs.length []) ?_
        rintro r O' nx' ⟨P', rfl, rfl, rfl⟩
        rw [← hlast]
        cases htf : tagP ps with
        | true =>
          conv => whnf
          repeat' ((first | refine AU ?_ | ((with_reducible refine IF.mk (fun h => ?_) (fun h => ?_)) <;> (try simp (disch := omega) only [hsB, hsC, lnB, wrap64, wrap32, simprocAttr] at h) <;> try (exfalso; omega))) <;> conv => whnf)
          exact FIN.anyA 7 h0 rfl rfl rfl ⟨rfl, rfl, rfl⟩
        | false =>
          conv => whnf
          repeat' ((first | refine AU ?_ | ((with_reducible refine IF.mk (fun h => ?_) (fun h => ?_)) <;> (try simp (disch := omega) only [hsB, hsC, lnB, wrap64, wrap32, simprocAttr] at h) <;> try (exfalso; omega))) <;> conv => whnf)
          exact FIN.anyA 7 h0 rfl rfl rfl ⟨rfl, rfl, rfl⟩
    · repeat' ((first | refine AU ?_ | ((with_reducible refine IF.mk (fun h => ?_) (fun h => ?_)) <;> (try simp (disch := omega) only [hsB, hsC, lnB, wrap64, wrap32, simprocAttr] at h) <;> try (exfalso; omega))) <;> conv => whnf)
      have hlast : tagP ps = true := by rw [hc0, hy, List.drop_eq_nil_of_le (by omega), extsP]; rfl
      refine FIN.anyA 7 h0 rfl rfl rfl ⟨?_, rfl, rfl⟩
      rw [hlast]; rfl
end Go.Proofs.YtjbbkimodgffiaaGreatDoor
/- The reference's Check and CheckQuad, walked. Conditions: none. -/
set_option linter.unusedVariables false
set_option linter.unusedSimpArgs false
set_option maxRecDepth 20000
set_option maxHeartbeats 8000000
namespace Go.Proofs.YtjbbkimodgffiaaGreatDoor
open Go.Sx Go.Our
theorem rliteral_does (k : Int) (t y l : List UInt8) (ht : Sm t) (hy : Sm y) (hl : Sm l) : Does Tryz.prog tab 107 0 [.agg [.int .i64 k, .str t, .str y, .str l]] [] [] (Val (.int .i64 (litM t y l))) := by
  refine Does.enter tabOK (g := 107) (fn := Tryz.f107) Tryz.call107 Tryz.func107 rfl 61 rfl rfl [.tmp 2] rfl ?_
  intro w0 F η0 h0
  conv => whnf
  repeat' ((first | refine CALL.value (ref04Check_does _ ht) rfl rfl ?_ | refine CALL.value (ref05Check_does _ hy) rfl rfl ?_ | refine CALL.value (tag6_does _ (by omega)) rfl rfl ?_ | refine AU ?_ | ((with_reducible refine IF.mk (fun h => ?_) (fun h => ?_)) <;> (try simp (disch := omega) only [hsB, hsC, lnB, wrap64, wrap32, simprocAttr] at h) <;> try (exfalso; omega))) <;> conv => whnf)
  all_goals try
    (refine FIN.value h0 rfl (congrArg (SV.int _) ?_)
     by_cases hy0 : y = taggedB
     · have hyb : (y == taggedB) = true := by simp [hy0]
       unfold taggedB at hyb
       try rw [hyb] at h
       by_cases htg : tagP (splitM l) = true <;> by_cases hlw : lowerM l = l <;> by_cases hl0 : l = [] <;> simp_all [litM, taggedB, orE] <;> omega
     · have hyb : (y == taggedB) = false := by simp [hy0]
       unfold taggedB at hyb
       try rw [hyb] at h
       by_cases htg : tagP (splitM l) = true <;> by_cases hlw : lowerM l = l <;> by_cases hl0 : l = [] <;> simp_all [litM, taggedB, orE] <;> omega)
  have htg : tagP (splitM l) = true := by
    cases h1 : tagP (splitM l) with
    | true => rfl
    | false => rw [h1] at h; simp at h
  refine LOOP.go tabOK [1] (X := Nat) (fun i => i ≤ l.length ∧ ∀ j : Nat, j < i → ¬ (65 ≤ byteAt l j ∧ byteAt l j ≤ 90)) (fun i => [(4, .int .i64 (i : Int))]) (fun i => [(0, .box [.int .i64 k, .str t, .str y, .str l])]) 1 (fun i => l.length - i) 0 ⟨by omega, fun j h => by omega⟩ ?_
  conv => whnf
  refine ⟨by exact GOES.cA h0, ?_⟩
  rintro i ⟨hi, hc⟩
  conv => whnf
  repeat' ((first | refine AU ?_ | ((with_reducible refine IF.mk (fun h => ?_) (fun h => ?_)) <;> (try simp (disch := omega) only [hsB, hsC, lnB, wrap64, wrap32, simprocAttr] at h) <;> try (exfalso; omega))) <;> conv => whnf)
  · have hlw : lowerM l ≠ l := lower_up (i := i) (by omega) h
    refine FIN.value h0 rfl (congrArg (SV.int _) ?_)
    simp_all [litM] <;> omega
  · refine ⟨i + 1, ⟨by omega, fun j hj => ?_⟩, by omega, ?_⟩
    · by_cases he : j = i
      · subst he; omega
      · exact hc j (by omega)
    · conv => whnf
      exact GOES.cA h0
  all_goals
    have hlw : lowerM l = l := lower_same fun j hj => hc j (by omega)
    refine FIN.value h0 rfl (congrArg (SV.int _) ?_)
    by_cases hy0 : y = taggedB
    · have hyb : (y == taggedB) = true := by simp [hy0]
      unfold taggedB at hyb
      try rw [hyb] at h
      by_cases hl0 : l = [] <;> simp_all [litM, taggedB, orE] <;> omega
    · have hyb : (y == taggedB) = false := by simp [hy0]
      unfold taggedB at hyb
      try rw [hyb] at h
      by_cases hl0 : l = [] <;> simp_all [litM, taggedB, orE] <;> omega
theorem rcheck_does (x : Tm) (hx : TmSm x) : Does Tryz.prog tab 69 0 [.agg [.int .i64 x.k, .str x.t, .str x.y, .str x.l]] [] [] (Val (.int .i64 (checkM x))) := by
  obtain ⟨ht, hy, hl⟩ := hx
  obtain ⟨k, t, y, l⟩ := x
  dsimp only at ht hy hl ⊢
  refine Does.enter tabOK (g := 69) (fn := Tryz.f69) Tryz.call69 Tryz.func69 rfl 33 rfl rfl [.tmp 2] rfl ?_
  intro w0 F η0 h0
  conv => whnf
  repeat' ((first | refine CALL.value (rliteral_does _ _ _ _ ht hy hl) rfl rfl ?_ | refine CALL.value (ref05Check_does _ ht) rfl rfl ?_ | refine CALL.value (r6Label_does _ (by omega)) rfl rfl ?_ | refine AU ?_ | ((with_reducible refine IF.mk (fun h => ?_) (fun h => ?_)) <;> (try simp (disch := omega) only [hsB, hsC, lnB, wrap64, wrap32, simprocAttr] at h) <;> try (exfalso; omega))) <;> conv => whnf)
  all_goals
    refine FIN.value h0 rfl (congrArg (SV.int _) ?_)
    have hle := label_eq t
    unfold checkM
    first
      | (simp_all; done)
      | (simp_all <;> omega)
theorem rcheckQuad_does (q : Qd) (hq : QdSm q) : Does Tryz.prog tab 41 0 [q.sv] [] [] (Val (.int .i64 (cquadM q))) := by
  obtain ⟨hs, hp, ho, hg⟩ := hq
  unfold Qd.sv
  refine Does.enter tabOK (g := 41) (fn := Tryz.f41) Tryz.call41 Tryz.func41 rfl 53 rfl rfl [.tmp 2] rfl ?_
  intro w0 F η0 h0
  conv => whnf
  repeat' ((first | refine CALL.value (rcheck_does q.s hs) rfl rfl ?_ | refine CALL.value (rcheck_does q.p hp) rfl rfl ?_ | refine CALL.value (rcheck_does q.o ho) rfl rfl ?_ | refine CALL.value (rcheck_does q.g hg) rfl rfl ?_ | refine AU ?_ | ((with_reducible refine IF.mk (fun h => ?_) (fun h => ?_)) <;> (try simp (disch := omega) only [hsB, hsC, lnB, wrap64, wrap32, simprocAttr] at h) <;> try (exfalso; omega))) <;> conv => whnf)
  all_goals
    refine FIN.value h0 rfl (congrArg (SV.int _) ?_)
    clear hs hp ho hg
    have hz : q.g = zeroTm ↔ q.g.k = 0 ∧ q.g.t = [] ∧ q.g.y = [] ∧ q.g.l = [] := by
      obtain ⟨s, p, o, g⟩ := q
      obtain ⟨k, t, y, l⟩ := g
      simp [zeroTm]
    unfold cquadM
    by_cases hgz : q.g = zeroTm
    · have := hz.1 hgz; simp_all
    · by_cases g1 : q.g.k = 1
      · simp_all
      · by_cases g2 : q.g.k = 2
        · simp_all
        · simp_all
end Go.Proofs.YtjbbkimodgffiaaGreatDoor
/- infer: what the rules draw, the program's and the reference's, walked. Conditions: none. -/
set_option linter.unusedVariables false
set_option linter.unusedSimpArgs false
set_option maxRecDepth 20000
set_option maxHeartbeats 8000000
namespace Go.Proofs.YtjbbkimodgffiaaGreatDoor
open Go.Sx Go.Our
def plInfer0 : Plan := (.take 0 1 (.take 2 1 (.take 4 1 (.take 7 1 (.take 1 2 (.take 3 2 (.take 5 2 (.take 8 2 (.take 6 3 (.take 9 3 (.take 10 1 (.take 11 1 (.take 13 1 (.fork3 12 3 14 3 17 0 (.fork 14 3 17 0 (planOf [(15, 1), (16, 1), (17, 0), (18, 1)]) (planOf [(14, 2), (15, 1), (16, 1), (18, 1)])) (.fork 12 3 17 0 (planOf [(15, 1), (16, 1), (17, 0), (18, 1)]) (planOf [(12, 2), (15, 1), (16, 1), (18, 1)])) (planOf [(12, 2), (14, 2), (15, 1), (16, 1), (18, 1)])))))))))))))))
def plInfer1 : Plan := (.take 0 1 (.take 2 1 (.take 4 1 (.take 6 1 (.take 9 1 (.take 1 2 (.take 3 2 (.take 5 2 (.take 7 2 (.take 8 1 (.take 10 2 (.take 11 3 (.take 12 1 (.take 13 1 (.take 15 1 (.fork3 14 3 16 3 19 0 (.fork 16 3 19 0 (planOf [(17, 1), (18, 1), (19, 0), (20, 1)]) (planOf [(16, 2), (17, 1), (18, 1), (20, 1)])) (.fork 14 3 19 0 (planOf [(17, 1), (18, 1), (19, 0), (20, 1)]) (planOf [(14, 2), (17, 1), (18, 1), (20, 1)])) (planOf [(14, 2), (16, 2), (17, 1), (18, 1), (20, 1)])))))))))))))))))
def plInfer2 : Plan := (.take 0 1 (.take 2 1 (.take 4 1 (.take 7 1 (.take 1 2 (.take 3 2 (.take 5 2 (.take 8 2 (.take 6 3 (.take 9 3 (.take 10 1 (.take 11 1 (.take 12 2 (.take 13 3 (.take 14 1 (.take 15 1 (.take 16 1 (.take 18 1 (.fork3 17 3 19 3 22 0 (.fork 19 3 22 0 (planOf [(20, 1), (21, 1), (22, 0), (23, 1)]) (planOf [(19, 2), (20, 1), (21, 1), (23, 1)])) (.fork 17 3 22 0 (planOf [(20, 1), (21, 1), (22, 0), (23, 1)]) (planOf [(17, 2), (20, 1), (21, 1), (23, 1)])) (planOf [(17, 2), (19, 2), (20, 1), (21, 1), (23, 1)]))))))))))))))))))))
def plInfer3 : Plan := (.take 0 1 (.take 2 1 (.take 4 1 (.take 6 1 (.take 9 1 (.take 1 2 (.take 3 2 (.take 5 2 (.take 7 2 (.take 8 1 (.take 10 2 (.take 11 2 (.take 12 3 (.take 13 1 (.take 14 1 (.take 16 1 (.take 15 2 (.take 17 2 (.take 18 1 (.take 19 1 (.take 20 1 (.take 21 1 (.take 23 1 (.fork3 22 3 24 3 27 0 (.fork 24 3 27 0 (planOf [(25, 1), (26, 1), (27, 0), (28, 1)]) (planOf [(24, 2), (25, 1), (26, 1), (28, 1)])) (.fork 22 3 27 0 (planOf [(25, 1), (26, 1), (27, 0), (28, 1)]) (planOf [(22, 2), (25, 1), (26, 1), (28, 1)])) (planOf [(22, 2), (24, 2), (25, 1), (26, 1), (28, 1)])))))))))))))))))))))))))
theorem teq (x y : Tm) : (x.k == y.k && (x.t == y.t && (x.y == y.y && (x.l == y.l && true)))) = decide (x = y) := by
  rw [Bool.eq_iff_iff]
  simp [tm_eq]
theorem rdf_does (s : List UInt8) (hs : s.length ≤ 100) : Does Tryz.prog tab 103 0 [.str s] [] [] (Val (iriT (rdfB ++ s)).sv) := by
  refine Does.enter tabOK (g := 103) (fn := Tryz.f103) Tryz.call103 Tryz.func103 rfl 6 rfl rfl [.cell 2 28] rfl ?_
  intro w0 F η0 h0
  conv => whnf
  repeat' ((first | refine AU ?_ | ((with_reducible refine IF.mk (fun h => ?_) (fun h => ?_)) <;> (try simp (disch := omega) only [hsB, hsC, lnB, wrap64, wrap32, simprocAttr] at h) <;> try (exfalso; omega))) <;> conv => whnf)
  all_goals first
    | exact FIN.value h0 rfl rfl
    | (show 43 + s.length ≤ _; omega)
theorem rdfs_does (s : List UInt8) (hs : s.length ≤ 100) : Does Tryz.prog tab 104 0 [.str s] [] [] (Val (iriT (rdfsB ++ s)).sv) := by
  refine Does.enter tabOK (g := 104) (fn := Tryz.f104) Tryz.call104 Tryz.func104 rfl 6 rfl rfl [.cell 2 28] rfl ?_
  intro w0 F η0 h0
  conv => whnf
  repeat' ((first | refine AU ?_ | ((with_reducible refine IF.mk (fun h => ?_) (fun h => ?_)) <;> (try simp (disch := omega) only [hsB, hsC, lnB, wrap64, wrap32, simprocAttr] at h) <;> try (exfalso; omega))) <;> conv => whnf)
  all_goals first
    | exact FIN.value h0 rfl rfl
    | (show 37 + s.length ≤ _; omega)
theorem named_does (x : Tm) (s : List UInt8) : Does Tryz.prog tab 98 0 [x.sv, .str s] [] [] (Val (.bool (decide (x = iriT s)))) := by
  unfold Tm.sv
  refine Does.enter tabOK (g := 98) (fn := Tryz.f98) Tryz.call98 Tryz.func98 rfl 9 rfl rfl [.tmp 4] rfl ?_
  intro w0 F η0 h0
  conv => whnf
  repeat' ((first | refine AU ?_ | ((with_reducible refine IF.mk (fun h => ?_) (fun h => ?_)) <;> (try simp (disch := omega) only [hsB, hsC, lnB, wrap64, wrap32, simprocAttr] at h) <;> try (exfalso; omega))) <;> conv => whnf)
  exact FIN.value h0 rfl (congrArg SV.bool (teq x (iriT s)))
theorem isType_does (s o g : Tm) : Does Tryz.prog tab 97 0 [s.sv, o.sv, g.sv] [] [] (Val (Qd.sv ⟨s, iriT typB, o, g⟩)) := by
  unfold Tm.sv
  refine Does.enter tabOK (g := 97) (fn := Tryz.f97) Tryz.call97 Tryz.func97 rfl 12 rfl rfl [.cell 6 30] rfl ?_
  intro w0 F η0 h0
  conv => whnf
  repeat' ((first | refine AU ?_ | ((with_reducible refine IF.mk (fun h => ?_) (fun h => ?_)) <;> (try simp (disch := omega) only [hsB, hsC, lnB, wrap64, wrap32, simprocAttr] at h) <;> try (exfalso; omega))) <;> conv => whnf)
  exact FIN.value h0 rfl rfl
theorem rule2_does (a b : Qd) : Does Tryz.prog tab 96 0 [a.sv, b.sv] [] [] (Val (.tup [(dr2 a b).1.sv, .bool (dr2 a b).2])) := by
  unfold Qd.sv
  refine Does.enter tabOK (g := 96) (fn := Tryz.f96) Tryz.call96 Tryz.func96 rfl 23 rfl rfl [.cell 4 30, .tmp 5] rfl ?_
  intro w0 F η0 h0
  conv => whnf
  repeat' ((first | refine DRAWN.of (id := 1) tabOK mixed plInfer0 (by kernel_rfl) ?_ | with_reducible refine ADD.mk (fun _ _ => ?_) | with_reducible refine NEED.mk (Det.of rfl) ?_ | refine NEED.mk (det_pos (by omega)) ?_ | with_reducible refine FORK.mk ?_ ?_ | refine CALL.value (isType_does b.s a.o a.g) rfl rfl ?_ | refine CALL.value (named_does a.p domB) rfl rfl ?_ | refine AU ?_ | ((with_reducible refine IF.mk (fun h => ?_) (fun h => ?_)) <;> (try simp (disch := omega) only [hsB, hsC, lnB, wrap64, wrap32, simprocAttr] at h) <;> try (exfalso; omega))) <;> conv => whnf)
  all_goals
    refine FIN.value h0 rfl (congrArg (fun b => SV.tup [_, SV.bool b]) ?_)
    rw [Bool.eq_iff_iff]
    first
      | (simp_all [tm_eq]; done)
      | trace_state
theorem rule3_does (a b : Qd) : Does Tryz.prog tab 99 0 [a.sv, b.sv] [] [] (Val (.tup [(dr3 a b).1.sv, .bool (dr3 a b).2])) := by
  unfold Qd.sv
  refine Does.enter tabOK (g := 99) (fn := Tryz.f99) Tryz.call99 Tryz.func99 rfl 23 rfl rfl [.cell 4 30, .tmp 5] rfl ?_
  intro w0 F η0 h0
  conv => whnf
  repeat' ((first | refine DRAWN.of (id := 1) tabOK mixed plInfer0 (by kernel_rfl) ?_ | with_reducible refine ADD.mk (fun _ _ => ?_) | with_reducible refine NEED.mk (Det.of rfl) ?_ | refine NEED.mk (det_pos (by omega)) ?_ | with_reducible refine FORK.mk ?_ ?_ | refine CALL.value (isType_does b.o a.o a.g) rfl rfl ?_ | refine CALL.value (named_does a.p ranB) rfl rfl ?_ | refine AU ?_ | ((with_reducible refine IF.mk (fun h => ?_) (fun h => ?_)) <;> (try simp (disch := omega) only [hsB, hsC, lnB, wrap64, wrap32, simprocAttr] at h) <;> try (exfalso; omega))) <;> conv => whnf)
  all_goals
    refine FIN.value h0 rfl (congrArg (fun b => SV.tup [_, SV.bool b]) ?_)
    rw [Bool.eq_iff_iff]
    first
      | (simp_all [tm_eq]; done)
      | trace_state
theorem rule7_does (a b : Qd) : Does Tryz.prog tab 101 0 [a.sv, b.sv] [] [] (Val (.tup [(dr7 a b).1.sv, .bool (dr7 a b).2])) := by
  unfold Qd.sv
  refine Does.enter tabOK (g := 101) (fn := Tryz.f101) Tryz.call101 Tryz.func101 rfl 25 rfl rfl [.cell 4 30, .tmp 5] rfl ?_
  intro w0 F η0 h0
  conv => whnf
  repeat' ((first | refine DRAWN.of (id := 1) tabOK mixed plInfer1 (by kernel_rfl) ?_ | with_reducible refine ADD.mk (fun _ _ => ?_) | with_reducible refine NEED.mk (Det.of rfl) ?_ | refine NEED.mk (det_pos (by omega)) ?_ | with_reducible refine FORK.mk ?_ ?_ | refine CALL.value (named_does a.p subP) rfl rfl ?_ | refine AU ?_ | ((with_reducible refine IF.mk (fun h => ?_) (fun h => ?_)) <;> (try simp (disch := omega) only [hsB, hsC, lnB, wrap64, wrap32, simprocAttr] at h) <;> try (exfalso; omega))) <;> conv => whnf)
  all_goals
    refine FIN.value h0 rfl (congrArg (fun b => SV.tup [_, SV.bool b]) ?_)
    rw [Bool.eq_iff_iff]
    first
      | (simp_all [tm_eq]; done)
      | trace_state
theorem rule9_does (a b : Qd) : Does Tryz.prog tab 102 0 [a.sv, b.sv] [] [] (Val (.tup [(dr9 a b).1.sv, .bool (dr9 a b).2])) := by
  unfold Qd.sv
  refine Does.enter tabOK (g := 102) (fn := Tryz.f102) Tryz.call102 Tryz.func102 rfl 28 rfl rfl [.cell 4 30, .tmp 5] rfl ?_
  intro w0 F η0 h0
  conv => whnf
  repeat' ((first | refine DRAWN.of (id := 1) tabOK mixed plInfer2 (by kernel_rfl) ?_ | with_reducible refine ADD.mk (fun _ _ => ?_) | with_reducible refine NEED.mk (Det.of rfl) ?_ | refine NEED.mk (det_pos (by omega)) ?_ | with_reducible refine FORK.mk ?_ ?_ | refine CALL.value (isType_does b.s a.o a.g) rfl rfl ?_ | refine CALL.value (named_does a.p subC) rfl rfl ?_ | refine CALL.value (named_does b.p typB) rfl rfl ?_ | refine AU ?_ | ((with_reducible refine IF.mk (fun h => ?_) (fun h => ?_)) <;> (try simp (disch := omega) only [hsB, hsC, lnB, wrap64, wrap32, simprocAttr] at h) <;> try (exfalso; omega))) <;> conv => whnf)
  all_goals
    refine FIN.value h0 rfl (congrArg (fun b => SV.tup [_, SV.bool b]) ?_)
    rw [Bool.eq_iff_iff]
    first
      | (simp_all [tm_eq]; done)
      | trace_state
theorem chain1_does (s : List UInt8) (a b : Qd) : Does Tryz.prog tab 119 1 [a.sv, b.sv, .ptr (.loc 0) 0 0 0] [] [(0, .box [.str s])] (ValK 1 (.tup [(chn s a b).1.sv, .bool (chn s a b).2])) := by
  unfold Qd.sv
  refine Does.enter tabOK (g := 119) (fn := Tryz.f119) Tryz.call119 Tryz.func119 rfl 34 rfl rfl [.cell 5 30, .tmp 6] rfl ?_
  intro w0 F η0 h0
  conv => whnf
  repeat' ((first | refine DRAWN.of (id := 1) tabOK mixed plInfer3 (by kernel_rfl) ?_ | with_reducible refine ADD.mk (fun _ _ => ?_) | with_reducible refine NEED.mk (Det.of rfl) ?_ | refine NEED.mk (det_pos (by omega)) ?_ | with_reducible refine FORK.mk ?_ ?_ | refine CALL.value (named_does a.p s) rfl rfl ?_ | refine AU ?_ | ((with_reducible refine IF.mk (fun h => ?_) (fun h => ?_)) <;> (try simp (disch := omega) only [hsB, hsC, lnB, wrap64, wrap32, simprocAttr] at h) <;> try (exfalso; omega))) <;> conv => whnf)
  all_goals
    refine FIN.valueK h0 rfl (congrArg (fun b => SV.tup [_, SV.bool b]) ?_)
    rw [Bool.eq_iff_iff]
    first
      | (simp_all [tm_eq]; done)
      | trace_state
def FnK (f : FuncId) (s : List UInt8) : SV → Hps → Nat → Prop := fun r O nx => r = .fn (.func f) [] [.ptr (.loc 0) 0 0 0] ∧ O = [(0, .box [.str s])] ∧ nx = 1
theorem chain_does (s : List UInt8) : Does Tryz.prog tab 100 0 [.str s] [] [] (FnK 119 s) := by
  refine Does.enter tabOK (g := 100) (fn := Tryz.f100) Tryz.call100 Tryz.func100 rfl 4 rfl rfl [.tmp 2] rfl ?_
  intro w0 F η0 h0
  conv => whnf
  repeat' ((first | refine AU ?_ | ((with_reducible refine IF.mk (fun h => ?_) (fun h => ?_)) <;> (try simp (disch := omega) only [hsB, hsC, lnB, wrap64, wrap32, simprocAttr] at h) <;> try (exfalso; omega))) <;> conv => whnf)
  refine FIN.aA h0 [0] (.fn (.func 119) [] [.ptr (.loc 0) 0 0 0]) [(0, .box [.str s])] ?_
  exact ⟨rfl, rfl, rfl⟩
def fnR (f : FuncId) : List SV := [.fn (.func f) [] []]
def fnC (f : FuncId) (i : Nat) : List SV := [.fn (.func f) [] [.ptr (.loc i) 0 0 0]]
def nilR : List SV := [.val .nilFunc]
def tableR : List (List SV) := [nilR, nilR, fnR 96, fnR 99, nilR, fnC 119 0, nilR, fnR 101, nilR, fnR 102, nilR, fnC 119 1]
def TableK : SV → Hps → Nat → Prop := fun r O nx => r = .arr 1 tableR ∧ O = [(0, .box [.str subP]), (1, .box [.str subC])] ∧ nx = 2
theorem rules_does : Does Tryz.prog tab 65 0 [] [] [] TableK := by
  refine Does.enter tabOK (g := 65) (fn := Tryz.f65) Tryz.call65 Tryz.func65 rfl 4 rfl rfl [.cell 0 101] rfl ?_
  intro w0 F η0 h0
  conv => whnf
  refine CALL.aA [] (chain_does subP) ?_
  rintro r O' nx' ⟨rfl, rfl, rfl⟩
  conv => whnf
  refine CALL.aA [] (chain_does subC) ?_
  rintro r O' nx' ⟨rfl, rfl, rfl⟩
  conv => whnf
  repeat' ((first | refine AU ?_ | ((with_reducible refine IF.mk (fun h => ?_) (fun h => ?_)) <;> (try simp (disch := omega) only [hsB, hsC, lnB, wrap64, wrap32, simprocAttr] at h) <;> try (exfalso; omega))) <;> conv => whnf)
  refine FIN.aA h0 [1, 2] (.arr 1 tableR) [(0, .box [.str subP]), (1, .box [.str subC])] ?_
  exact ⟨rfl, rfl, rfl⟩
end Go.Proofs.YtjbbkimodgffiaaGreatDoor
/- infer.Draw and the reference's, walked. Conditions: none. -/
set_option linter.unusedVariables false
set_option linter.unusedSimpArgs false
set_option maxRecDepth 20000
set_option maxHeartbeats 8000000
namespace Go.Proofs.YtjbbkimodgffiaaGreatDoor
open Go.Sx Go.Our
def plInfer20 : Plan := (.take 0 1 (.take 1 1 (.take 2 2 (.take 3 2 (.take 4 2 (.fork 5 3 9 3 (planOf [(6, 1), (7, 1), (8, 1), (9, 3), (10, 0), (11, 1)]) (planOf [(5, 3), (6, 1), (7, 1), (8, 1), (10, 0), (11, 1)])))))))
theorem formed_does (q : Qd) (hq : QdSm q) : Does Tryz.prog tab 66 0 [q.sv] [] [] (Val (.bool (decide (cquadM q = 0)))) := by
  have h1 := tcheckQuad_does q hq
  unfold Qd.sv at h1 ⊢
  refine Does.enter tabOK (g := 66) (fn := Tryz.f66) Tryz.call66 Tryz.func66 rfl 6 rfl rfl [.tmp 2] rfl ?_
  intro w0 F η0 h0
  conv => whnf
  repeat' ((first | refine CALL.value (h1) rfl rfl ?_ | refine AU ?_ | ((with_reducible refine IF.mk (fun h => ?_) (fun h => ?_)) <;> (try simp (disch := omega) only [hsB, hsC, lnB, wrap64, wrap32, simprocAttr] at h) <;> try (exfalso; omega))) <;> conv => whnf)
  exact FIN.value h0 rfl rfl
set_option maxHeartbeats 4000000 in
theorem draw2_does (a b : Qd) (ha : QdSm a) (hb : QdSm b) : Does Tryz.prog tab 37 0 [.int .i64 2, a.sv, b.sv] [] [] (Val (.tup [(drawM 2 a b).1.sv, .bool (drawM 2 a b).2])) := by
  have hd : QdSm (dr2 a b).1 := drawn_sm (n := 2) ha hb
  have hf := formed_does (dr2 a b).1 hd
  unfold Qd.sv
  refine Does.enter tabOK (g := 37) (fn := Tryz.f37) Tryz.call37 Tryz.func37 rfl 60 rfl rfl [.cell 6 30, .tmp 7] rfl ?_
  intro w0 F η0 h0
  conv => whnf
  refine CALL.aA [] (rules_does) ?_
  rintro r O' nx' ⟨rfl, rfl, rfl⟩
  conv => whnf
  refine NEED.mk ⟨rfl, rfl, rfl, rfl, rfl⟩ ?_
  conv => whnf
  repeat' ((first | refine DRAWN.of (id := 4) tabOK mixed plInfer20 (by kernel_rfl) ?_ | with_reducible refine ADD.mk (fun _ _ => ?_) | with_reducible refine NEED.mk (Det.of rfl) ?_ | refine NEED.mk (det_pos (by omega)) ?_ | with_reducible refine FORK.mk ?_ ?_ | refine CALL.value (formed_does a ha) rfl rfl ?_ | refine CALL.value (formed_does b hb) rfl rfl ?_ | refine CALL.value (rule2_does a b) rfl rfl ?_ | refine CALL.value (hf) rfl rfl ?_ | refine AU ?_ | ((with_reducible refine IF.mk (fun h => ?_) (fun h => ?_)) <;> (try simp (disch := omega) only [hsB, hsC, lnB, wrap64, wrap32, simprocAttr] at h) <;> try (exfalso; omega))) <;> conv => whnf)
  all_goals
    clear hf hd ha hb
    refine FIN.value h0 rfl ?_
    first
      | (rw [draw_no (by show ¬(cquadM a = 0 ∧ cquadM b = 0 ∧ a.g = b.g ∧ (dr2 a b).2 = true ∧ cquadM (dr2 a b).1 = 0); simp_all [tm_eq]; done)]; rfl)
      | (rw [draw_yes (by show cquadM a = 0 ∧ cquadM b = 0 ∧ a.g = b.g ∧ (dr2 a b).2 = true ∧ cquadM (dr2 a b).1 = 0; simp_all [tm_eq]; done)]; rfl)
      | trace_state
set_option maxHeartbeats 4000000 in
theorem draw3_does (a b : Qd) (ha : QdSm a) (hb : QdSm b) : Does Tryz.prog tab 37 0 [.int .i64 3, a.sv, b.sv] [] [] (Val (.tup [(drawM 3 a b).1.sv, .bool (drawM 3 a b).2])) := by
  have hd : QdSm (dr3 a b).1 := drawn_sm (n := 3) ha hb
  have hf := formed_does (dr3 a b).1 hd
  unfold Qd.sv
  refine Does.enter tabOK (g := 37) (fn := Tryz.f37) Tryz.call37 Tryz.func37 rfl 60 rfl rfl [.cell 6 30, .tmp 7] rfl ?_
  intro w0 F η0 h0
  conv => whnf
  refine CALL.aA [] (rules_does) ?_
  rintro r O' nx' ⟨rfl, rfl, rfl⟩
  conv => whnf
  refine NEED.mk ⟨rfl, rfl, rfl, rfl, rfl⟩ ?_
  conv => whnf
  repeat' ((first | refine DRAWN.of (id := 4) tabOK mixed plInfer20 (by kernel_rfl) ?_ | with_reducible refine ADD.mk (fun _ _ => ?_) | with_reducible refine NEED.mk (Det.of rfl) ?_ | refine NEED.mk (det_pos (by omega)) ?_ | with_reducible refine FORK.mk ?_ ?_ | refine CALL.value (formed_does a ha) rfl rfl ?_ | refine CALL.value (formed_does b hb) rfl rfl ?_ | refine CALL.value (rule3_does a b) rfl rfl ?_ | refine CALL.value (hf) rfl rfl ?_ | refine AU ?_ | ((with_reducible refine IF.mk (fun h => ?_) (fun h => ?_)) <;> (try simp (disch := omega) only [hsB, hsC, lnB, wrap64, wrap32, simprocAttr] at h) <;> try (exfalso; omega))) <;> conv => whnf)
  all_goals
    clear hf hd ha hb
    refine FIN.value h0 rfl ?_
    first
      | (rw [draw_no (by show ¬(cquadM a = 0 ∧ cquadM b = 0 ∧ a.g = b.g ∧ (dr3 a b).2 = true ∧ cquadM (dr3 a b).1 = 0); simp_all [tm_eq]; done)]; rfl)
      | (rw [draw_yes (by show cquadM a = 0 ∧ cquadM b = 0 ∧ a.g = b.g ∧ (dr3 a b).2 = true ∧ cquadM (dr3 a b).1 = 0; simp_all [tm_eq]; done)]; rfl)
      | trace_state
set_option maxHeartbeats 4000000 in
theorem draw5_does (a b : Qd) (ha : QdSm a) (hb : QdSm b) : Does Tryz.prog tab 37 0 [.int .i64 5, a.sv, b.sv] [] [] (Val (.tup [(drawM 5 a b).1.sv, .bool (drawM 5 a b).2])) := by
  have hd : QdSm (chn subP a b).1 := drawn_sm (n := 5) ha hb
  have hf := formed_does (chn subP a b).1 hd
  unfold Qd.sv
  refine Does.enter tabOK (g := 37) (fn := Tryz.f37) Tryz.call37 Tryz.func37 rfl 60 rfl rfl [.cell 6 30, .tmp 7] rfl ?_
  intro w0 F η0 h0
  conv => whnf
  refine CALL.aA [] (rules_does) ?_
  rintro r O' nx' ⟨rfl, rfl, rfl⟩
  conv => whnf
  refine NEED.mk ⟨rfl, rfl, rfl, rfl, rfl⟩ ?_
  conv => whnf
  repeat' ((first | refine DRAWN.of (id := 4) tabOK mixed plInfer20 (by kernel_rfl) ?_ | with_reducible refine ADD.mk (fun _ _ => ?_) | with_reducible refine NEED.mk (Det.of rfl) ?_ | refine NEED.mk (det_pos (by omega)) ?_ | with_reducible refine FORK.mk ?_ ?_ | refine CALL.value (formed_does a ha) rfl rfl ?_ | refine CALL.value (formed_does b hb) rfl rfl ?_ | (refine CALL.looks [3] (chain1_does subP a b) rfl rfl rfl rfl ⟨⟨rfl, rfl, rfl⟩, trivial⟩ ?_; conv => whnf) | refine CALL.value (hf) rfl rfl ?_ | refine AU ?_ | ((with_reducible refine IF.mk (fun h => ?_) (fun h => ?_)) <;> (try simp (disch := omega) only [hsB, hsC, lnB, wrap64, wrap32, simprocAttr] at h) <;> try (exfalso; omega))) <;> conv => whnf)
  all_goals
    clear hf hd ha hb
    refine FIN.value h0 rfl ?_
    first
      | (rw [draw_no (by show ¬(cquadM a = 0 ∧ cquadM b = 0 ∧ a.g = b.g ∧ (chn subP a b).2 = true ∧ cquadM (chn subP a b).1 = 0); simp_all [tm_eq]; done)]; rfl)
      | (rw [draw_yes (by show cquadM a = 0 ∧ cquadM b = 0 ∧ a.g = b.g ∧ (chn subP a b).2 = true ∧ cquadM (chn subP a b).1 = 0; simp_all [tm_eq]; done)]; rfl)
      | trace_state
set_option maxHeartbeats 4000000 in
theorem draw7_does (a b : Qd) (ha : QdSm a) (hb : QdSm b) : Does Tryz.prog tab 37 0 [.int .i64 7, a.sv, b.sv] [] [] (Val (.tup [(drawM 7 a b).1.sv, .bool (drawM 7 a b).2])) := by
  have hd : QdSm (dr7 a b).1 := drawn_sm (n := 7) ha hb
  have hf := formed_does (dr7 a b).1 hd
  unfold Qd.sv
  refine Does.enter tabOK (g := 37) (fn := Tryz.f37) Tryz.call37 Tryz.func37 rfl 60 rfl rfl [.cell 6 30, .tmp 7] rfl ?_
  intro w0 F η0 h0
  conv => whnf
  refine CALL.aA [] (rules_does) ?_
  rintro r O' nx' ⟨rfl, rfl, rfl⟩
  conv => whnf
  refine NEED.mk ⟨rfl, rfl, rfl, rfl, rfl⟩ ?_
  conv => whnf
  repeat' ((first | refine DRAWN.of (id := 4) tabOK mixed plInfer20 (by kernel_rfl) ?_ | with_reducible refine ADD.mk (fun _ _ => ?_) | with_reducible refine NEED.mk (Det.of rfl) ?_ | refine NEED.mk (det_pos (by omega)) ?_ | with_reducible refine FORK.mk ?_ ?_ | refine CALL.value (formed_does a ha) rfl rfl ?_ | refine CALL.value (formed_does b hb) rfl rfl ?_ | refine CALL.value (rule7_does a b) rfl rfl ?_ | refine CALL.value (hf) rfl rfl ?_ | refine AU ?_ | ((with_reducible refine IF.mk (fun h => ?_) (fun h => ?_)) <;> (try simp (disch := omega) only [hsB, hsC, lnB, wrap64, wrap32, simprocAttr] at h) <;> try (exfalso; omega))) <;> conv => whnf)
  all_goals
    clear hf hd ha hb
    refine FIN.value h0 rfl ?_
    first
      | (rw [draw_no (by show ¬(cquadM a = 0 ∧ cquadM b = 0 ∧ a.g = b.g ∧ (dr7 a b).2 = true ∧ cquadM (dr7 a b).1 = 0); simp_all [tm_eq]; done)]; rfl)
      | (rw [draw_yes (by show cquadM a = 0 ∧ cquadM b = 0 ∧ a.g = b.g ∧ (dr7 a b).2 = true ∧ cquadM (dr7 a b).1 = 0; simp_all [tm_eq]; done)]; rfl)
      | trace_state
set_option maxHeartbeats 4000000 in
theorem draw9_does (a b : Qd) (ha : QdSm a) (hb : QdSm b) : Does Tryz.prog tab 37 0 [.int .i64 9, a.sv, b.sv] [] [] (Val (.tup [(drawM 9 a b).1.sv, .bool (drawM 9 a b).2])) := by
  have hd : QdSm (dr9 a b).1 := drawn_sm (n := 9) ha hb
  have hf := formed_does (dr9 a b).1 hd
  unfold Qd.sv
  refine Does.enter tabOK (g := 37) (fn := Tryz.f37) Tryz.call37 Tryz.func37 rfl 60 rfl rfl [.cell 6 30, .tmp 7] rfl ?_
  intro w0 F η0 h0
  conv => whnf
  refine CALL.aA [] (rules_does) ?_
  rintro r O' nx' ⟨rfl, rfl, rfl⟩
  conv => whnf
  refine NEED.mk ⟨rfl, rfl, rfl, rfl, rfl⟩ ?_
  conv => whnf
  repeat' ((first | refine DRAWN.of (id := 4) tabOK mixed plInfer20 (by kernel_rfl) ?_ | with_reducible refine ADD.mk (fun _ _ => ?_) | with_reducible refine NEED.mk (Det.of rfl) ?_ | refine NEED.mk (det_pos (by omega)) ?_ | with_reducible refine FORK.mk ?_ ?_ | refine CALL.value (formed_does a ha) rfl rfl ?_ | refine CALL.value (formed_does b hb) rfl rfl ?_ | refine CALL.value (rule9_does a b) rfl rfl ?_ | refine CALL.value (hf) rfl rfl ?_ | refine AU ?_ | ((with_reducible refine IF.mk (fun h => ?_) (fun h => ?_)) <;> (try simp (disch := omega) only [hsB, hsC, lnB, wrap64, wrap32, simprocAttr] at h) <;> try (exfalso; omega))) <;> conv => whnf)
  all_goals
    clear hf hd ha hb
    refine FIN.value h0 rfl ?_
    first
      | (rw [draw_no (by show ¬(cquadM a = 0 ∧ cquadM b = 0 ∧ a.g = b.g ∧ (dr9 a b).2 = true ∧ cquadM (dr9 a b).1 = 0); simp_all [tm_eq]; done)]; rfl)
      | (rw [draw_yes (by show cquadM a = 0 ∧ cquadM b = 0 ∧ a.g = b.g ∧ (dr9 a b).2 = true ∧ cquadM (dr9 a b).1 = 0; simp_all [tm_eq]; done)]; rfl)
      | trace_state
set_option maxHeartbeats 4000000 in
theorem draw11_does (a b : Qd) (ha : QdSm a) (hb : QdSm b) : Does Tryz.prog tab 37 0 [.int .i64 11, a.sv, b.sv] [] [] (Val (.tup [(drawM 11 a b).1.sv, .bool (drawM 11 a b).2])) := by
  have hd : QdSm (chn subC a b).1 := drawn_sm (n := 11) ha hb
  have hf := formed_does (chn subC a b).1 hd
  unfold Qd.sv
  refine Does.enter tabOK (g := 37) (fn := Tryz.f37) Tryz.call37 Tryz.func37 rfl 60 rfl rfl [.cell 6 30, .tmp 7] rfl ?_
  intro w0 F η0 h0
  conv => whnf
  refine CALL.aA [] (rules_does) ?_
  rintro r O' nx' ⟨rfl, rfl, rfl⟩
  conv => whnf
  refine NEED.mk ⟨rfl, rfl, rfl, rfl, rfl⟩ ?_
  conv => whnf
  repeat' ((first | refine DRAWN.of (id := 4) tabOK mixed plInfer20 (by kernel_rfl) ?_ | with_reducible refine ADD.mk (fun _ _ => ?_) | with_reducible refine NEED.mk (Det.of rfl) ?_ | refine NEED.mk (det_pos (by omega)) ?_ | with_reducible refine FORK.mk ?_ ?_ | refine CALL.value (formed_does a ha) rfl rfl ?_ | refine CALL.value (formed_does b hb) rfl rfl ?_ | (refine CALL.looks [4] (chain1_does subC a b) rfl rfl rfl rfl ⟨⟨rfl, rfl, rfl⟩, trivial⟩ ?_; conv => whnf) | refine CALL.value (hf) rfl rfl ?_ | refine AU ?_ | ((with_reducible refine IF.mk (fun h => ?_) (fun h => ?_)) <;> (try simp (disch := omega) only [hsB, hsC, lnB, wrap64, wrap32, simprocAttr] at h) <;> try (exfalso; omega))) <;> conv => whnf)
  all_goals
    clear hf hd ha hb
    refine FIN.value h0 rfl ?_
    first
      | (rw [draw_no (by show ¬(cquadM a = 0 ∧ cquadM b = 0 ∧ a.g = b.g ∧ (chn subC a b).2 = true ∧ cquadM (chn subC a b).1 = 0); simp_all [tm_eq]; done)]; rfl)
      | (rw [draw_yes (by show cquadM a = 0 ∧ cquadM b = 0 ∧ a.g = b.g ∧ (chn subC a b).2 = true ∧ cquadM (chn subC a b).1 = 0; simp_all [tm_eq]; done)]; rfl)
      | trace_state
theorem draw0_does (a b : Qd) : Does Tryz.prog tab 37 0 [.int .i64 0, a.sv, b.sv] [] [] (Val (.tup [(drawM 0 a b).1.sv, .bool (drawM 0 a b).2])) := by
  have hn : drawM 0 a b = (zeroQd, false) := draw_no (by rw [drawn_other (by omega)]; simp)
  unfold Qd.sv
  refine Does.enter tabOK (g := 37) (fn := Tryz.f37) Tryz.call37 Tryz.func37 rfl 60 rfl rfl [.cell 6 30, .tmp 7] rfl ?_
  intro w0 F η0 h0
  conv => whnf
  refine CALL.aA [] (rules_does) ?_
  rintro r O' nx' ⟨rfl, rfl, rfl⟩
  conv => whnf
  refine NEED.mk ⟨rfl, rfl, rfl, rfl, rfl⟩ ?_
  conv => whnf
  repeat' ((first | refine AU ?_ | ((with_reducible refine IF.mk (fun h => ?_) (fun h => ?_)) <;> (try simp (disch := omega) only [hsB, hsC, lnB, wrap64, wrap32, simprocAttr] at h) <;> try (exfalso; omega))) <;> conv => whnf)
  all_goals
    refine FIN.value h0 rfl ?_
    rw [hn]; rfl
theorem draw1_does (a b : Qd) : Does Tryz.prog tab 37 0 [.int .i64 1, a.sv, b.sv] [] [] (Val (.tup [(drawM 1 a b).1.sv, .bool (drawM 1 a b).2])) := by
  have hn : drawM 1 a b = (zeroQd, false) := draw_no (by rw [drawn_other (by omega)]; simp)
  unfold Qd.sv
  refine Does.enter tabOK (g := 37) (fn := Tryz.f37) Tryz.call37 Tryz.func37 rfl 60 rfl rfl [.cell 6 30, .tmp 7] rfl ?_
  intro w0 F η0 h0
  conv => whnf
  refine CALL.aA [] (rules_does) ?_
  rintro r O' nx' ⟨rfl, rfl, rfl⟩
  conv => whnf
  refine NEED.mk ⟨rfl, rfl, rfl, rfl, rfl⟩ ?_
  conv => whnf
  repeat' ((first | refine AU ?_ | ((with_reducible refine IF.mk (fun h => ?_) (fun h => ?_)) <;> (try simp (disch := omega) only [hsB, hsC, lnB, wrap64, wrap32, simprocAttr] at h) <;> try (exfalso; omega))) <;> conv => whnf)
  all_goals
    refine FIN.value h0 rfl ?_
    rw [hn]; rfl
theorem draw4_does (a b : Qd) : Does Tryz.prog tab 37 0 [.int .i64 4, a.sv, b.sv] [] [] (Val (.tup [(drawM 4 a b).1.sv, .bool (drawM 4 a b).2])) := by
  have hn : drawM 4 a b = (zeroQd, false) := draw_no (by rw [drawn_other (by omega)]; simp)
  unfold Qd.sv
  refine Does.enter tabOK (g := 37) (fn := Tryz.f37) Tryz.call37 Tryz.func37 rfl 60 rfl rfl [.cell 6 30, .tmp 7] rfl ?_
  intro w0 F η0 h0
  conv => whnf
  refine CALL.aA [] (rules_does) ?_
  rintro r O' nx' ⟨rfl, rfl, rfl⟩
  conv => whnf
  refine NEED.mk ⟨rfl, rfl, rfl, rfl, rfl⟩ ?_
  conv => whnf
  repeat' ((first | refine AU ?_ | ((with_reducible refine IF.mk (fun h => ?_) (fun h => ?_)) <;> (try simp (disch := omega) only [hsB, hsC, lnB, wrap64, wrap32, simprocAttr] at h) <;> try (exfalso; omega))) <;> conv => whnf)
  all_goals
    refine FIN.value h0 rfl ?_
    rw [hn]; rfl
theorem draw6_does (a b : Qd) : Does Tryz.prog tab 37 0 [.int .i64 6, a.sv, b.sv] [] [] (Val (.tup [(drawM 6 a b).1.sv, .bool (drawM 6 a b).2])) := by
  have hn : drawM 6 a b = (zeroQd, false) := draw_no (by rw [drawn_other (by omega)]; simp)
  unfold Qd.sv
  refine Does.enter tabOK (g := 37) (fn := Tryz.f37) Tryz.call37 Tryz.func37 rfl 60 rfl rfl [.cell 6 30, .tmp 7] rfl ?_
  intro w0 F η0 h0
  conv => whnf
  refine CALL.aA [] (rules_does) ?_
  rintro r O' nx' ⟨rfl, rfl, rfl⟩
  conv => whnf
  refine NEED.mk ⟨rfl, rfl, rfl, rfl, rfl⟩ ?_
  conv => whnf
  repeat' ((first | refine AU ?_ | ((with_reducible refine IF.mk (fun h => ?_) (fun h => ?_)) <;> (try simp (disch := omega) only [hsB, hsC, lnB, wrap64, wrap32, simprocAttr] at h) <;> try (exfalso; omega))) <;> conv => whnf)
  all_goals
    refine FIN.value h0 rfl ?_
    rw [hn]; rfl
theorem draw8_does (a b : Qd) : Does Tryz.prog tab 37 0 [.int .i64 8, a.sv, b.sv] [] [] (Val (.tup [(drawM 8 a b).1.sv, .bool (drawM 8 a b).2])) := by
  have hn : drawM 8 a b = (zeroQd, false) := draw_no (by rw [drawn_other (by omega)]; simp)
  unfold Qd.sv
  refine Does.enter tabOK (g := 37) (fn := Tryz.f37) Tryz.call37 Tryz.func37 rfl 60 rfl rfl [.cell 6 30, .tmp 7] rfl ?_
  intro w0 F η0 h0
  conv => whnf
  refine CALL.aA [] (rules_does) ?_
  rintro r O' nx' ⟨rfl, rfl, rfl⟩
  conv => whnf
  refine NEED.mk ⟨rfl, rfl, rfl, rfl, rfl⟩ ?_
  conv => whnf
  repeat' ((first | refine AU ?_ | ((with_reducible refine IF.mk (fun h => ?_) (fun h => ?_)) <;> (try simp (disch := omega) only [hsB, hsC, lnB, wrap64, wrap32, simprocAttr] at h) <;> try (exfalso; omega))) <;> conv => whnf)
  all_goals
    refine FIN.value h0 rfl ?_
    rw [hn]; rfl
theorem draw10_does (a b : Qd) : Does Tryz.prog tab 37 0 [.int .i64 10, a.sv, b.sv] [] [] (Val (.tup [(drawM 10 a b).1.sv, .bool (drawM 10 a b).2])) := by
  have hn : drawM 10 a b = (zeroQd, false) := draw_no (by rw [drawn_other (by omega)]; simp)
  unfold Qd.sv
  refine Does.enter tabOK (g := 37) (fn := Tryz.f37) Tryz.call37 Tryz.func37 rfl 60 rfl rfl [.cell 6 30, .tmp 7] rfl ?_
  intro w0 F η0 h0
  conv => whnf
  refine CALL.aA [] (rules_does) ?_
  rintro r O' nx' ⟨rfl, rfl, rfl⟩
  conv => whnf
  refine NEED.mk ⟨rfl, rfl, rfl, rfl, rfl⟩ ?_
  conv => whnf
  repeat' ((first | refine AU ?_ | ((with_reducible refine IF.mk (fun h => ?_) (fun h => ?_)) <;> (try simp (disch := omega) only [hsB, hsC, lnB, wrap64, wrap32, simprocAttr] at h) <;> try (exfalso; omega))) <;> conv => whnf)
  all_goals
    refine FIN.value h0 rfl ?_
    rw [hn]; rfl
theorem drawX_does (n : Int) (hx : n < 0 ∨ 12 ≤ n) (a b : Qd) : Does Tryz.prog tab 37 0 [.int .i64 n, a.sv, b.sv] [] [] (Val (.tup [(drawM n a b).1.sv, .bool (drawM n a b).2])) := by
  have hn : drawM n a b = (zeroQd, false) := draw_no (by rw [drawn_other (by omega)]; simp)
  unfold Qd.sv
  refine Does.enter tabOK (g := 37) (fn := Tryz.f37) Tryz.call37 Tryz.func37 rfl 60 rfl rfl [.cell 6 30, .tmp 7] rfl ?_
  intro w0 F η0 h0
  conv => whnf
  refine CALL.aA [] (rules_does) ?_
  rintro r O' nx' ⟨rfl, rfl, rfl⟩
  conv => whnf
  refine NEED.mk ⟨rfl, rfl, rfl, rfl, rfl⟩ ?_
  conv => whnf
  repeat' ((first | refine AU ?_ | ((with_reducible refine IF.mk (fun h => ?_) (fun h => ?_)) <;> (try simp (disch := omega) only [hsB, hsC, lnB, wrap64, wrap32, simprocAttr] at h) <;> try (exfalso; omega))) <;> conv => whnf)
  all_goals first
    | (refine FIN.value h0 rfl ?_; rw [hn]; rfl)
    | (exfalso; omega)
    | trace_state
theorem draw_does (n : Int) (a b : Qd) (ha : QdSm a) (hb : QdSm b) : Does Tryz.prog tab 37 0 [.int .i64 n, a.sv, b.sv] [] [] (Val (.tup [(drawM n a b).1.sv, .bool (drawM n a b).2])) := by
  by_cases hx : n < 0 ∨ 12 ≤ n
  · exact drawX_does n hx a b
  · have : n = 0 ∨ n = 1 ∨ n = 2 ∨ n = 3 ∨ n = 4 ∨ n = 5 ∨ n = 6 ∨ n = 7 ∨ n = 8 ∨ n = 9 ∨ n = 10 ∨ n = 11 := by omega
    rcases this with rfl | rfl | rfl | rfl | rfl | rfl | rfl | rfl | rfl | rfl | rfl | rfl
    · exact draw0_does a b
    · exact draw1_does a b
    · exact draw2_does a b ha hb
    · exact draw3_does a b ha hb
    · exact draw4_does a b
    · exact draw5_does a b ha hb
    · exact draw6_does a b
    · exact draw7_does a b ha hb
    · exact draw8_does a b
    · exact draw9_does a b ha hb
    · exact draw10_does a b
    · exact draw11_does a b ha hb
end Go.Proofs.YtjbbkimodgffiaaGreatDoor
/- The reference's rules, walked. Conditions: none. -/
set_option linter.unusedVariables false
set_option linter.unusedSimpArgs false
set_option maxRecDepth 20000
set_option maxHeartbeats 8000000
namespace Go.Proofs.YtjbbkimodgffiaaGreatDoor
open Go.Sx Go.Our
def plInfer30 : Plan := (.take 0 1 (.take 2 1 (.take 4 1 (.take 6 1 (.take 9 1 (.take 1 2 (.take 3 2 (.take 5 2 (.take 7 2 (.take 8 1 (.take 10 2 (.take 11 3 (.take 12 1 (.take 13 1 (.take 14 1 (.take 16 1 (.take 15 2 (.take 17 2 (.take 18 1 (.take 19 1 (.take 20 1 (.take 21 1 (.take 23 1 (.fork3 22 3 24 3 27 0 (.fork 24 3 27 0 (planOf [(25, 1), (26, 1), (27, 0), (28, 1)]) (planOf [(24, 2), (25, 1), (26, 1), (28, 1)])) (.fork 22 3 27 0 (planOf [(25, 1), (26, 1), (27, 0), (28, 1)]) (planOf [(22, 2), (25, 1), (26, 1), (28, 1)])) (planOf [(22, 2), (24, 2), (25, 1), (26, 1), (28, 1)])))))))))))))))))))))))))
def plInfer31 : Plan := (.take 0 1 (.take 3 1 (.take 5 1 (.take 8 1 (.take 1 2 (.take 2 2 (.take 4 2 (.take 6 2 (.take 7 1 (.take 9 2 (.take 10 3 (.take 11 1 (.take 12 1 (.take 13 1 (.take 14 2 (.take 15 2 (.take 16 1 (.take 17 1 (.take 18 1 (.take 19 1 (.take 21 1 (.fork3 20 3 22 3 25 0 (.fork 22 3 25 0 (planOf [(23, 1), (24, 1), (25, 0), (26, 1)]) (planOf [(22, 2), (23, 1), (24, 1), (26, 1)])) (.fork 20 3 25 0 (planOf [(23, 1), (24, 1), (25, 0), (26, 1)]) (planOf [(20, 2), (23, 1), (24, 1), (26, 1)])) (planOf [(20, 2), (22, 2), (23, 1), (24, 1), (26, 1)])))))))))))))))))))))))
def plInfer32 : Plan := (.take 0 1 (.take 2 1 (.take 4 1 (.take 6 1 (.take 9 1 (.take 1 2 (.take 3 2 (.take 5 2 (.take 7 2 (.take 8 1 (.take 10 2 (.take 11 3 (.take 12 1 (.take 13 1 (.take 14 1 (.take 16 1 (.fork3 15 3 17 3 20 0 (.fork 17 3 20 0 (planOf [(18, 1), (19, 1), (20, 0), (21, 1)]) (planOf [(17, 2), (18, 1), (19, 1), (21, 1)])) (.fork 15 3 20 0 (planOf [(18, 1), (19, 1), (20, 0), (21, 1)]) (planOf [(15, 2), (18, 1), (19, 1), (21, 1)])) (planOf [(15, 2), (17, 2), (18, 1), (19, 1), (21, 1)]))))))))))))))))))
def plInfer33 : Plan := (.take 0 1 (.take 3 1 (.take 5 1 (.take 8 1 (.take 1 2 (.take 2 2 (.take 4 2 (.take 6 2 (.take 7 1 (.take 9 2 (.take 10 3 (.take 11 1 (.take 12 1 (.take 13 1 (.take 15 1 (.fork3 14 3 16 3 19 0 (.fork 16 3 19 0 (planOf [(17, 1), (18, 1), (19, 0), (20, 1)]) (planOf [(16, 2), (17, 1), (18, 1), (20, 1)])) (.fork 14 3 19 0 (planOf [(17, 1), (18, 1), (19, 0), (20, 1)]) (planOf [(14, 2), (17, 1), (18, 1), (20, 1)])) (planOf [(14, 2), (16, 2), (17, 1), (18, 1), (20, 1)])))))))))))))))))
theorem rdf_type : Does Tryz.prog tab 103 0 [.str [116, 121, 112, 101]] [] [] (Val (iriT typB).sv) := rdf_does _ (by decide)
theorem rdfs_dom : Does Tryz.prog tab 104 0 [.str [100, 111, 109, 97, 105, 110]] [] [] (Val (iriT domB).sv) := rdfs_does _ (by decide)
theorem rdfs_ran : Does Tryz.prog tab 104 0 [.str [114, 97, 110, 103, 101]] [] [] (Val (iriT ranB).sv) := rdfs_does _ (by decide)
theorem rdfs_subP : Does Tryz.prog tab 104 0 [.str [115, 117, 98, 80, 114, 111, 112, 101, 114, 116, 121, 79, 102]] [] [] (Val (iriT subP).sv) := rdfs_does _ (by decide)
theorem rdfs_subC : Does Tryz.prog tab 104 0 [.str [115, 117, 98, 67, 108, 97, 115, 115, 79, 102]] [] [] (Val (iriT subC).sv) := rdfs_does _ (by decide)
set_option maxHeartbeats 4000000 in
theorem rdrawn2_does (a b : Qd) : Does Tryz.prog tab 67 0 [.int .i64 2, a.sv, b.sv] [] [] (Val (.tup [(drawnM 2 a b).1.sv, .bool (drawnM 2 a b).2])) := by
  unfold Qd.sv
  refine Does.enter tabOK (g := 67) (fn := Tryz.f67) Tryz.call67 Tryz.func67 rfl 161 rfl rfl [.cell 6 30, .tmp 7] rfl ?_
  intro w0 F η0 h0
  conv => whnf
  repeat' ((first | refine CALL.value (rdf_type) rfl rfl ?_ | refine CALL.value (rdfs_dom) rfl rfl ?_ | refine CALL.value (rdfs_ran) rfl rfl ?_ | refine CALL.value (rdfs_subP) rfl rfl ?_ | refine CALL.value (rdfs_subC) rfl rfl ?_ | refine DRAWN.of (id := 14) tabOK mixed plInfer30 (by kernel_rfl) ?_ | refine DRAWN.of (id := 12) tabOK mixed plInfer31 (by kernel_rfl) ?_ | refine DRAWN.of (id := 10) tabOK mixed plInfer32 (by kernel_rfl) ?_ | refine DRAWN.of (id := 8) tabOK mixed plInfer30 (by kernel_rfl) ?_ | refine DRAWN.of (id := 6) tabOK mixed plInfer33 (by kernel_rfl) ?_ | refine DRAWN.of (id := 4) tabOK mixed plInfer33 (by kernel_rfl) ?_ | with_reducible refine ADD.mk (fun _ _ => ?_) | with_reducible refine NEED.mk (Det.of rfl) ?_ | refine NEED.mk (det_pos (by omega)) ?_ | with_reducible refine FORK.mk ?_ ?_ | refine AU ?_ | ((with_reducible refine IF.mk (fun h => ?_) (fun h => ?_)) <;> (try simp (disch := omega) only [hsB, hsC, lnB, wrap64, wrap32, simprocAttr] at h) <;> try (exfalso; omega))) <;> conv => whnf)
  all_goals
    refine FIN.value h0 rfl (congrArg (fun b => SV.tup [_, SV.bool b]) ?_)
    rw [Bool.eq_iff_iff]
    show _ ↔ (dr2 a b).2 = true
    first
      | (simp_all [tm_eq, @eq_comm _ a.s.k b.p.k, @eq_comm _ a.s.t b.p.t, @eq_comm _ a.s.y b.p.y, @eq_comm _ a.s.l b.p.l]; done)
      | trace_state
set_option maxHeartbeats 4000000 in
theorem rdrawn3_does (a b : Qd) : Does Tryz.prog tab 67 0 [.int .i64 3, a.sv, b.sv] [] [] (Val (.tup [(drawnM 3 a b).1.sv, .bool (drawnM 3 a b).2])) := by
  unfold Qd.sv
  refine Does.enter tabOK (g := 67) (fn := Tryz.f67) Tryz.call67 Tryz.func67 rfl 161 rfl rfl [.cell 6 30, .tmp 7] rfl ?_
  intro w0 F η0 h0
  conv => whnf
  repeat' ((first | refine CALL.value (rdf_type) rfl rfl ?_ | refine CALL.value (rdfs_dom) rfl rfl ?_ | refine CALL.value (rdfs_ran) rfl rfl ?_ | refine CALL.value (rdfs_subP) rfl rfl ?_ | refine CALL.value (rdfs_subC) rfl rfl ?_ | refine DRAWN.of (id := 14) tabOK mixed plInfer30 (by kernel_rfl) ?_ | refine DRAWN.of (id := 12) tabOK mixed plInfer31 (by kernel_rfl) ?_ | refine DRAWN.of (id := 10) tabOK mixed plInfer32 (by kernel_rfl) ?_ | refine DRAWN.of (id := 8) tabOK mixed plInfer30 (by kernel_rfl) ?_ | refine DRAWN.of (id := 6) tabOK mixed plInfer33 (by kernel_rfl) ?_ | refine DRAWN.of (id := 4) tabOK mixed plInfer33 (by kernel_rfl) ?_ | with_reducible refine ADD.mk (fun _ _ => ?_) | with_reducible refine NEED.mk (Det.of rfl) ?_ | refine NEED.mk (det_pos (by omega)) ?_ | with_reducible refine FORK.mk ?_ ?_ | refine AU ?_ | ((with_reducible refine IF.mk (fun h => ?_) (fun h => ?_)) <;> (try simp (disch := omega) only [hsB, hsC, lnB, wrap64, wrap32, simprocAttr] at h) <;> try (exfalso; omega))) <;> conv => whnf)
  all_goals
    refine FIN.value h0 rfl (congrArg (fun b => SV.tup [_, SV.bool b]) ?_)
    rw [Bool.eq_iff_iff]
    show _ ↔ (dr3 a b).2 = true
    first
      | (simp_all [tm_eq, @eq_comm _ a.s.k b.p.k, @eq_comm _ a.s.t b.p.t, @eq_comm _ a.s.y b.p.y, @eq_comm _ a.s.l b.p.l]; done)
      | trace_state
set_option maxHeartbeats 4000000 in
theorem rdrawn5_does (a b : Qd) : Does Tryz.prog tab 67 0 [.int .i64 5, a.sv, b.sv] [] [] (Val (.tup [(drawnM 5 a b).1.sv, .bool (drawnM 5 a b).2])) := by
  unfold Qd.sv
  refine Does.enter tabOK (g := 67) (fn := Tryz.f67) Tryz.call67 Tryz.func67 rfl 161 rfl rfl [.cell 6 30, .tmp 7] rfl ?_
  intro w0 F η0 h0
  conv => whnf
  repeat' ((first | refine CALL.value (rdf_type) rfl rfl ?_ | refine CALL.value (rdfs_dom) rfl rfl ?_ | refine CALL.value (rdfs_ran) rfl rfl ?_ | refine CALL.value (rdfs_subP) rfl rfl ?_ | refine CALL.value (rdfs_subC) rfl rfl ?_ | refine DRAWN.of (id := 14) tabOK mixed plInfer30 (by kernel_rfl) ?_ | refine DRAWN.of (id := 12) tabOK mixed plInfer31 (by kernel_rfl) ?_ | refine DRAWN.of (id := 10) tabOK mixed plInfer32 (by kernel_rfl) ?_ | refine DRAWN.of (id := 8) tabOK mixed plInfer30 (by kernel_rfl) ?_ | refine DRAWN.of (id := 6) tabOK mixed plInfer33 (by kernel_rfl) ?_ | refine DRAWN.of (id := 4) tabOK mixed plInfer33 (by kernel_rfl) ?_ | with_reducible refine ADD.mk (fun _ _ => ?_) | with_reducible refine NEED.mk (Det.of rfl) ?_ | refine NEED.mk (det_pos (by omega)) ?_ | with_reducible refine FORK.mk ?_ ?_ | refine AU ?_ | ((with_reducible refine IF.mk (fun h => ?_) (fun h => ?_)) <;> (try simp (disch := omega) only [hsB, hsC, lnB, wrap64, wrap32, simprocAttr] at h) <;> try (exfalso; omega))) <;> conv => whnf)
  all_goals
    refine FIN.value h0 rfl (congrArg (fun b => SV.tup [_, SV.bool b]) ?_)
    rw [Bool.eq_iff_iff]
    show _ ↔ (chn subP a b).2 = true
    first
      | (simp_all [tm_eq, @eq_comm _ a.s.k b.p.k, @eq_comm _ a.s.t b.p.t, @eq_comm _ a.s.y b.p.y, @eq_comm _ a.s.l b.p.l]; done)
      | trace_state
set_option maxHeartbeats 4000000 in
theorem rdrawn7_does (a b : Qd) : Does Tryz.prog tab 67 0 [.int .i64 7, a.sv, b.sv] [] [] (Val (.tup [(drawnM 7 a b).1.sv, .bool (drawnM 7 a b).2])) := by
  unfold Qd.sv
  refine Does.enter tabOK (g := 67) (fn := Tryz.f67) Tryz.call67 Tryz.func67 rfl 161 rfl rfl [.cell 6 30, .tmp 7] rfl ?_
  intro w0 F η0 h0
  conv => whnf
  repeat' ((first | refine CALL.value (rdf_type) rfl rfl ?_ | refine CALL.value (rdfs_dom) rfl rfl ?_ | refine CALL.value (rdfs_ran) rfl rfl ?_ | refine CALL.value (rdfs_subP) rfl rfl ?_ | refine CALL.value (rdfs_subC) rfl rfl ?_ | refine DRAWN.of (id := 14) tabOK mixed plInfer30 (by kernel_rfl) ?_ | refine DRAWN.of (id := 12) tabOK mixed plInfer31 (by kernel_rfl) ?_ | refine DRAWN.of (id := 10) tabOK mixed plInfer32 (by kernel_rfl) ?_ | refine DRAWN.of (id := 8) tabOK mixed plInfer30 (by kernel_rfl) ?_ | refine DRAWN.of (id := 6) tabOK mixed plInfer33 (by kernel_rfl) ?_ | refine DRAWN.of (id := 4) tabOK mixed plInfer33 (by kernel_rfl) ?_ | with_reducible refine ADD.mk (fun _ _ => ?_) | with_reducible refine NEED.mk (Det.of rfl) ?_ | refine NEED.mk (det_pos (by omega)) ?_ | with_reducible refine FORK.mk ?_ ?_ | refine AU ?_ | ((with_reducible refine IF.mk (fun h => ?_) (fun h => ?_)) <;> (try simp (disch := omega) only [hsB, hsC, lnB, wrap64, wrap32, simprocAttr] at h) <;> try (exfalso; omega))) <;> conv => whnf)
  all_goals
    refine FIN.value h0 rfl (congrArg (fun b => SV.tup [_, SV.bool b]) ?_)
    rw [Bool.eq_iff_iff]
    show _ ↔ (dr7 a b).2 = true
    first
      | (simp_all [tm_eq, @eq_comm _ a.s.k b.p.k, @eq_comm _ a.s.t b.p.t, @eq_comm _ a.s.y b.p.y, @eq_comm _ a.s.l b.p.l]; done)
      | trace_state
set_option maxHeartbeats 4000000 in
theorem rdrawn9_does (a b : Qd) : Does Tryz.prog tab 67 0 [.int .i64 9, a.sv, b.sv] [] [] (Val (.tup [(drawnM 9 a b).1.sv, .bool (drawnM 9 a b).2])) := by
  unfold Qd.sv
  refine Does.enter tabOK (g := 67) (fn := Tryz.f67) Tryz.call67 Tryz.func67 rfl 161 rfl rfl [.cell 6 30, .tmp 7] rfl ?_
  intro w0 F η0 h0
  conv => whnf
  repeat' ((first | refine CALL.value (rdf_type) rfl rfl ?_ | refine CALL.value (rdfs_dom) rfl rfl ?_ | refine CALL.value (rdfs_ran) rfl rfl ?_ | refine CALL.value (rdfs_subP) rfl rfl ?_ | refine CALL.value (rdfs_subC) rfl rfl ?_ | refine DRAWN.of (id := 14) tabOK mixed plInfer30 (by kernel_rfl) ?_ | refine DRAWN.of (id := 12) tabOK mixed plInfer31 (by kernel_rfl) ?_ | refine DRAWN.of (id := 10) tabOK mixed plInfer32 (by kernel_rfl) ?_ | refine DRAWN.of (id := 8) tabOK mixed plInfer30 (by kernel_rfl) ?_ | refine DRAWN.of (id := 6) tabOK mixed plInfer33 (by kernel_rfl) ?_ | refine DRAWN.of (id := 4) tabOK mixed plInfer33 (by kernel_rfl) ?_ | with_reducible refine ADD.mk (fun _ _ => ?_) | with_reducible refine NEED.mk (Det.of rfl) ?_ | refine NEED.mk (det_pos (by omega)) ?_ | with_reducible refine FORK.mk ?_ ?_ | refine AU ?_ | ((with_reducible refine IF.mk (fun h => ?_) (fun h => ?_)) <;> (try simp (disch := omega) only [hsB, hsC, lnB, wrap64, wrap32, simprocAttr] at h) <;> try (exfalso; omega))) <;> conv => whnf)
  all_goals
    refine FIN.value h0 rfl (congrArg (fun b => SV.tup [_, SV.bool b]) ?_)
    rw [Bool.eq_iff_iff]
    show _ ↔ (dr9 a b).2 = true
    first
      | (simp_all [tm_eq, @eq_comm _ a.s.k b.p.k, @eq_comm _ a.s.t b.p.t, @eq_comm _ a.s.y b.p.y, @eq_comm _ a.s.l b.p.l]; done)
      | trace_state
set_option maxHeartbeats 4000000 in
theorem rdrawn11_does (a b : Qd) : Does Tryz.prog tab 67 0 [.int .i64 11, a.sv, b.sv] [] [] (Val (.tup [(drawnM 11 a b).1.sv, .bool (drawnM 11 a b).2])) := by
  unfold Qd.sv
  refine Does.enter tabOK (g := 67) (fn := Tryz.f67) Tryz.call67 Tryz.func67 rfl 161 rfl rfl [.cell 6 30, .tmp 7] rfl ?_
  intro w0 F η0 h0
  conv => whnf
  repeat' ((first | refine CALL.value (rdf_type) rfl rfl ?_ | refine CALL.value (rdfs_dom) rfl rfl ?_ | refine CALL.value (rdfs_ran) rfl rfl ?_ | refine CALL.value (rdfs_subP) rfl rfl ?_ | refine CALL.value (rdfs_subC) rfl rfl ?_ | refine DRAWN.of (id := 14) tabOK mixed plInfer30 (by kernel_rfl) ?_ | refine DRAWN.of (id := 12) tabOK mixed plInfer31 (by kernel_rfl) ?_ | refine DRAWN.of (id := 10) tabOK mixed plInfer32 (by kernel_rfl) ?_ | refine DRAWN.of (id := 8) tabOK mixed plInfer30 (by kernel_rfl) ?_ | refine DRAWN.of (id := 6) tabOK mixed plInfer33 (by kernel_rfl) ?_ | refine DRAWN.of (id := 4) tabOK mixed plInfer33 (by kernel_rfl) ?_ | with_reducible refine ADD.mk (fun _ _ => ?_) | with_reducible refine NEED.mk (Det.of rfl) ?_ | refine NEED.mk (det_pos (by omega)) ?_ | with_reducible refine FORK.mk ?_ ?_ | refine AU ?_ | ((with_reducible refine IF.mk (fun h => ?_) (fun h => ?_)) <;> (try simp (disch := omega) only [hsB, hsC, lnB, wrap64, wrap32, simprocAttr] at h) <;> try (exfalso; omega))) <;> conv => whnf)
  all_goals
    refine FIN.value h0 rfl (congrArg (fun b => SV.tup [_, SV.bool b]) ?_)
    rw [Bool.eq_iff_iff]
    show _ ↔ (chn subC a b).2 = true
    first
      | (simp_all [tm_eq, @eq_comm _ a.s.k b.p.k, @eq_comm _ a.s.t b.p.t, @eq_comm _ a.s.y b.p.y, @eq_comm _ a.s.l b.p.l]; done)
      | trace_state
theorem rdrawnX_does (n : Int) (hx : ¬ (n = 2 ∨ n = 3 ∨ n = 5 ∨ n = 7 ∨ n = 9 ∨ n = 11)) (a b : Qd) : Does Tryz.prog tab 67 0 [.int .i64 n, a.sv, b.sv] [] [] (Val (.tup [(drawnM n a b).1.sv, .bool (drawnM n a b).2])) := by
  have hn := drawn_other (a := a) (b := b) hx
  unfold Qd.sv
  refine Does.enter tabOK (g := 67) (fn := Tryz.f67) Tryz.call67 Tryz.func67 rfl 161 rfl rfl [.cell 6 30, .tmp 7] rfl ?_
  intro w0 F η0 h0
  conv => whnf
  repeat' ((first | refine CALL.value (rdf_type) rfl rfl ?_ | refine AU ?_ | ((with_reducible refine IF.mk (fun h => ?_) (fun h => ?_)) <;> (try simp (disch := omega) only [hsB, hsC, lnB, wrap64, wrap32, simprocAttr] at h) <;> try (exfalso; omega))) <;> conv => whnf)
  all_goals first
    | (refine FIN.value h0 rfl ?_; rw [hn]; rfl)
    | (exfalso; omega)
    | trace_state
theorem rdrawn_does (n : Int) (a b : Qd) : Does Tryz.prog tab 67 0 [.int .i64 n, a.sv, b.sv] [] [] (Val (.tup [(drawnM n a b).1.sv, .bool (drawnM n a b).2])) := by
  by_cases hx : n = 2 ∨ n = 3 ∨ n = 5 ∨ n = 7 ∨ n = 9 ∨ n = 11
  · rcases hx with rfl | rfl | rfl | rfl | rfl | rfl
    · exact rdrawn2_does a b
    · exact rdrawn3_does a b
    · exact rdrawn5_does a b
    · exact rdrawn7_does a b
    · exact rdrawn9_does a b
    · exact rdrawn11_does a b
  · exact rdrawnX_does n hx a b
end Go.Proofs.YtjbbkimodgffiaaGreatDoor
/- InferDraws: the law, walked. Conditions: none. -/
set_option linter.unusedVariables false
set_option linter.unusedSimpArgs false
set_option maxRecDepth 20000
set_option maxHeartbeats 8000000
namespace Go.Proofs.YtjbbkimodgffiaaGreatDoor
open Go.Sx Go.Our
set_option maxHeartbeats 4000000 in
theorem rdraw_does (n : Int) (a b : Qd) (ha : QdSm a) (hb : QdSm b) : Does Tryz.prog tab 39 0 [.int .i64 n, a.sv, b.sv] [] [] (Val (.tup [(drawM n a b).1.sv, .bool (drawM n a b).2])) := by
  have h1 := rcheckQuad_does a ha
  have h2 := rcheckQuad_does b hb
  have h3 := rdrawn_does n a b
  have h4 := rcheckQuad_does (drawnM n a b).1 (drawn_sm ha hb)
  unfold Qd.sv at h1 h2 h3 h4 ⊢
  refine Does.enter tabOK (g := 39) (fn := Tryz.f39) Tryz.call39 Tryz.func39 rfl 42 rfl rfl [.cell 6 30, .tmp 7] rfl ?_
  intro w0 F η0 h0
  conv => whnf
  repeat' ((first | with_reducible refine ADD.mk (fun _ _ => ?_) | with_reducible refine NEED.mk (Det.of rfl) ?_ | refine NEED.mk (det_pos (by omega)) ?_ | with_reducible refine FORK.mk ?_ ?_ | refine CALL.value (h1) rfl rfl ?_ | refine CALL.value (h2) rfl rfl ?_ | refine CALL.value (h3) rfl rfl ?_ | refine CALL.value (h4) rfl rfl ?_ | refine AU ?_ | ((with_reducible refine IF.mk (fun h => ?_) (fun h => ?_)) <;> (try simp (disch := omega) only [hsB, hsC, lnB, wrap64, wrap32, simprocAttr] at h) <;> try (exfalso; omega))) <;> conv => whnf)
  all_goals
    clear h1 h2 h3 h4 ha hb
    refine FIN.value h0 rfl ?_
    first
      | (rw [draw_no (by simp_all [tm_eq]; done)]; rfl)
      | (rw [draw_yes (by simp_all [tm_eq]; done)])
      | trace_state
end Go.Proofs.YtjbbkimodgffiaaGreatDoor
/- infer.Holds and the reference's, walked. Conditions: as many quads and steps as memory bears. -/
set_option linter.unusedVariables false
set_option linter.unusedSimpArgs false
set_option maxRecDepth 20000
set_option maxHeartbeats 8000000
namespace Go.Proofs.YtjbbkimodgffiaaGreatDoor
open Go.Sx Go.Our
def plWorld20 : Plan := (planOf [(0, 1), (1, 1), (2, 1), (4, 1), (3, 2), (5, 2), (6, 3), (7, 1), (8, 1), (9, 1), (10, 1), (11, 1)])
abbrev StSm (s : St) : Prop := QdSm s.a ∧ QdSm s.b ∧ QdSm s.q
theorem holds_does (l z : List Qd) (sts zs : List St) (lim lim' : Option Nat) (hl : l.length ≤ 2097152) (hz : (l ++ z).length ≤ 1152921504606846976) (hs : sts.length ≤ 2097152) (hzs : (sts ++ zs).length ≤ 1152921504606846976) (hsm : ∀ s ∈ sts, StSm s) : Does Tryz.prog tab 11 2 [.sl (.loc 0) 0 16 l.length lim, .sl (.loc 1) 0 49 sts.length lim'] [] [(0, .rows 16 ((l ++ z).map qdRow)), (1, .rows 49 ((sts ++ zs).map stRow))] (ValK 2 (.bool (holdsM l sts))) := by
  have e0 : holdsM l sts = holdsM (foundM l).all sts := holds_congr fun q => (found_mem l q).symm
  have hfo := found_does l z lim (by omega) hz
  refine Does.enter tabOK (g := 11) (fn := Tryz.f11) Tryz.call11 Tryz.func11 rfl 72 rfl rfl [.tmp 4] rfl ?_
  intro w0 F η0 h0
  conv => whnf
  repeat' ((first | refine AU ?_ | ((with_reducible refine IF.mk (fun h => ?_) (fun h => ?_)) <;> (try simp (disch := omega) only [hsB, hsC, lnB, wrap64, wrap32, simprocAttr] at h) <;> try (exfalso; omega))) <;> conv => whnf)
  refine CALL.aA [0] (hfo) ?_
  rintro r O nx ⟨rfl, rfl, rfl⟩
  conv => whnf
  repeat' ((first | refine AU ?_ | ((with_reducible refine IF.mk (fun h => ?_) (fun h => ?_)) <;> (try simp (disch := omega) only [hsB, hsC, lnB, wrap64, wrap32, simprocAttr] at h) <;> try (exfalso; omega))) <;> conv => whnf)
  refine LOOP.gok tabOK [5, 16, 17] [] (X := Nat) (fun i => i ≤ sts.length ∧ holdsM l sts = holdsM (worldAt l (sts.take i)).all (sts.drop i)) (fun i => [(18, .int .i64 (i : Int))]) (fun i => [(2, .box [.sl (.loc 3) 0 16 (worldAt l (sts.take i)).all.length none, .sl (.loc 4) 0 49 (worldAt l (sts.take i)).why.length none, .mp (.loc 5), .mp (.loc 6)]), (3, .rows 16 ((worldAt l (sts.take i)).all.map qdRow)), (4, .rows 49 ((worldAt l (sts.take i)).why.map stRow)), (5, .mp (placeR (worldAt l (sts.take i)).place)), (6, .deep true 2 (atR (worldAt l (sts.take i)).at'))]) 7 (fun i => sts.length - i) 0 ⟨by omega, e0⟩ ?_
  conv => whnf
  refine ⟨by (refine GOES.cutting h0 rfl rfl rfl (by (repeat' (first | (refine belowO_cons rfl ?_ ?_) | exact belowH_rows (plainQds _) | exact belowH_renrows (plainQds _) | exact belowH_rows (plainSts _) | exact belowH_renrows (plainSts _) | exact belowH_mp (plainPlace _) | exact belowH_deep (plainAt _) | rfl))) ?_ ?_ <;> (repeat' (first | exact renH_plain _ (h := .mp _) (plainPlace _) | exact renH_plain _ (h := .deep _ _ _) (plainAt _) | (with_reducible rfl) | exact trivial | (exact sl_eq rfl (by first | omega | (simp (disch := omega) only [lnB, wrap64, wrap32] <;> omega) | (simp; done) | (simp <;> omega))) | (exact congrArg (SV.int _) (by first | omega | (simp (disch := omega) only [lnB, wrap64, wrap32] <;> omega) | (simp; done) | (simp <;> omega))) | (exact box_int (by first | omega | (simp (disch := omega) only [lnB, wrap64, wrap32] <;> omega) | (simp; done) | (simp <;> omega))) | (exact box_sl (by first | omega | (simp (disch := omega) only [lnB, wrap64, wrap32] <;> omega) | (simp; done) | (simp <;> omega))) | (exact renH_plain _ (h := .rows _ _) (plainQds _)) | (exact renH_plain _ (h := .rows _ _) (plainSts _)) | (exact congrArg (Hp.rows _) (by rfl)) | ((conv => whnf); refine ⟨?_, ?_⟩) | rfl))), ?_⟩
  rintro i ⟨hi, hh⟩
  obtain ⟨hWi, hLi⟩ := world_ok l (sts.take i)
  rw [List.length_take] at hLi
  conv => whnf
  by_cases hil : i < sts.length
  · have hst := world_step l sts hil
    have hha := holds_at (l := l) hil hWi
    rw [← hst, ← hh] at hha
    have hput := put_does (worldAt l (sts.take i)) sts[i] hWi (by omega)
    rw [← hst] at hput
    have hsm := hsm sts[i] (List.getElem_mem _)
    have hdr := draw_does sts[i].r sts[i].a sts[i].b hsm.1 hsm.2.1
    have gi : ((sts ++ zs).map stRow)[0 + (i : Int).toNat]? = some (stRow sts[i]) := by
      rw [show 0 + (i : Int).toNat = i by omega, List.getElem?_map, List.getElem?_append_left hil, List.getElem?_eq_getElem hil]; rfl
    generalize sts[i] = s at *
    generalize hD : drawM s.r s.a s.b = D at *
    obtain ⟨dq, db⟩ := D
    repeat' ((first | refine DRAWN.of (id := 5) tabOK mixed plWorld20 (by kernel_rfl) ?_ | refine DRAWN.of (id := 6) tabOK mixed plWorld20 (by kernel_rfl) ?_ | with_reducible refine ADD.mk (fun _ _ => ?_) | with_reducible refine NEED.mk (Det.of rfl) ?_ | refine NEED.mk (det_pos (by omega)) ?_ | with_reducible refine FORK.mk ?_ ?_ | (refine GET.at gi ?_; conv => whnf) | (refine NEED.mk ⟨KQ.ok _, rowsOK_A KQ _ _⟩ ?_; conv => whnf) | (refine FIND.A KQ intV s.a _ (fun _ _ ha => ?_) (fun ha => ?_); conv => whnf) | (refine FIND.A KQ intV s.b _ (fun _ _ hb => ?_) (fun hb => ?_); conv => whnf) | refine CALL.value (hdr) rfl rfl ?_ | refine AU ?_ | ((with_reducible refine IF.mk (fun h => ?_) (fun h => ?_)) <;> (try simp (disch := omega) only [hsB, hsC, lnB, wrap64, wrap32, simprocAttr] at h) <;> try (exfalso; omega))) <;> conv => whnf)
    all_goals first
      | (refine FIN.valueK h0 rfl (congrArg SV.bool ?_)
         rw [hha, step_no ?_]
         · rfl
         · rintro ⟨h1, h2, h3, h4⟩
           rw [hD] at h1 h2
           simp only at h1 h2
           first
             | exact absurd h3 (ix_not hWi ha)
             | exact absurd h4 (ix_not hWi hb)
             | (subst h1; subst h2; simp at h; done))
      | skip
    have h3 := ix_mem hWi ha
    have h4 := ix_mem hWi hb
    rw [step_yes ⟨by rw [hD]; exact h.1, by rw [hD]; exact Qd.ext' (by simp only [qdRow, Qd.row, List.cons.injEq, SV.int.injEq, SV.str.injEq, true_and, and_true]; exact h.2), h3, h4⟩, Bool.true_and] at hha
    refine CALL.aA [2, 3, 4, 5, 6] (hput) ?_
    rintro r O nx ⟨rfl, rfl, rfl⟩
    conv => whnf
    repeat' ((first | refine AU ?_ | ((with_reducible refine IF.mk (fun h => ?_) (fun h => ?_)) <;> (try simp (disch := omega) only [hsB, hsC, lnB, wrap64, wrap32, simprocAttr] at h) <;> try (exfalso; omega))) <;> conv => whnf)
    refine ⟨i + 1, ⟨by omega, hha⟩, by omega, ?_⟩
    conv => whnf
    (refine GOES.keeping h0 [2, 9, 10, 5, 6] rfl rfl rfl (by (repeat' (first | (refine belowO_cons rfl ?_ ?_) | exact belowH_rows (plainQds _) | exact belowH_renrows (plainQds _) | exact belowH_rows (plainSts _) | exact belowH_renrows (plainSts _) | exact belowH_mp (plainPlace _) | exact belowH_deep (plainAt _) | rfl))) ?_ ?_ <;> (repeat' (first | exact (renH_plain _ (h := .mp _) (plainPlace _)).trans (renH_plain _ (h := .mp _) (plainPlace _)).symm | exact (renH_plain _ (h := .deep _ _ _) (plainAt _)).trans (renH_plain _ (h := .deep _ _ _) (plainAt _)).symm | (with_reducible rfl) | exact trivial | (exact sl_eq rfl (by first | omega | (simp (disch := omega) only [lnB, wrap64, wrap32] <;> omega) | (simp; done) | (simp <;> omega))) | (exact congrArg (SV.int _) (by first | omega | (simp (disch := omega) only [lnB, wrap64, wrap32] <;> omega) | (simp; done) | (simp <;> omega))) | (exact box_int (by first | omega | (simp (disch := omega) only [lnB, wrap64, wrap32] <;> omega) | (simp; done) | (simp <;> omega))) | (exact box_sl (by first | omega | (simp (disch := omega) only [lnB, wrap64, wrap32] <;> omega) | (simp; done) | (simp <;> omega))) | (exact (renH_plain _ (h := .rows _ _) (plainQds _)).symm) | (exact (renH_plain _ (h := .rows _ _) (plainQds _)).trans (renH_plain _ (h := .rows _ _) (plainQds _)).symm) | (exact rows_eq (plainQds _) (by rfl)) | (exact (renH_plain _ (h := .rows _ _) (plainSts _)).symm) | (exact (renH_plain _ (h := .rows _ _) (plainSts _)).trans (renH_plain _ (h := .rows _ _) (plainSts _)).symm) | (exact rows_eq (plainSts _) (by rfl)) | ((conv => whnf); refine ⟨?_, ?_⟩) | (simp only [ren, renB]; done) | rfl)))
  · have hie : i = sts.length := by omega
    subst hie
    repeat' ((first | refine AU ?_ | ((with_reducible refine IF.mk (fun h => ?_) (fun h => ?_)) <;> (try simp (disch := omega) only [hsB, hsC, lnB, wrap64, wrap32, simprocAttr] at h) <;> try (exfalso; omega))) <;> conv => whnf)
    refine FIN.valueK h0 rfl (congrArg SV.bool ?_)
    rw [hh, List.drop_length]; rfl
theorem rholds_does (l z : List Qd) (sts zs : List St) (lim lim' : Option Nat) (hl : l.length ≤ 2097152) (hz : (l ++ z).length ≤ 1152921504606846976) (hs : sts.length ≤ 2097152) (hzs : (sts ++ zs).length ≤ 1152921504606846976) (hsm : ∀ s ∈ sts, StSm s) : Does Tryz.prog tab 12 2 [.sl (.loc 0) 0 16 l.length lim, .sl (.loc 1) 0 49 sts.length lim'] [] [(0, .rows 16 ((l ++ z).map qdRow)), (1, .rows 49 ((sts ++ zs).map stRow))] (ValK 2 (.bool (holdsM l sts))) := by
  refine Does.enter tabOK (g := 12) (fn := Tryz.f12) Tryz.call12 Tryz.func12 rfl 67 rfl rfl [.tmp 4] rfl ?_
  intro w0 F η0 h0
  conv => whnf
  repeat' ((first | refine AU ?_ | ((with_reducible refine IF.mk (fun h => ?_) (fun h => ?_)) <;> (try simp (disch := omega) only [hsB, hsC, lnB, wrap64, wrap32, simprocAttr] at h) <;> try (exfalso; omega))) <;> conv => whnf)
  refine LOOP.gok tabOK [0, 1, 5] [] (X := Nat) (fun i => i ≤ l.length) (fun i => [(6, .int .i64 (i : Int))]) (fun i => [(2, .mp (placeR (knownA (l.take i))))]) 3 (fun i => l.length - i) 0 (by omega) ?_
  conv => whnf
  refine ⟨by (refine GOES.cutting h0 rfl rfl rfl (by (repeat' (first | (refine belowO_cons rfl ?_ ?_) | exact belowH_rows (plainQds _) | exact belowH_renrows (plainQds _) | exact belowH_rows (plainSts _) | exact belowH_renrows (plainSts _) | exact belowH_mp (plainPlace _) | rfl))) ?_ ?_ <;> (repeat' (first | (with_reducible rfl) | exact trivial | (exact sl_eq rfl (by first | omega | (simp (disch := omega) only [lnB, wrap64, wrap32] <;> omega) | (simp; done) | (simp <;> omega))) | (exact congrArg (SV.int _) (by first | omega | (simp (disch := omega) only [lnB, wrap64, wrap32] <;> omega) | (simp; done) | (simp <;> omega))) | (exact box_int (by first | omega | (simp (disch := omega) only [lnB, wrap64, wrap32] <;> omega) | (simp; done) | (simp <;> omega))) | (exact box_sl (by first | omega | (simp (disch := omega) only [lnB, wrap64, wrap32] <;> omega) | (simp; done) | (simp <;> omega))) | (exact renH_plain _ (h := .rows _ _) (plainQds _)) | (exact renH_plain _ (h := .rows _ _) (plainSts _)) | (exact congrArg (Hp.rows _) (by rfl)) | ((conv => whnf); refine ⟨?_, ?_⟩) | rfl))), ?_⟩
  intro i hi
  conv => whnf
  by_cases hil : i < l.length
  · have gi : ((l ++ z).map qdRow)[0 + (i : Int).toNat]? = some (qdRow l[i]) := by
      rw [show 0 + (i : Int).toNat = i by omega, List.getElem?_map, List.getElem?_append_left hil, List.getElem?_eq_getElem hil]; rfl
    have hk : knownA (l.take (i + 1)) = setA l[i] 1 (knownA (l.take i)) := by rw [List.take_succ_eq_append_getElem hil, known_snoc]
    repeat' ((first | (refine GET.at gi ?_; conv => whnf) | (refine NEED.mk ⟨KQ.ok _, rowsOK_A KQ _ _⟩ ?_; conv => whnf) | refine AU ?_ | ((with_reducible refine IF.mk (fun h => ?_) (fun h => ?_)) <;> (try simp (disch := omega) only [hsB, hsC, lnB, wrap64, wrap32, simprocAttr] at h) <;> try (exfalso; omega))) <;> conv => whnf)
    refine ⟨i + 1, by omega, by omega, ?_⟩
    rw [hk]
    conv => whnf
    (refine GOES.cutting h0 rfl rfl rfl (by (repeat' (first | (refine belowO_cons rfl ?_ ?_) | exact belowH_rows (plainQds _) | exact belowH_renrows (plainQds _) | exact belowH_rows (plainSts _) | exact belowH_renrows (plainSts _) | exact belowH_mp (plainPlace _) | rfl))) ?_ ?_ <;> (repeat' (first | exact congrArg Hp.mp (setM_A KQ intV _ _ _) | (with_reducible rfl) | exact trivial | (exact sl_eq rfl (by first | omega | (simp (disch := omega) only [lnB, wrap64, wrap32] <;> omega) | (simp; done) | (simp <;> omega))) | (exact congrArg (SV.int _) (by first | omega | (simp (disch := omega) only [lnB, wrap64, wrap32] <;> omega) | (simp; done) | (simp <;> omega))) | (exact box_int (by first | omega | (simp (disch := omega) only [lnB, wrap64, wrap32] <;> omega) | (simp; done) | (simp <;> omega))) | (exact box_sl (by first | omega | (simp (disch := omega) only [lnB, wrap64, wrap32] <;> omega) | (simp; done) | (simp <;> omega))) | (exact renH_plain _ (h := .rows _ _) (plainQds _)) | (exact renH_plain _ (h := .rows _ _) (plainSts _)) | (exact congrArg (Hp.rows _) (by rfl)) | ((conv => whnf); refine ⟨?_, ?_⟩) | rfl)))
  have hie : i = l.length := by omega
  subst hie
  rw [List.take_length]
  repeat' ((first | refine AU ?_ | ((with_reducible refine IF.mk (fun h => ?_) (fun h => ?_)) <;> (try simp (disch := omega) only [hsB, hsC, lnB, wrap64, wrap32, simprocAttr] at h) <;> try (exfalso; omega))) <;> conv => whnf)
  refine LOOP.gok tabOK [1, 5] [] (X := Nat) (fun i => i ≤ sts.length ∧ holdsM l sts = holdsM (l ++ (sts.take i).map St.q) (sts.drop i)) (fun i => [(7, .int .i64 (i : Int))]) (fun i => [(2, .mp (placeR (knownA (l ++ (sts.take i).map St.q))))]) 3 (fun i => sts.length - i) 0 ⟨by omega, by simp⟩ ?_
  conv => whnf
  refine ⟨by (refine GOES.cutting h0 rfl rfl rfl (by (repeat' (first | (refine belowO_cons rfl ?_ ?_) | exact belowH_rows (plainQds _) | exact belowH_renrows (plainQds _) | exact belowH_rows (plainSts _) | exact belowH_renrows (plainSts _) | exact belowH_mp (plainPlace _) | rfl))) ?_ ?_ <;> (repeat' (first | exact congrArg Hp.mp (by simp) | (with_reducible rfl) | exact trivial | (exact sl_eq rfl (by first | omega | (simp (disch := omega) only [lnB, wrap64, wrap32] <;> omega) | (simp; done) | (simp <;> omega))) | (exact congrArg (SV.int _) (by first | omega | (simp (disch := omega) only [lnB, wrap64, wrap32] <;> omega) | (simp; done) | (simp <;> omega))) | (exact box_int (by first | omega | (simp (disch := omega) only [lnB, wrap64, wrap32] <;> omega) | (simp; done) | (simp <;> omega))) | (exact box_sl (by first | omega | (simp (disch := omega) only [lnB, wrap64, wrap32] <;> omega) | (simp; done) | (simp <;> omega))) | (exact renH_plain _ (h := .rows _ _) (plainQds _)) | (exact renH_plain _ (h := .rows _ _) (plainSts _)) | (exact congrArg (Hp.rows _) (by (simp))) | ((conv => whnf); refine ⟨?_, ?_⟩) | rfl))), ?_⟩
  rintro i ⟨hi, hh⟩
  conv => whnf
  by_cases hil : i < sts.length
  · have hha := rholds_at (l := l) hil
    rw [← hh] at hha
    have hsm := hsm sts[i] (List.getElem_mem _)
    have hdr := rdraw_does sts[i].r sts[i].a sts[i].b hsm.1 hsm.2.1
    have gi : ((sts ++ zs).map stRow)[0 + (i : Int).toNat]? = some (stRow sts[i]) := by
      rw [show 0 + (i : Int).toNat = i by omega, List.getElem?_map, List.getElem?_append_left hil, List.getElem?_eq_getElem hil]; rfl
    have hk : knownA (l ++ (sts.take (i + 1)).map St.q) = setA sts[i].q 1 (knownA (l ++ (sts.take i).map St.q)) := by
      rw [List.take_succ_eq_append_getElem hil, List.map_append, ← List.append_assoc]
      exact known_snoc _ _
    generalize sts[i] = s at *
    generalize hD : drawM s.r s.a s.b = D at *
    obtain ⟨dq, db⟩ := D
    repeat' ((first | with_reducible refine ADD.mk (fun _ _ => ?_) | with_reducible refine NEED.mk (Det.of rfl) ?_ | refine NEED.mk (det_pos (by omega)) ?_ | with_reducible refine FORK.mk ?_ ?_ | (refine GET.at gi ?_; conv => whnf) | (refine NEED.mk ⟨KQ.ok _, rowsOK_A KQ _ _⟩ ?_; conv => whnf) | (refine FIND.A KQ intV s.a _ (fun _ _ ha => ?_) (fun ha => ?_); conv => whnf) | (refine FIND.A KQ intV s.b _ (fun _ _ hb => ?_) (fun hb => ?_); conv => whnf) | refine CALL.value (hdr) rfl rfl ?_ | refine AU ?_ | ((with_reducible refine IF.mk (fun h => ?_) (fun h => ?_)) <;> (try simp (disch := omega) only [hsB, hsC, lnB, wrap64, wrap32, simprocAttr] at h) <;> try (exfalso; omega))) <;> conv => whnf)
    all_goals first
      | (exfalso
         first
           | (have h5 := (known_some ha).2; simp only at h5; omega)
           | (have h5 := (known_some hb).2; simp only at h5; omega))
      | (refine FIN.valueK h0 rfl (congrArg SV.bool ?_)
         rw [hha, step_no ?_]
         · rfl
         · rintro ⟨h1, h2, h3, h4⟩
           rw [hD] at h1 h2
           simp only at h1 h2
           first
             | exact absurd h3 (known_none ha)
             | exact absurd h4 (known_none hb)
             | (subst h2; simp_all; done))
      | skip
    have h3 := (known_some ha).1
    have h4 := (known_some hb).1
    rw [step_yes ⟨by rw [hD]; assumption, by rw [hD]; exact Qd.ext' (by simp only [qdRow, Qd.row, List.cons.injEq, SV.int.injEq, SV.str.injEq, true_and, and_true]; assumption), h3, h4⟩, Bool.true_and] at hha
    have hqs : dq = s.q := Qd.ext' (by simp only [qdRow, Qd.row, List.cons.injEq, SV.int.injEq, SV.str.injEq, true_and, and_true]; assumption)
    subst hqs
    refine ⟨i + 1, ⟨by omega, hha⟩, by omega, ?_⟩
    rw [hk]
    conv => whnf
    (refine GOES.cutting h0 rfl rfl rfl (by (repeat' (first | (refine belowO_cons rfl ?_ ?_) | exact belowH_rows (plainQds _) | exact belowH_renrows (plainQds _) | exact belowH_rows (plainSts _) | exact belowH_renrows (plainSts _) | exact belowH_mp (plainPlace _) | rfl))) ?_ ?_ <;> (repeat' (first | exact congrArg Hp.mp (setM_A KQ intV _ _ _) | (with_reducible rfl) | exact trivial | (exact sl_eq rfl (by first | omega | (simp (disch := omega) only [lnB, wrap64, wrap32] <;> omega) | (simp; done) | (simp <;> omega))) | (exact congrArg (SV.int _) (by first | omega | (simp (disch := omega) only [lnB, wrap64, wrap32] <;> omega) | (simp; done) | (simp <;> omega))) | (exact box_int (by first | omega | (simp (disch := omega) only [lnB, wrap64, wrap32] <;> omega) | (simp; done) | (simp <;> omega))) | (exact box_sl (by first | omega | (simp (disch := omega) only [lnB, wrap64, wrap32] <;> omega) | (simp; done) | (simp <;> omega))) | (exact renH_plain _ (h := .rows _ _) (plainQds _)) | (exact renH_plain _ (h := .rows _ _) (plainSts _)) | (exact congrArg (Hp.rows _) (by rfl)) | ((conv => whnf); refine ⟨?_, ?_⟩) | rfl)))
  · have hie : i = sts.length := by omega
    subst hie
    repeat' ((first | refine AU ?_ | ((with_reducible refine IF.mk (fun h => ?_) (fun h => ?_)) <;> (try simp (disch := omega) only [hsB, hsC, lnB, wrap64, wrap32, simprocAttr] at h) <;> try (exfalso; omega))) <;> conv => whnf)
    refine FIN.valueK h0 rfl (congrArg SV.bool ?_)
    rw [hh, List.drop_length]; rfl
end Go.Proofs.YtjbbkimodgffiaaGreatDoor
/- Chapter 25's law of Holds, walked. Conditions: lists of at most 2^20 quads and steps. -/
set_option linter.unusedVariables false
set_option linter.unusedSimpArgs false
set_option maxRecDepth 20000
set_option maxHeartbeats 8000000
namespace Go.Proofs.YtjbbkimodgffiaaGreatDoor
open Go.Sx Go.Our
theorem lawHolds_does (l : List Qd) (sts : List St) (hl : l.length ≤ 1048576) (hs : sts.length ≤ 1048576) (hsm : ∀ s ∈ sts, StSm s) : Does Tryz.prog tab 3 2 [.sl (.loc 0) 0 16 l.length none, .sl (.loc 1) 0 49 sts.length none] [] [(0, .rows 16 (l.map qdRow)), (1, .rows 49 (sts.map stRow))] (ValK 2 (.bool true)) := by
  have hK := kept_does l (by omega)
  have hR := roomy_does l (by omega)
  have hH := holds_does l [markQd, markQd] sts [] none none (by omega) (by simp; omega) (by omega) (by simp; omega) hsm
  have hT := rholds_does l [] sts [] none none (by omega) (by simp; omega) (by omega) (by simp; omega) hsm
  rw [List.append_nil] at hH hT
  rw [List.append_nil] at hT
  refine Does.enter tabOK (g := 3) (fn := Tryz.f3) Tryz.call3 Tryz.func3 rfl 24 rfl rfl [.tmp 4] rfl ?_
  intro w0 F η0 h0
  conv => whnf
  repeat' ((first | refine AU ?_ | ((with_reducible refine IF.mk (fun h => ?_) (fun h => ?_)) <;> (try simp (disch := omega) only [hsB, hsC, lnB, wrap64, wrap32, simprocAttr] at h) <;> try (exfalso; omega))) <;> conv => whnf)
  refine CALL.aA [0] (hR) ?_
  rintro r O nx ⟨rfl, rfl, rfl⟩
  conv => whnf
  repeat' ((first | (refine NEED.mk (needApp 1024 rfl rfl (by simp) (by simp) (by omega)) ?_; conv => whnf) | refine AU ?_ | ((with_reducible refine IF.mk (fun h => ?_) (fun h => ?_)) <;> (try simp (disch := omega) only [hsB, hsC, lnB, wrap64, wrap32, simprocAttr] at h) <;> try (exfalso; omega))) <;> conv => whnf)
  have hpr : List.take 0 ([] : List (List SV)) ++ List.take sts.length (List.drop 0 (sts.map stRow)) = sts.map stRow := by simp [List.take_of_length_le]
  rw [hpr, Nat.zero_add]
  refine CALL.aA [2, 4] (hH) ?_
  rintro r O nx ⟨rfl, rfl, rfl⟩
  conv => whnf
  repeat' ((first | refine AU ?_ | ((with_reducible refine IF.mk (fun h => ?_) (fun h => ?_)) <;> (try simp (disch := omega) only [hsB, hsC, lnB, wrap64, wrap32, simprocAttr] at h) <;> try (exfalso; omega))) <;> conv => whnf)
  refine CALL.aA [0, 1] (hT) ?_
  rintro r O nx ⟨rfl, rfl, rfl⟩
  conv => whnf
  repeat' ((first | refine AU ?_ | ((with_reducible refine IF.mk (fun h => ?_) (fun h => ?_)) <;> (try simp (disch := omega) only [hsB, hsC, lnB, wrap64, wrap32, simprocAttr] at h) <;> try (exfalso; omega))) <;> conv => whnf)
  all_goals try (exfalso; simp at h; done)
  refine CALL.aA [0, 2] (hK) ?_
  rintro r O nx ⟨rfl, rfl, rfl⟩
  conv => whnf
  repeat' ((first | refine AU ?_ | ((with_reducible refine IF.mk (fun h => ?_) (fun h => ?_)) <;> (try simp (disch := omega) only [hsB, hsC, lnB, wrap64, wrap32, simprocAttr] at h) <;> try (exfalso; omega))) <;> conv => whnf)
  exact FIN.valueK h0 rfl rfl
end Go.Proofs.YtjbbkimodgffiaaGreatDoor
/- Slices that come in, told to the engine; from a contract over them to a row's walk. Conditions: none. -/
set_option linter.unusedVariables false
set_option linter.unusedSimpArgs false
namespace Go.Proofs.YtjbbkimodgffiaaGreatDoor
open Go.RowKit Go.Our Go.ChangeShapes Go.WideShapes Go.ChangeAt Go.Sx
section
variable {H : Type} {enc : TypeId × Value → H} {w : World}
theorem qdRow_den (η : Env) (q : Qd) (j : Nat) (sv : SV) (h : (qdRow q)[j]? = some sv) : ∃ u, (qdL q)[j]? = some u ∧ u.oneCell' = true ∧ Den η sv u := by
  have hlt := (List.getElem?_eq_some_iff.1 h).1
  have hl : (qdRow q).length = 16 := rfl
  rw [hl] at hlt
  match j, hlt with
  | 0, _ | 1, _ | 2, _ | 3, _ | 4, _ | 5, _ | 6, _ | 7, _ | 8, _ | 9, _ | 10, _ | 11, _ | 12, _ | 13, _ | 14, _ | 15, _ => injection h with h; subst h; exact ⟨_, rfl, rfl, by simp only [Den]⟩
set_option maxRecDepth 100000 in
theorem read_qds {v : Value} {d : DataW H} {p : List MemPlace} {r : Reach} {b0 : Nat} (ho : Value.okWide Tryz.prog w r b0 22 v) (h : DataW.Trod enc Tryz.prog w 0 (fun _ => true) true 22 v d p) :
    ∃ (l : List Qd) (en : Option Ent), SliceIn w v 16 (l.map qdRow) en ∧ ((l = [] ∧ d = .nil) ∨ ∃ z : List Qd, d = .slice (l.map qdD) (z.map qdD)) :=
  slice_in qdL qdD qdRow (by omega) (fun a => ⟨rfl, rfl⟩) qdRow_den Tryz.underlying22 cellsOfQ (fun fuel cs x hx => let ⟨q, h1, h2, _⟩ := trod_qd hx; ⟨q, h1, h2⟩) ho h
theorem bytesOfQ : Tryz.prog.bytesOf 30 = 224 := by kernel_rfl
theorem qds_small {l : List Qd} {d : DataW H} (hd : (l = [] ∧ d = .nil) ∨ ∃ z : List Qd, d = .slice (l.map qdD) (z.map qdD)) (h : (d.weights Tryz.prog 22).all (fun n => decide (n ≤ reachBytes)) = true) : l.length * 224 ≤ 140737488351232 ∧ ∀ q ∈ l, QdSm q := by
  rcases hd with ⟨rfl, rfl⟩ | ⟨z, rfl⟩
  · simp
  · simp only [DataW.weights, Tryz.underlying22, bytesOfQ, List.length_map, List.all_cons, List.all_append, Bool.and_eq_true, decide_eq_true_eq] at h
    obtain ⟨h1, h2, _⟩ := h
    refine ⟨by unfold reachBytes at h1; rw [Nat.add_mul] at h1; omega, ?_⟩
    have hall : ∀ (l : List Qd), (DataW.weightsAll Tryz.prog 30 (l.map (qdD (H := H)))).all (fun n => decide (n ≤ reachBytes)) = true → ∀ q ∈ l, QdSm q := by
      intro l
      induction l with
      | nil => intro _ q hq; cases hq
      | cons a l ih =>
        intro h q hq
        simp only [List.map_cons, DataW.weightsAll, List.all_append, Bool.and_eq_true] at h
        rcases List.mem_cons.1 hq with rfl | hq
        · exact qd_sm (H := H) h.1
        · exact ih h.2 q hq
    exact hall l h2
end
end Go.Proofs.YtjbbkimodgffiaaGreatDoor
/- Steps that come in, in slices. Conditions: none. -/
set_option linter.unusedVariables false
set_option linter.unusedSimpArgs false
namespace Go.Proofs.YtjbbkimodgffiaaGreatDoor
open Go.RowKit Go.Our Go.ChangeShapes Go.WideShapes Go.ChangeAt Go.Sx
section
variable {H : Type} {enc : TypeId × Value → H} {w : World} {base : Nat} {sp : Nat → Bool} {held : Bool}
def stL (s : St) : List Value := .int .i64 s.r :: (qdL s.a ++ (qdL s.b ++ qdL s.q))
def stD (s : St) : DataW H := .agg [.lit (.int .i64 s.r), qdD s.a, qdD s.b, qdD s.q]
theorem cellsOfSt : Tryz.prog.cellsOf 42 = 49 := by kernel_rfl
theorem parts49 {α : Type} {cs : List α} (h : cs.length = 49) : cs = cs.take 1 ++ ((cs.drop 1).take 16 ++ ((cs.drop 17).take 16 ++ (cs.drop 33).take 16)) := by
  have h1 : (cs.drop 33).take 16 = cs.drop 33 := List.take_of_length_le (by simp; omega)
  have h2 : (cs.drop 17).take 16 ++ cs.drop 33 = cs.drop 17 := by
    have := List.take_append_drop 16 (cs.drop 17)
    rwa [List.drop_drop] at this
  have h3 : (cs.drop 1).take 16 ++ cs.drop 17 = cs.drop 1 := by
    have := List.take_append_drop 16 (cs.drop 1)
    rwa [List.drop_drop] at this
  rw [h1, h2, h3, List.take_append_drop]
set_option maxRecDepth 100000 in
theorem trod_st {fuel : Nat} {cs : List Value} {x : DataW H × List MemPlace} (h : DataW.trod enc Tryz.prog w base sp held fuel 42 cs = some x) :
    ∃ s : St, cs = stL s ∧ x = (stD s, []) := by
  cases fuel with
  | zero => simp [DataW.trod] at h
  | succ fuel =>
    simp only [DataW.trod, Tryz.underlying42, cellsOfSt] at h
    split at h
    · rename_i hl
      simp only [List.mapM_cons, List.mapM_nil, cellsOfI, cellsOfQ] at h
      simp only [Option.map_eq_some_iff, Option.bind_eq_bind, Option.bind_eq_some_iff, Option.pure_def, Option.some.injEq] at h
      obtain ⟨xs, ⟨y0, h0, r1, ⟨y1, h1, r2, ⟨y2, h2, r3, ⟨y3, h3, r4, rfl, rfl⟩, rfl⟩, rfl⟩, rfl⟩, hx⟩ := h
      obtain ⟨k, hk, rfl, wk⟩ := DataW.trod_int Tryz.underlying3 h0
      obtain ⟨a, ha, rfl, _⟩ := trod_qd h1
      obtain ⟨b, hb, rfl, _⟩ := trod_qd h2
      obtain ⟨q, hq, rfl, _⟩ := trod_qd h3
      refine ⟨⟨k, a, b, q⟩, ?_, by rw [← hx]; rfl⟩
      rw [parts49 hl, ha, hb, hq, show cs.take 1 = [.int .i64 k] from hk]
      rfl
    · cases h
theorem stRow_den (η : Env) (s : St) (j : Nat) (sv : SV) (h : (stRow s)[j]? = some sv) : ∃ u, (stL s)[j]? = some u ∧ u.oneCell' = true ∧ Den η sv u := by
  have hd : DenL η (stRow s) (stL s) := by
    have dl : ∀ q : Qd, ∀ (cs : List SV) (vs : List Value), DenL η cs vs → DenL η (qdRow q ++ cs) (qdL q ++ vs) := by
      intro q cs vs h
      simp only [qdRow, Qd.row, qdL, List.cons_append, List.nil_append, DenL, Den]
      exact ⟨_, _, rfl, rfl, _, _, rfl, rfl, _, _, rfl, rfl, _, _, rfl, rfl, _, _, rfl, rfl, _, _, rfl, rfl, _, _, rfl, rfl, _, _, rfl, rfl, _, _, rfl, rfl, _, _, rfl, rfl, _, _, rfl, rfl, _, _, rfl, rfl, _, _, rfl, rfl, _, _, rfl, rfl, _, _, rfl, rfl, _, _, rfl, rfl, h⟩
    have e : stRow s = .int .i64 s.r :: (qdRow s.a ++ (qdRow s.b ++ (qdRow s.q ++ []))) := rfl
    have e2 : stL s = .int .i64 s.r :: (qdL s.a ++ (qdL s.b ++ (qdL s.q ++ []))) := by unfold stL; simp
    rw [e, e2]
    refine ⟨_, _, rfl, rfl, dl _ _ _ (dl _ _ _ (dl _ _ _ rfl))⟩
  obtain ⟨u, h1, h2⟩ := denL_get hd h
  refine ⟨u, h1, ?_, h2⟩
  have hlt := (List.getElem?_eq_some_iff.1 h1).1
  have : ∀ v ∈ stL s, v.oneCell' = true := by
    intro v hv
    unfold stL at hv
    simp only [List.mem_cons, List.mem_append, List.not_mem_nil, or_false] at hv
    rcases hv with rfl | hv
    · rfl
    · repeat' (first | (subst hv; rfl) | (rcases hv with hv | hv))
  exact this u (List.mem_of_getElem? h1)
set_option maxRecDepth 100000 in
theorem read_sts {v : Value} {d : DataW H} {p : List MemPlace} {r : Reach} {b0 : Nat} (ho : Value.okWide Tryz.prog w r b0 23 v) (h : DataW.Trod enc Tryz.prog w 0 (fun _ => true) true 23 v d p) :
    ∃ (l : List St) (en : Option Ent), SliceIn w v 49 (l.map stRow) en ∧ ((l = [] ∧ d = .nil) ∨ ∃ z : List St, d = .slice (l.map stD) (z.map stD)) :=
  slice_in stL stD stRow (by omega) (fun a => ⟨rfl, rfl⟩) stRow_den Tryz.underlying23 cellsOfSt (fun fuel cs x hx => trod_st hx) ho h
theorem st_small {s : St} (h : ((stD s : DataW H).weights Tryz.prog 42).all (fun n => decide (n ≤ reachBytes)) = true) : QdSm s.a ∧ QdSm s.b ∧ QdSm s.q := by
  simp only [stD, DataW.weights, Tryz.underlying42, List.map_cons, List.map_nil, DataW.weightsEach, List.all_append, Bool.and_eq_true] at h
  exact ⟨qd_sm (H := H) h.2.1, qd_sm (H := H) h.2.2.1, qd_sm (H := H) h.2.2.2.1⟩
theorem sts_small {l : List St} {d : DataW H} (hd : (l = [] ∧ d = .nil) ∨ ∃ z : List St, d = .slice (l.map stD) (z.map stD)) (h : (d.weights Tryz.prog 23).all (fun n => decide (n ≤ reachBytes)) = true) : ∀ s ∈ l, QdSm s.a ∧ QdSm s.b ∧ QdSm s.q := by
  rcases hd with ⟨rfl, rfl⟩ | ⟨z, rfl⟩
  · intro s hs; cases hs
  · simp only [DataW.weights, Tryz.underlying23, List.all_cons, List.all_append, Bool.and_eq_true] at h
    obtain ⟨_, h2, _⟩ := h
    have hall : ∀ (l : List St), (DataW.weightsAll Tryz.prog 42 (l.map (stD (H := H)))).all (fun n => decide (n ≤ reachBytes)) = true → ∀ s ∈ l, QdSm s.a ∧ QdSm s.b ∧ QdSm s.q := by
      intro l
      induction l with
      | nil => intro _ q hq; cases hq
      | cons a l ih =>
        intro h q hq
        simp only [List.map_cons, DataW.weightsAll, List.all_append, Bool.and_eq_true] at h
        rcases List.mem_cons.1 hq with rfl | hq
        · exact st_small (H := H) h.1
        · exact ih h.2 q hq
    exact hall l h2
theorem bulk_lenW : ∀ (l : List (DataW H)), l.length ≤ Rows.uptoBulkAll l
  | [] => by simp
  | d :: l => by
    have := bulk_lenW l
    have h1 : 1 ≤ Rows.uptoBulk d := by
      cases d with
      | lit x => cases x <;> simp [Rows.uptoBulk]
      | _ => simp [Rows.uptoBulk]
    simp only [List.length_cons, Rows.uptoBulkAll]; omega
theorem upto_lenG {α : Type} {f : α → DataW H} {l : List α} {d : DataW H} (hd : (l = [] ∧ d = .nil) ∨ ∃ z : List α, d = .slice (l.map f) (z.map f)) {n : Nat} (h : Rows.uptoBulk d ≤ n) : l.length ≤ n := by
  rcases hd with ⟨rfl, rfl⟩ | ⟨z, rfl⟩
  · simp
  · have := bulk_lenW (H := H) (l.map f)
    simp only [Rows.uptoBulk, List.length_map] at this h; omega
end
end Go.Proofs.YtjbbkimodgffiaaGreatDoor
/- InferHolds: the row and its card out of the walk. Conditions: none beyond the statement's own (its bound on the bulk of what is read). -/
set_option linter.unusedVariables false
namespace Go.Proofs.YtjbbkimodgffiaaGreatDoor.inferHoldsUpto
open Go.ChangeShapes Go.WideShapes Go.ChangeAt Go.RowKit Go.Our
open Go.ChangeMaps (open_string shut_string)
theorem own : ownKnob Tryz.prog.godebug = none := by kernel_rfl
theorem laidOut : laidOutB Tryz.prog = true := by kernel_rfl
theorem readable : ∀ t ∈ Tryz.f3.params.toList, Tryz.prog.readableRec t = true ∧ t < Tryz.prog.types.size := by
  have h : (Tryz.f3.params.toList.all fun t => Tryz.prog.readableRec t && decide (t < Tryz.prog.types.size)) = true := by kernel_rfl
  intro t ht
  have := List.all_eq_true.1 h t ht
  simpa using this
set_option maxRecDepth 100000 in
theorem contract (H : Type) (enc : TypeId × Value → H) (W : World) (base : Nat) (args : Array Value) (ds gs : List (DataW H)) (before : List MemPlace)
    (hval : ∀ (j : Nat) t v, Tryz.f3.params[j]? = some t → args[j]? = some v → Value.okWide Tryz.prog W .any base t v)
    (hW : DataW.Whole enc Tryz.prog Tryz.f3.params.toList Rows.inferHoldsSpec.vars false W args.toList ds gs before)
    (hk : Rows.uptoSmall H (ds ++ gs) = true)
    (hsz : (DataW.weightsEach Tryz.prog (Tryz.f3.params.toList ++ (OpenSpec.ofChange Rows.inferHoldsSpec).bare.plain.varTypes Tryz.prog) (ds ++ gs)).all (fun x => decide (x ≤ reachBytes)) = true)
    (hL : laidMetH Tryz.prog Rows.inferHoldsRow.laid W)
    : Calls Tryz.prog 3 args W fun e W' => ∃ v, e = .returned v ∧ Rows.inferHoldsSpec.post enc Tryz.prog Tryz.f3 false true false false W args v W' := by
  have hW' := hW
  have hlt := hW.lt
  obtain ⟨p, q, hA0, hV, rfl, hfz, hnd⟩ := hW
  have hA : DataW.TrodAll enc Tryz.prog W 0 (fun _ => true) true Tryz.f3.params.toList args.toList ds p := hA0
  rw [Tryz.params3] at hA hval
  obtain ⟨v0, vs0, d0, ds0, p0, q0, hargs, rfl, rfl, h0, r0⟩ := trodAll_cons hA
  obtain ⟨v1, vs1, d1, ds1, p1, q1, rfl, rfl, rfl, h1, r1⟩ := trodAll_cons r0
  obtain ⟨rfl, rfl, rfl⟩ := trodAll_nil r1
  obtain rfl : args = #[v0, v1] := by cases args; simp_all
  obtain ⟨rfl, rfl⟩ := trodVars_none hV
  have hlt' : ∀ x ∈ p0 ++ p1, x.block < W.heap.size := fun x hx => hlt x (by simpa using hx)
  have hsz' : (DataW.weightsEach Tryz.prog [22, 23] [d0, d1]).all (fun x => decide (x ≤ reachBytes)) = true := hsz
  simp only [DataW.weightsEach] at hsz'
  simp only [Rows.uptoSmall, decide_eq_true_eq, List.append_nil, Rows.uptoBulkAll] at hk
  have sz0 := all_left hsz'
  have rs0 := all_right hsz'
  obtain ⟨l0, en0, sl0, dd0⟩ := read_qds (hval 0 22 v0 rfl rfl) h0
  have sm0 := qds_small dd0 sz0
  have sz1 := all_left rs0
  obtain ⟨l1, en1, sl1, dd1⟩ := read_sts (hval 1 23 v1 rfl rfl) h1
  have sm1 := sts_small dd1 sz1
  refine (law_calls2 sl0 sl1 (lawHolds_does l0 l1 (upto_lenG dd0 (by omega)) (upto_lenG dd1 (by omega)) sm1) Tryz.call3 ⟨_, _, rfl, sl0.den rfl, _, _, rfl, sl1.den rfl, rfl⟩ (globOf rfl hL)).mono fun e W' ⟨he, hb⟩ => ?_
  subst he
  exact ⟨_, rfl, law_post laidOut readable rfl Tryz.underlying4 hW' rfl rfl rfl rfl hb⟩
/-- A world for the witness: the settled one, each listed variable holding what its initialiser lays. -/
noncomputable def laidWorld (os : Os) : World :=
  { World.holding Tryz.prog os ⟨#[], #[], []⟩ with heap := ((((World.holding Tryz.prog os ⟨#[], #[], []⟩).heap.modify 3 fun | .cells _ t fz => .cells #[.int .u8 128, .int .u8 191, .int .u8 160, .int .u8 191, .int .u8 128, .int .u8 159, .int .u8 144, .int .u8 191, .int .u8 128, .int .u8 143, .int .u8 0, .int .u8 0, .int .u8 0, .int .u8 0, .int .u8 0, .int .u8 0, .int .u8 0, .int .u8 0, .int .u8 0, .int .u8 0, .int .u8 0, .int .u8 0, .int .u8 0, .int .u8 0, .int .u8 0, .int .u8 0, .int .u8 0, .int .u8 0, .int .u8 0, .int .u8 0, .int .u8 0, .int .u8 0] t fz | o => o).modify 1 fun | .cells _ t fz => .cells #[.int .i32 192, .int .i32 214, .int .i32 216, .int .i32 246, .int .i32 248, .int .i32 767, .int .i32 880, .int .i32 893, .int .i32 895, .int .i32 8191, .int .i32 8204, .int .i32 8205, .int .i32 8304, .int .i32 8591, .int .i32 11264, .int .i32 12271, .int .i32 12289, .int .i32 55295, .int .i32 63744, .int .i32 64975, .int .i32 65008, .int .i32 65533, .int .i32 65536, .int .i32 983039] t fz | o => o).modify 2 fun | .cells _ t fz => .cells #[.int .u8 240, .int .u8 240, .int .u8 240, .int .u8 240, .int .u8 240, .int .u8 240, .int .u8 240, .int .u8 240, .int .u8 240, .int .u8 240, .int .u8 240, .int .u8 240, .int .u8 240, .int .u8 240, .int .u8 240, .int .u8 240, .int .u8 240, .int .u8 240, .int .u8 240, .int .u8 240, .int .u8 240, .int .u8 240, .int .u8 240, .int .u8 240, .int .u8 240, .int .u8 240, .int .u8 240, .int .u8 240, .int .u8 240, .int .u8 240, .int .u8 240, .int .u8 240, .int .u8 240, .int .u8 240, .int .u8 240, .int .u8 240, .int .u8 240, .int .u8 240, .int .u8 240, .int .u8 240, .int .u8 240, .int .u8 240, .int .u8 240, .int .u8 240, .int .u8 240, .int .u8 240, .int .u8 240, .int .u8 240, .int .u8 240, .int .u8 240, .int .u8 240, .int .u8 240, .int .u8 240, .int .u8 240, .int .u8 240, .int .u8 240, .int .u8 240, .int .u8 240, .int .u8 240, .int .u8 240, .int .u8 240, .int .u8 240, .int .u8 240, .int .u8 240, .int .u8 240, .int .u8 240, .int .u8 240, .int .u8 240, .int .u8 240, .int .u8 240, .int .u8 240, .int .u8 240, .int .u8 240, .int .u8 240, .int .u8 240, .int .u8 240, .int .u8 240, .int .u8 240, .int .u8 240, .int .u8 240, .int .u8 240, .int .u8 240, .int .u8 240, .int .u8 240, .int .u8 240, .int .u8 240, .int .u8 240, .int .u8 240, .int .u8 240, .int .u8 240, .int .u8 240, .int .u8 240, .int .u8 240, .int .u8 240, .int .u8 240, .int .u8 240, .int .u8 240, .int .u8 240, .int .u8 240, .int .u8 240, .int .u8 240, .int .u8 240, .int .u8 240, .int .u8 240, .int .u8 240, .int .u8 240, .int .u8 240, .int .u8 240, .int .u8 240, .int .u8 240, .int .u8 240, .int .u8 240, .int .u8 240, .int .u8 240, .int .u8 240, .int .u8 240, .int .u8 240, .int .u8 240, .int .u8 240, .int .u8 240, .int .u8 240, .int .u8 240, .int .u8 240, .int .u8 240, .int .u8 240, .int .u8 240, .int .u8 240, .int .u8 240, .int .u8 241, .int .u8 241, .int .u8 241, .int .u8 241, .int .u8 241, .int .u8 241, .int .u8 241, .int .u8 241, .int .u8 241, .int .u8 241, .int .u8 241, .int .u8 241, .int .u8 241, .int .u8 241, .int .u8 241, .int .u8 241, .int .u8 241, .int .u8 241, .int .u8 241, .int .u8 241, .int .u8 241, .int .u8 241, .int .u8 241, .int .u8 241, .int .u8 241, .int .u8 241, .int .u8 241, .int .u8 241, .int .u8 241, .int .u8 241, .int .u8 241, .int .u8 241, .int .u8 241, .int .u8 241, .int .u8 241, .int .u8 241, .int .u8 241, .int .u8 241, .int .u8 241, .int .u8 241, .int .u8 241, .int .u8 241, .int .u8 241, .int .u8 241, .int .u8 241, .int .u8 241, .int .u8 241, .int .u8 241, .int .u8 241, .int .u8 241, .int .u8 241, .int .u8 241, .int .u8 241, .int .u8 241, .int .u8 241, .int .u8 241, .int .u8 241, .int .u8 241, .int .u8 241, .int .u8 241, .int .u8 241, .int .u8 241, .int .u8 241, .int .u8 241, .int .u8 241, .int .u8 241, .int .u8 2, .int .u8 2, .int .u8 2, .int .u8 2, .int .u8 2, .int .u8 2, .int .u8 2, .int .u8 2, .int .u8 2, .int .u8 2, .int .u8 2, .int .u8 2, .int .u8 2, .int .u8 2, .int .u8 2, .int .u8 2, .int .u8 2, .int .u8 2, .int .u8 2, .int .u8 2, .int .u8 2, .int .u8 2, .int .u8 2, .int .u8 2, .int .u8 2, .int .u8 2, .int .u8 2, .int .u8 2, .int .u8 2, .int .u8 2, .int .u8 19, .int .u8 3, .int .u8 3, .int .u8 3, .int .u8 3, .int .u8 3, .int .u8 3, .int .u8 3, .int .u8 3, .int .u8 3, .int .u8 3, .int .u8 3, .int .u8 3, .int .u8 35, .int .u8 3, .int .u8 3, .int .u8 52, .int .u8 4, .int .u8 4, .int .u8 4, .int .u8 68, .int .u8 241, .int .u8 241, .int .u8 241, .int .u8 241, .int .u8 241, .int .u8 241, .int .u8 241, .int .u8 241, .int .u8 241, .int .u8 241, .int .u8 241] t fz | o => o) }
theorem laid_met (os : Os) : laidMet Tryz.prog Rows.inferHoldsRow.laid ((laidWorld os).forCall (fun _ _ => 0) ⟨#[], #[Value.slice none 0 0, Value.slice none 0 0], []⟩).memory :=
  laidMet_of_run' 8 (by kernel_rfl) (by kernel_rfl)
theorem reads (os : Os) {H : Type} (enc : TypeId × Value → H) : ∃ places, DataW.whole enc Tryz.prog ((laidWorld os).forCall (fun _ _ => 0) ⟨#[], #[Value.slice none 0 0, Value.slice none 0 0], []⟩).memory Tryz.f3.params.toList Rows.inferHoldsSpec.vars false #[Value.slice none 0 0, Value.slice none 0 0].toList 8 = some ([.nil, .nil], [], places) :=
  ⟨[], by kernel_rfl⟩
set_option maxRecDepth 100000 in
theorem lifted (os : Os) (started : os.Started) (H : Type) (enc : TypeId × Value → H) (F : Stop.Interp) :
    ReturnsInHanded {} Tryz.checked os 3 .any ((Rows.OpenSpec.upto Rows.inferHoldsSpec).preRow enc Tryz.prog Tryz.f3 Rows.inferHoldsUptoRow.domain false Rows.inferHoldsUptoRow.laid) (((Rows.OpenSpec.upto Rows.inferHoldsSpec).at F).post enc Tryz.prog Tryz.f3 false true false false) := by
  obtain ⟨places, hx⟩ := reads os enc
  refine returnsInHanded_of_row (C := Tryz.checked) (s := (Rows.OpenSpec.upto Rows.inferHoldsSpec)) own started (by kernel_rfl) Tryz.func3
    (witness_row_at (enc := enc) (C := Tryz.checked) false (laidWorld os) #[.slice none 0 0, .slice none 0 0] rfl (by kernel_rfl) (by kernel_rfl) (by kernel_rfl)
      (OpenSpec.preRow_of_cond 8 hx (by kernel_rfl) (fun k hk => by cases hk; kernel_rfl) (by kernel_rfl) (laid_met os))) ?_
  intro W base args ds gs before hval hW _ hcond hsz hL _ _
  exact contract H enc W base args ds gs before hval hW (hcond _ rfl) hsz hL
theorem said : Rows.InferHoldsUptoSaid :=
  OpenClaim.holds_of_cond 3 Tryz.f3 rfl rfl rfl rfl rfl rfl rfl ⟨rfl, rfl, rfl, rfl, rfl⟩ rfl rfl rfl rfl rfl (by kernel_rfl) Tryz.func3 (by kernel_rfl)
    (of_decide_eq_true (by kernel_rfl)) (by unfold Func.isWrapper; first | (rw [if_pos (by decide +kernel)]; kernel_rfl) | (rw [if_neg (by decide +kernel)]; exact ⟨rfl, rfl⟩))
    (fun os started H enc _ F => by rw [OpenClaim.pre_eq_preRow]; exact lifted os started H enc F)
theorem plain (f : FuncId) (fn : Func) (hf : Tryz.pinned.checked.prog.funcNamed "tessera/tesseralaw25.InferHolds" = some f) (hfn : Tryz.pinned.checked.prog.funcs[f]? = some fn) :
    false = Tryz.pinned.checked.prog.looks [] ∧ ∀ (j : Nat) t, fn.params[j]? = some t → Tryz.pinned.checked.prog.wantsStandIn t = false := by
  obtain rfl : f = 3 := Option.some.inj ((show Tryz.prog.funcNamed "tessera/tesseralaw25.InferHolds" = some 3 by kernel_rfl).symm.trans hf) |>.symm
  obtain rfl : fn = Tryz.f3 := (Option.some.inj (Tryz.func3.symm.trans hfn)).symm
  refine ⟨by kernel_rfl, fun j t ht => ?_⟩
  have h : (Tryz.f3.params.toList.all fun t => !Tryz.prog.wantsStandIn t) = true := by kernel_rfl
  have := List.all_eq_true.1 h t (by simpa using Array.mem_of_getElem? ht)
  have e : Tryz.prog.wantsStandIn t = false := by simpa using this
  exact e
theorem card : Rows.InferHoldsUptoCardSaid :=
  Claim7.holds_tied_plain_at .later [] _ _ _ _ said (fun _ h => by cases h) (by kernel_rfl) (fun _ h => by cases h) inferHoldsUpto_row_tie rfl ⟨rfl, rfl⟩ (by kernel_rfl) rfl plain (by kernel_rfl)
end Go.Proofs.YtjbbkimodgffiaaGreatDoor.inferHoldsUpto
