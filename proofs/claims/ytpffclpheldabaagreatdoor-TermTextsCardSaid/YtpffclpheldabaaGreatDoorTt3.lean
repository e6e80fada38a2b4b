/- Part 3 of the texts that the last one leans on: Esc2, TextM, Iri, Iri2, Names1, Part1, Split1, Tag1, Tag2. Conditions: as each part says. -/
import Derived.Test.YtpffclpheldabaaGreatDoorTt2
/- The reference's escapes, walked. Conditions: none. -/
set_option linter.unusedVariables false
set_option linter.unusedSimpArgs false
set_option maxRecDepth 20000
namespace Go.Proofs.YtpffclpheldabaaGreatDoor
open Go.Sx Go.Our
set_option maxHeartbeats 2000000 in
theorem r4digits_does (n : Int) (hn : 0 ≤ n ∧ n < 256) : Does Tryz.prog tab 106 0 [.int .i64 n, .int .i64 4] [] [] (Val (.str (hex4 n))) := by
  refine Does.enter tabOK (g := 106) (fn := Tryz.f106) Tryz.call106 Tryz.func106 rfl 23 rfl rfl [.tmp 4] rfl ?_
  intro w0 F η0 h0
  conv => whnf
  refine LOOP.go tabOK [1] (X := Nat × Int × List UInt8) (fun x => x.1 ≤ 4 ∧ (0 ≤ x.2.1 ∧ x.2.1 < 256) ∧ hexR (4 - x.1) x.2.1 ++ x.2.2 = hex4 n ∧ x.2.2.length = x.1) (fun x => [(0, .int .i64 x.2.1), (5, .str x.2.2), (6, .int .i64 x.1)]) (fun _ => []) 0 (fun x => 4 - x.1) (0, n, []) ⟨by simp, hn, by simp [hexR4], rfl⟩ ?_
  conv => whnf
  refine ⟨by (refine GOES.cutting h0 rfl rfl rfl (by first | rfl | simp [belowO, belowH, plainLL_below, plainLL_map, plainL, plain]) ?_ ?_ <;> (repeat' (first | (with_reducible rfl) | (exact congrArg (fun n => SV.sl _ _ _ n _) (by simp)) | (exact congrArg (Hp.rows _) (by simp)) | (exact congrArg (SV.int _) (by first | omega | (simp (disch := omega) only [lnB, wrap64, wrap32] <;> omega) | (simp; done) | (simp <;> omega))) | ((conv => whnf); refine ⟨?_, ?_⟩) | exact trivial | (simp; done) | rfl))), ?_⟩
  rintro ⟨i, r, s⟩ ⟨hi, hr, hs, hl⟩
  dsimp only at hi hr hs hl
  have h1 : r.tmod 16 = r % 16 := tmodp hr.1
  have h2 : r.tdiv 16 = r / 16 := tdivp hr.1
  have h3 : IntKind.i64.wrap (r % 16 + 1) = r % 16 + 1 := wrap64 (by omega) (by omega)
  conv => whnf
  repeat' (first | ((with_reducible refine IF.tt ?_); conv => whnf) | ((with_reducible refine IF.ff ?_); conv => whnf) | (refine NEED.mk (by rw [h1, h3]; exact ⟨by omega, by omega, by show _ ≤ (16 : Int); omega⟩) ?_; conv => whnf) | (refine NEED.mk (by simp; omega) ?_; conv => whnf) | ((with_reducible refine NEED.mk ?_ ?_); (first | with_reducible rfl | omega | (simp (disch := omega) only [lnB, wrap64, wrap32] <;> omega) | (intro h; (try simp (disch := omega) only [hsB, hsC, lnB, wrap64, wrap32, Int.reduceBEq, Int.reduceBNe, Int.reduceEq, Int.reduceNe, Int.reduceLT, Int.reduceLE, Int.reduceGT, Int.reduceGE, Int.reduceAdd, Int.reduceSub, Int.reduceMul, Int.reduceNeg, reduceCtorEq] at h); (first | omega | (simp (disch := omega) only [lnB, wrap64, wrap32] <;> omega))) | (exact needApp 256 rfl rfl (by simp) (by simp) (by omega)) | (simp <;> omega)); conv => whnf) | ((with_reducible apply GET.at); (rfl); conv => whnf) | ((with_reducible apply GETG.at); (rfl); conv => whnf) | ((with_reducible refine IF.mk (fun h => ?_) (fun h => ?_)) <;> (try simp (disch := omega) only [hsB, hsC, lnB, wrap64, wrap32, Int.reduceBEq, Int.reduceBNe, Int.reduceEq, Int.reduceNe, Int.reduceLT, Int.reduceLE, Int.reduceGT, Int.reduceGE, Int.reduceAdd, Int.reduceSub, Int.reduceMul, Int.reduceNeg, reduceCtorEq] at h) <;> (try (exfalso; omega)) <;> conv => whnf))
  · have h4 : IntKind.i64.wrap (r / 16) = r / 16 := wrap64 (by omega) (by omega)
    have h5 : List.take ((r % 16 + 1).toNat - (r % 16).toNat) (List.drop (r % 16).toNat [48, 49, 50, 51, 52, 53, 54, 55, 56, 57, 65, 66, 67, 68, 69, 70]) = [hexD (r % 16)] := hexCut ⟨by omega, by omega⟩
    refine ⟨(i + 1, r / 16, [hexD (r % 16)] ++ s), ⟨by simp only; omega, by simp only; omega, ?_, by simp [hl]⟩, by simp only; omega, ?_⟩
    · simp only
      rw [← hs, show 4 - i = (4 - (i + 1)) + 1 by omega, hexR, List.append_assoc]
    · dsimp only
      rw [h1, h2, h3, h4, h5]
      conv => whnf
      (refine GOES.cutting h0 rfl rfl rfl (by first | rfl | simp [belowO, belowH, plainLL_below, plainLL_map, plainL, plain]) ?_ ?_ <;> (repeat' (first | (with_reducible rfl) | (exact congrArg (fun n => SV.sl _ _ _ n _) (by simp)) | (exact congrArg (Hp.rows _) (by simp)) | (exact congrArg (SV.int _) (by first | omega | (simp (disch := omega) only [lnB, wrap64, wrap32] <;> omega) | (simp; done) | (simp <;> omega))) | ((conv => whnf); refine ⟨?_, ?_⟩) | exact trivial | (simp; done) | rfl)))
  · refine FIN.value h0 rfl (congrArg SV.str ?_)
    rw [← hs, show 4 - i = 0 by omega]; rfl
theorem r4written_does (r way : Int) (hr : Scalar r) : Does Tryz.prog tab 69 0 [.int .i64 r, .int .i64 way] [] [] (Val (.str (writtenM way r))) := by
  obtain ⟨hr0, hr1, _⟩ := hr
  have h4 := hex4_len r
  refine Does.enter tabOK (g := 69) (fn := Tryz.f69) Tryz.call69 Tryz.func69 rfl 57 rfl rfl [.tmp 4] rfl ?_
  intro w0 F η0 h0
  conv => whnf
  repeat' (first | ((with_reducible refine IF.tt ?_); conv => whnf) | ((with_reducible refine IF.ff ?_); conv => whnf) | (refine LOOP.once tabOK ?_; conv => whnf) | (refine CALL.value (r4digits_does _ (by omega)) rfl rfl ?_; conv => whnf) | (refine CALL.bytes (ref04Bytes_does _ (by omega)) rfl ?_; conv => whnf) | (refine NEED.mk (needText (by simp)) ?_; conv => whnf) | ((with_reducible refine NEED.mk ?_ ?_); (first | with_reducible rfl | omega | (simp (disch := omega) only [lnB, wrap64, wrap32] <;> omega) | (intro h; (try simp (disch := omega) only [hsB, hsC, lnB, wrap64, wrap32, Int.reduceBEq, Int.reduceBNe, Int.reduceEq, Int.reduceNe, Int.reduceLT, Int.reduceLE, Int.reduceGT, Int.reduceGE, Int.reduceAdd, Int.reduceSub, Int.reduceMul, Int.reduceNeg, reduceCtorEq] at h); (first | omega | (simp (disch := omega) only [lnB, wrap64, wrap32] <;> omega))) | (exact needApp 256 rfl rfl (by simp) (by simp) (by omega)) | (simp <;> omega)); conv => whnf) | ((with_reducible apply GET.at); (rfl); conv => whnf) | ((with_reducible apply GETG.at); (rfl); conv => whnf) | ((with_reducible refine IF.mk (fun h => ?_) (fun h => ?_)) <;> (try simp (disch := omega) only [hsB, hsC, lnB, wrap64, wrap32, Int.reduceBEq, Int.reduceBNe, Int.reduceEq, Int.reduceNe, Int.reduceLT, Int.reduceLE, Int.reduceGT, Int.reduceGE, Int.reduceAdd, Int.reduceSub, Int.reduceMul, Int.reduceNeg, reduceCtorEq] at h) <;> (try (exfalso; omega)) <;> conv => whnf))
  all_goals try simp only [fromAt, noAt] at *
  iterate 7
    · subst h
      rw [show way = 1 by assumption]
      exact FIN.value h0 rfl (congrArg SV.str (by decide +kernel))
  all_goals
    repeat' (first | ((with_reducible refine IF.tt ?_); conv => whnf) | ((with_reducible refine IF.ff ?_); conv => whnf) | (refine CALL.value (r4digits_does _ (by omega)) rfl rfl ?_; conv => whnf) | ((with_reducible refine NEED.mk ?_ ?_); (first | with_reducible rfl | omega | (simp (disch := omega) only [lnB, wrap64, wrap32] <;> omega) | (intro h; (try simp (disch := omega) only [hsB, hsC, lnB, wrap64, wrap32, Int.reduceBEq, Int.reduceBNe, Int.reduceEq, Int.reduceNe, Int.reduceLT, Int.reduceLE, Int.reduceGT, Int.reduceGE, Int.reduceAdd, Int.reduceSub, Int.reduceMul, Int.reduceNeg, reduceCtorEq] at h); (first | omega | (simp (disch := omega) only [lnB, wrap64, wrap32] <;> omega))) | (exact needApp 256 rfl rfl (by simp) (by simp) (by omega)) | (simp <;> omega)); conv => whnf) | ((with_reducible apply GET.at); (rfl); conv => whnf) | ((with_reducible apply GETG.at); (rfl); conv => whnf) | ((with_reducible refine IF.mk (fun h => ?_) (fun h => ?_)) <;> (try simp (disch := omega) only [hsB, hsC, lnB, wrap64, wrap32, Int.reduceBEq, Int.reduceBNe, Int.reduceEq, Int.reduceNe, Int.reduceLT, Int.reduceLE, Int.reduceGT, Int.reduceGE, Int.reduceAdd, Int.reduceSub, Int.reduceMul, Int.reduceNeg, reduceCtorEq] at h) <;> (try (exfalso; omega)) <;> conv => whnf))
    refine FIN.value h0 rfl (congrArg SV.str ?_)
    try rw [textAll]
    unfold writtenM Our.Barred
    simp only [eq_comm (a := r)]
    first
      | (rw [if_neg (by assumption), if_pos (by simpa only [or_assoc] using h)]; rfl)
      | (rw [if_neg (by assumption), if_neg (by omega)])
      | (simp (disch := omega) only [↓if_pos, ↓if_neg]; done)
      | (simp (disch := omega) only [↓if_pos, ↓if_neg]; rfl)
theorem r4escape_does (s : List UInt8) (way : Int) (hs : s.length ≤ 1099511627776) (hc : chk s 0 < 0) : Does Tryz.prog tab 39 0 [.str s, .int .i64 way] [] [] (Val (.tup [.str (escM way s), .agg [.int .i64 0, .int .i64 0]])) := by
  refine Does.enter tabOK (g := 39) (fn := Tryz.f39) Tryz.call39 Tryz.func39 rfl 37 rfl rfl [.tmp 4, .cell 5 72] rfl ?_
  intro w0 F η0 h0
  conv => whnf
  repeat' (first | ((with_reducible refine IF.tt ?_); conv => whnf) | ((with_reducible refine IF.ff ?_); conv => whnf) | (refine CALL.value (ref04Check_does _ (by omega)) rfl rfl ?_; conv => whnf) | ((with_reducible refine NEED.mk ?_ ?_); (first | with_reducible rfl | omega | (simp (disch := omega) only [lnB, wrap64, wrap32] <;> omega) | (intro h; (try simp (disch := omega) only [hsB, hsC, lnB, wrap64, wrap32, Int.reduceBEq, Int.reduceBNe, Int.reduceEq, Int.reduceNe, Int.reduceLT, Int.reduceLE, Int.reduceGT, Int.reduceGE, Int.reduceAdd, Int.reduceSub, Int.reduceMul, Int.reduceNeg, reduceCtorEq] at h); (first | omega | (simp (disch := omega) only [lnB, wrap64, wrap32] <;> omega))) | (exact needApp 256 rfl rfl (by simp) (by simp) (by omega)) | (simp <;> omega)); conv => whnf) | ((with_reducible apply GET.at); (rfl); conv => whnf) | ((with_reducible apply GETG.at); (rfl); conv => whnf) | ((with_reducible refine IF.mk (fun h => ?_) (fun h => ?_)) <;> (try simp (disch := omega) only [hsB, hsC, lnB, wrap64, wrap32, Int.reduceBEq, Int.reduceBNe, Int.reduceEq, Int.reduceNe, Int.reduceLT, Int.reduceLE, Int.reduceGT, Int.reduceGE, Int.reduceAdd, Int.reduceSub, Int.reduceMul, Int.reduceNeg, reduceCtorEq] at h) <;> (try (exfalso; omega)) <;> conv => whnf))
  have hc1 : chk s 0 = -1 := by have := chk_ge s 0; omega
  refine LOOP.nil 7 1 rfl ?_
  refine LOOP.go tabOK [0, 1, 5] (X := Nat × List UInt8) (fun x => x.1 ≤ s.length ∧ chk s x.1 = -1 ∧ x.2 ++ escFrom way s x.1 = escFrom way s 0 ∧ x.2.length ≤ 6 * x.1) (fun x => [(6, .int .i64 (x.1 : Int)), (7, .sl (.loc 1) 0 1 x.2.length none)]) (fun x => [(0, .box [.int .i64 0, .int .i64 0]), (1, .rows 1 (x.2.map Sx.bytesRow))]) 2 (fun x => s.length - x.1) (0, []) ⟨by simp, hc1, by simp, by simp⟩ ?_
  conv => whnf
  refine ⟨by (refine GOES.cutting h0 rfl rfl rfl (by first | rfl | simp [belowO, belowH, plainLL_below, plainLL_map, plainL, plain]) ?_ ?_ <;> (repeat' (first | (with_reducible rfl) | (exact congrArg (fun n => SV.sl _ _ _ n _) (by simp)) | (exact congrArg (Hp.rows _) (by simp)) | (exact congrArg (SV.int _) (by first | omega | (simp (disch := omega) only [lnB, wrap64, wrap32] <;> omega) | (simp; done) | (simp <;> omega))) | ((conv => whnf); refine ⟨?_, ?_⟩) | exact trivial | (simp; done) | rfl))), ?_⟩
  rintro ⟨i, out⟩ ⟨hi, hch, hout, hol⟩
  dsimp only at hi hch hout hol ⊢
  have hn := nextAt_n s i
  have hwl := written_len way (nextAt s i).1
  conv => whnf
  refine IF.mk (fun h => ?_) (fun h => ?_)
  · have h : i < s.length := by simpa using h
    have hnx := chk_next h hch
    have hsc := nextAt_scalar h hnx
    conv => whnf
    repeat' (first | ((with_reducible refine IF.tt ?_); conv => whnf) | ((with_reducible refine IF.ff ?_); conv => whnf) | (refine CALL.value (ref04Next_does s _ (by omega)) rfl rfl ?_; conv => whnf) | (refine CALL.value (r4written_does _ way hsc) rfl rfl ?_; conv => whnf) | (refine NEED.mk (needApp 8 rfl rfl (by simp) (by simp) (by omega)) ?_; conv => whnf) | ((with_reducible refine NEED.mk ?_ ?_); (first | with_reducible rfl | omega | (simp (disch := omega) only [lnB, wrap64, wrap32] <;> omega) | (intro h; (try simp (disch := omega) only [hsB, hsC, lnB, wrap64, wrap32, Int.reduceBEq, Int.reduceBNe, Int.reduceEq, Int.reduceNe, Int.reduceLT, Int.reduceLE, Int.reduceGT, Int.reduceGE, Int.reduceAdd, Int.reduceSub, Int.reduceMul, Int.reduceNeg, reduceCtorEq] at h); (first | omega | (simp (disch := omega) only [lnB, wrap64, wrap32] <;> omega))) | (exact needApp 256 rfl rfl (by simp) (by simp) (by omega)) | (simp <;> omega)); conv => whnf) | ((with_reducible apply GET.at); (rfl); conv => whnf) | ((with_reducible apply GETG.at); (rfl); conv => whnf) | ((with_reducible refine IF.mk (fun h => ?_) (fun h => ?_)) <;> (try simp (disch := omega) only [hsB, hsC, lnB, wrap64, wrap32, Int.reduceBEq, Int.reduceBNe, Int.reduceEq, Int.reduceNe, Int.reduceLT, Int.reduceLE, Int.reduceGT, Int.reduceGE, Int.reduceAdd, Int.reduceSub, Int.reduceMul, Int.reduceNeg, reduceCtorEq] at h) <;> (try (exfalso; omega)) <;> conv => whnf))
    refine ⟨(i + (nextAt s i).2.toNat, out ++ writtenM way (nextAt s i).1), ⟨?_, ?_, ?_, ?_⟩, ?_, ?_⟩
    · simp only; omega
    · simp only
      rw [← chk_step h hnx, hch]
    · simp only
      rw [← hout, escFrom_step h hnx, List.append_assoc]
    · simp only [List.length_append]; omega
    · simp only; omega
    · dsimp only
      conv => whnf
      (refine GOES.keeping h0 [0, 2] rfl rfl rfl (by first | rfl | (simp only [belowO, belowH, plainLL_below _ (plainBytes _), Bool.and_self, Bool.and_true] <;> rfl)) ?_ ?_ <;> (repeat' (first | (with_reducible rfl) | (exact rows_eq (plainBytes _) (renLL_plain _ (plainBytes _))) | (exact rows_eq (plainBytes _) (by simp [Sx.bytesRow, ofVal, List.take_of_length_le])) | (exact sl_eq rfl (by simp)) | (exact congrArg (SV.int _) (by first | omega | (simp (disch := omega) only [lnB, wrap64, wrap32] <;> omega) | (simp; done) | (simp <;> omega))) | ((conv => whnf); refine ⟨?_, ?_⟩) | exact trivial | (simp only [ren, renB]; done) | rfl)))
  · have h : s.length ≤ i := by simp at h; omega
    rw [escFrom_end h, List.append_nil] at hout
    conv => whnf
    repeat' (first | ((with_reducible refine IF.tt ?_); conv => whnf) | ((with_reducible refine IF.ff ?_); conv => whnf) | (refine NEED.mk (needText (by simp)) ?_; conv => whnf) | ((with_reducible refine NEED.mk ?_ ?_); (first | with_reducible rfl | omega | (simp (disch := omega) only [lnB, wrap64, wrap32] <;> omega) | (intro h; (try simp (disch := omega) only [hsB, hsC, lnB, wrap64, wrap32, Int.reduceBEq, Int.reduceBNe, Int.reduceEq, Int.reduceNe, Int.reduceLT, Int.reduceLE, Int.reduceGT, Int.reduceGE, Int.reduceAdd, Int.reduceSub, Int.reduceMul, Int.reduceNeg, reduceCtorEq] at h); (first | omega | (simp (disch := omega) only [lnB, wrap64, wrap32] <;> omega))) | (exact needApp 256 rfl rfl (by simp) (by simp) (by omega)) | (simp <;> omega)); conv => whnf) | ((with_reducible apply GET.at); (rfl); conv => whnf) | ((with_reducible apply GETG.at); (rfl); conv => whnf) | ((with_reducible refine IF.mk (fun h => ?_) (fun h => ?_)) <;> (try simp (disch := omega) only [hsB, hsC, lnB, wrap64, wrap32, Int.reduceBEq, Int.reduceBNe, Int.reduceEq, Int.reduceNe, Int.reduceLT, Int.reduceLE, Int.reduceGT, Int.reduceGE, Int.reduceAdd, Int.reduceSub, Int.reduceMul, Int.reduceNeg, reduceCtorEq] at h) <;> (try (exfalso; omega)) <;> conv => whnf))
    refine FIN.value h0 rfl ?_
    unfold escM
    rw [if_neg (by omega), ← hout, textAll]
    try rfl
end Go.Proofs.YtpffclpheldabaaGreatDoor
/- A term's text in plain words. No program in sight. -/
set_option linter.unusedVariables false
set_option linter.unusedSimpArgs false
namespace Go.Our
open Go.Sx
/-- xsd:string -/
def plainB : List UInt8 := [104, 116, 116, 112, 58, 47, 47, 119, 119, 119, 46, 119, 51, 46, 111, 114, 103, 47, 50, 48, 48, 49, 47, 88, 77, 76, 83, 99, 104, 101, 109, 97, 35, 115, 116, 114, 105, 110, 103]
def angM (s : List UInt8) : List UInt8 := [60] ++ escM 2 s ++ [62]
def textM (x : Tm) : List UInt8 :=
  if checkM x ≠ 0 then [] else if x.k = 1 then angM x.t else if x.k = 2 then [95, 58] ++ x.t else
  [34] ++ escM 1 x.t ++ [34] ++ (if x.l ≠ [] then [64] ++ x.l else if x.y ≠ plainB then [94, 94] ++ angM x.y else [])
theorem refM_ok {s : List UInt8} (h : iriM s = 0) : s.length ≤ 65536 ∧ chk s 0 < 0 := by
  unfold iriM at h
  split at h
  · omega
  · rename_i h1
    unfold refM at h1
    (repeat' split at h1) <;> simp at h1 <;> omega
theorem escM_len (way : Int) (s : List UInt8) : (escM way s).length ≤ 6 * s.length := by
  unfold escM
  split
  · simp
  · have := escFrom_len way s 0; omega
theorem check_text {x : Tm} (h : checkM x = 0) : x.t.length ≤ 65536 ∧ (x.k ≠ 2 → chk x.t 0 < 0) ∧ (x.k = 3 → iriM x.y = 0 ∧ x.l.length ≤ 65536) := by
  unfold checkM at h
  split at h
  · split at h
    · omega
    · split at h
      · obtain ⟨h1, h2⟩ := refM_ok h
        exact ⟨h1, fun _ => h2, fun h3 => by omega⟩
      · split at h
        · omega
        · exact ⟨by omega, fun h3 => by omega, fun h3 => by omega⟩
  · split at h
    · unfold litM at h
      split at h
      · omega
      split at h
      · omega
      split at h
      · rename_i h1; exact absurd h h1
      rename_i h1 h2 h3
      refine ⟨by omega, fun _ => by omega, fun _ => ⟨by simpa using h3, ?_⟩⟩
      by_cases hl : x.l = []
      · rw [hl]; simp
      · split at h
        · omega
        · rename_i h4
          have : ¬ 65536 < x.l.length := fun h5 => h4 ⟨hl, h5⟩
          omega
    · omega
end Go.Our
/- iri and its reference: references and schemes, walked. Conditions: none. -/
set_option linter.unusedVariables false
set_option linter.unusedSimpArgs false
set_option maxRecDepth 20000
namespace Go.Proofs.YtpffclpheldabaaGreatDoor
open Go.Sx Go.Our
theorem ref05Barred_does (c : Int) : Does Tryz.prog tab 134 0 [.int .u8 c] [] [] (Val (.bool (barredM c))) := by
  refine Does.enter tabOK (g := 134) (fn := Tryz.f134) Tryz.call134 Tryz.func134 rfl 16 rfl rfl [.tmp 2] rfl ?_
  intro w0 F η0 h0
  conv => whnf
  repeat' (first | ((with_reducible refine IF.tt ?_); conv => whnf) | ((with_reducible refine IF.ff ?_); conv => whnf) | ((with_reducible refine NEED.mk ?_ ?_); (first | with_reducible rfl | omega | (simp (disch := omega) only [lnB, wrap64, wrap32] <;> omega) | (intro h; (try simp (disch := omega) only [hsB, hsC, lnB, wrap64, wrap32, Int.reduceBEq, Int.reduceBNe, Int.reduceEq, Int.reduceNe, Int.reduceLT, Int.reduceLE, Int.reduceGT, Int.reduceGE, Int.reduceAdd, Int.reduceSub, Int.reduceMul, Int.reduceNeg, reduceCtorEq] at h); (first | omega | (simp (disch := omega) only [lnB, wrap64, wrap32] <;> omega))) | (exact needApp 256 rfl rfl (by simp) (by simp) (by omega)) | (simp <;> omega)); conv => whnf) | ((with_reducible apply GET.at); (rfl); conv => whnf) | ((with_reducible apply GETG.at); (rfl); conv => whnf) | ((with_reducible refine IF.mk (fun h => ?_) (fun h => ?_)) <;> (try simp (disch := omega) only [hsB, hsC, lnB, wrap64, wrap32, Int.reduceBEq, Int.reduceBNe, Int.reduceEq, Int.reduceNe, Int.reduceLT, Int.reduceLE, Int.reduceGT, Int.reduceGE, Int.reduceAdd, Int.reduceSub, Int.reduceMul, Int.reduceNeg, reduceCtorEq] at h) <;> (try (exfalso; omega)) <;> conv => whnf))
  all_goals
    refine FIN.value h0 rfl (congrArg SV.bool ?_)
    rw [Bool.eq_iff_iff, barredM_true]
    unfold Our.Barred
    simp
    try omega
theorem ref05Letter_does (c : Int) : Does Tryz.prog tab 135 0 [.int .u8 c] [] [] (Val (.bool (decide (LetterI c)))) := by
  refine Does.enter tabOK (g := 135) (fn := Tryz.f135) Tryz.call135 Tryz.func135 rfl 17 rfl rfl [.tmp 2] rfl ?_
  intro w0 F η0 h0
  conv => whnf
  repeat' (first | ((with_reducible refine IF.tt ?_); conv => whnf) | ((with_reducible refine IF.ff ?_); conv => whnf) | ((with_reducible refine NEED.mk ?_ ?_); (first | with_reducible rfl | omega | (simp (disch := omega) only [lnB, wrap64, wrap32] <;> omega) | (intro h; (try simp (disch := omega) only [hsB, hsC, lnB, wrap64, wrap32, Int.reduceBEq, Int.reduceBNe, Int.reduceEq, Int.reduceNe, Int.reduceLT, Int.reduceLE, Int.reduceGT, Int.reduceGE, Int.reduceAdd, Int.reduceSub, Int.reduceMul, Int.reduceNeg, reduceCtorEq] at h); (first | omega | (simp (disch := omega) only [lnB, wrap64, wrap32] <;> omega))) | (exact needApp 256 rfl rfl (by simp) (by simp) (by omega)) | (simp <;> omega)); conv => whnf) | ((with_reducible apply GET.at); (rfl); conv => whnf) | ((with_reducible apply GETG.at); (rfl); conv => whnf) | ((with_reducible refine IF.mk (fun h => ?_) (fun h => ?_)) <;> (try simp (disch := omega) only [hsB, hsC, lnB, wrap64, wrap32, Int.reduceBEq, Int.reduceBNe, Int.reduceEq, Int.reduceNe, Int.reduceLT, Int.reduceLE, Int.reduceGT, Int.reduceGE, Int.reduceAdd, Int.reduceSub, Int.reduceMul, Int.reduceNeg, reduceCtorEq] at h) <;> (try (exfalso; omega)) <;> conv => whnf))
  refine FIN.value h0 rfl (congrArg SV.bool ?_)
  rw [Bool.eq_iff_iff]
  simp only [Bool.cond_eq_ite, decide_eq_true_eq, Bool.if_false_right, Bool.if_true_left, Bool.and_eq_true, Bool.or_eq_true]
  rfl
theorem ref05Digit_does (c : Int) : Does Tryz.prog tab 136 0 [.int .u8 c] [] [] (Val (.bool (decide (48 ≤ c ∧ c ≤ 57)))) := by
  refine Does.enter tabOK (g := 136) (fn := Tryz.f136) Tryz.call136 Tryz.func136 rfl 9 rfl rfl [.tmp 2] rfl ?_
  intro w0 F η0 h0
  conv => whnf
  repeat' (first | ((with_reducible refine IF.tt ?_); conv => whnf) | ((with_reducible refine IF.ff ?_); conv => whnf) | ((with_reducible refine NEED.mk ?_ ?_); (first | with_reducible rfl | omega | (simp (disch := omega) only [lnB, wrap64, wrap32] <;> omega) | (intro h; (try simp (disch := omega) only [hsB, hsC, lnB, wrap64, wrap32, Int.reduceBEq, Int.reduceBNe, Int.reduceEq, Int.reduceNe, Int.reduceLT, Int.reduceLE, Int.reduceGT, Int.reduceGE, Int.reduceAdd, Int.reduceSub, Int.reduceMul, Int.reduceNeg, reduceCtorEq] at h); (first | omega | (simp (disch := omega) only [lnB, wrap64, wrap32] <;> omega))) | (exact needApp 256 rfl rfl (by simp) (by simp) (by omega)) | (simp <;> omega)); conv => whnf) | ((with_reducible apply GET.at); (rfl); conv => whnf) | ((with_reducible apply GETG.at); (rfl); conv => whnf) | ((with_reducible refine IF.mk (fun h => ?_) (fun h => ?_)) <;> (try simp (disch := omega) only [hsB, hsC, lnB, wrap64, wrap32, Int.reduceBEq, Int.reduceBNe, Int.reduceEq, Int.reduceNe, Int.reduceLT, Int.reduceLE, Int.reduceGT, Int.reduceGE, Int.reduceAdd, Int.reduceSub, Int.reduceMul, Int.reduceNeg, reduceCtorEq] at h) <;> (try (exfalso; omega)) <;> conv => whnf))
  refine FIN.value h0 rfl (congrArg SV.bool ?_)
  rw [Bool.eq_iff_iff]
  simp only [Bool.cond_eq_ite, decide_eq_true_eq, Bool.if_false_right, Bool.if_true_left, Bool.and_eq_true, Bool.or_eq_true]
theorem ref05Reference_does (s : List UInt8) (hs : Sm s) : Does Tryz.prog tab 100 0 [.str s] [] [] (Val (.int .i64 (refM s))) := by
  refine Does.enter tabOK (g := 100) (fn := Tryz.f100) Tryz.call100 Tryz.func100 rfl 20 rfl rfl [.tmp 2] rfl ?_
  intro w0 F η0 h0
  conv => whnf
  repeat' (first | ((with_reducible refine IF.tt ?_); conv => whnf) | ((with_reducible refine IF.ff ?_); conv => whnf) | (refine CALL.value (ref04Check_does s hs) rfl rfl ?_; conv => whnf) | ((with_reducible refine NEED.mk ?_ ?_); (first | with_reducible rfl | omega | (simp (disch := omega) only [lnB, wrap64, wrap32] <;> omega) | (intro h; (try simp (disch := omega) only [hsB, hsC, lnB, wrap64, wrap32, Int.reduceBEq, Int.reduceBNe, Int.reduceEq, Int.reduceNe, Int.reduceLT, Int.reduceLE, Int.reduceGT, Int.reduceGE, Int.reduceAdd, Int.reduceSub, Int.reduceMul, Int.reduceNeg, reduceCtorEq] at h); (first | omega | (simp (disch := omega) only [lnB, wrap64, wrap32] <;> omega))) | (exact needApp 256 rfl rfl (by simp) (by simp) (by omega)) | (simp <;> omega)); conv => whnf) | ((with_reducible apply GET.at); (rfl); conv => whnf) | ((with_reducible apply GETG.at); (rfl); conv => whnf) | ((with_reducible refine IF.mk (fun h => ?_) (fun h => ?_)) <;> (try simp (disch := omega) only [hsB, hsC, lnB, wrap64, wrap32, Int.reduceBEq, Int.reduceBNe, Int.reduceEq, Int.reduceNe, Int.reduceLT, Int.reduceLE, Int.reduceGT, Int.reduceGE, Int.reduceAdd, Int.reduceSub, Int.reduceMul, Int.reduceNeg, reduceCtorEq] at h) <;> (try (exfalso; omega)) <;> conv => whnf))
  · refine FIN.value h0 rfl ?_
    unfold refM; rw [if_pos (by omega)]
  · refine FIN.value h0 rfl ?_
    unfold refM; rw [if_neg (by omega), if_pos (by omega)]
  refine LOOP.go tabOK [0] (X := Nat) (fun i => i ≤ s.length ∧ anyB barredM s i = anyB barredM s 0) (fun i => [(3, .int .i64 (i : Int))]) (fun i => []) 0 (fun i => s.length - i) 0 ⟨by omega, rfl⟩ ?_
  conv => whnf
  refine ⟨by (refine GOES.cutting h0 rfl rfl rfl (by first | rfl | simp [belowO, belowH, plainLL_below, plainLL_map, plainL, plain]) ?_ ?_ <;> (repeat' (first | (with_reducible rfl) | (exact congrArg (fun n => SV.sl _ _ _ n _) (by simp)) | (exact congrArg (Hp.rows _) (by simp)) | (exact congrArg (SV.int _) (by first | omega | (simp (disch := omega) only [lnB, wrap64, wrap32] <;> omega) | (simp; done) | (simp <;> omega))) | ((conv => whnf); refine ⟨?_, ?_⟩) | exact trivial | (simp; done) | rfl))), ?_⟩
  rintro i ⟨hi, hc⟩
  conv => whnf
  repeat' (first | ((with_reducible refine IF.tt ?_); conv => whnf) | ((with_reducible refine IF.ff ?_); conv => whnf) | (refine CALL.value (ref05Barred_does _) rfl rfl ?_; conv => whnf) | ((with_reducible refine NEED.mk ?_ ?_); (first | with_reducible rfl | omega | (simp (disch := omega) only [lnB, wrap64, wrap32] <;> omega) | (intro h; (try simp (disch := omega) only [hsB, hsC, lnB, wrap64, wrap32, Int.reduceBEq, Int.reduceBNe, Int.reduceEq, Int.reduceNe, Int.reduceLT, Int.reduceLE, Int.reduceGT, Int.reduceGE, Int.reduceAdd, Int.reduceSub, Int.reduceMul, Int.reduceNeg, reduceCtorEq] at h); (first | omega | (simp (disch := omega) only [lnB, wrap64, wrap32] <;> omega))) | (exact needApp 256 rfl rfl (by simp) (by simp) (by omega)) | (simp <;> omega)); conv => whnf) | ((with_reducible apply GET.at); (rfl); conv => whnf) | ((with_reducible apply GETG.at); (rfl); conv => whnf) | ((with_reducible refine IF.mk (fun h => ?_) (fun h => ?_)) <;> (try simp (disch := omega) only [hsB, hsC, lnB, wrap64, wrap32, Int.reduceBEq, Int.reduceBNe, Int.reduceEq, Int.reduceNe, Int.reduceLT, Int.reduceLE, Int.reduceGT, Int.reduceGE, Int.reduceAdd, Int.reduceSub, Int.reduceMul, Int.reduceNeg, reduceCtorEq] at h) <;> (try (exfalso; omega)) <;> conv => whnf))
  · refine FIN.value h0 rfl ?_
    unfold refM; rw [if_neg (by omega), if_neg (by omega), ← hc, anyB_at (by omega), h]; rfl
  · refine ⟨i + 1, ⟨by omega, ?_⟩, by omega, ?_⟩
    · rw [← hc, anyB_at (i := i) (by omega), h, Bool.false_or]
    · conv => whnf
      (refine GOES.cutting h0 rfl rfl rfl (by first | rfl | simp [belowO, belowH, plainLL_below, plainLL_map, plainL, plain]) ?_ ?_ <;> (repeat' (first | (with_reducible rfl) | (exact congrArg (fun n => SV.sl _ _ _ n _) (by simp)) | (exact congrArg (Hp.rows _) (by simp)) | (exact congrArg (SV.int _) (by first | omega | (simp (disch := omega) only [lnB, wrap64, wrap32] <;> omega) | (simp; done) | (simp <;> omega))) | ((conv => whnf); refine ⟨?_, ?_⟩) | exact trivial | (simp; done) | rfl)))
  · refine FIN.value h0 rfl ?_
    unfold refM; rw [if_neg (by omega), if_neg (by omega), ← hc, anyB_end (by omega)]; rfl
theorem ref05Scheme_does (s : List UInt8) (hs : Sm s) : Does Tryz.prog tab 101 0 [.str s] [] [] (Val (.int .i64 (schM s 0))) := by
  refine Does.enter tabOK (g := 101) (fn := Tryz.f101) Tryz.call101 Tryz.func101 rfl 41 rfl rfl [.tmp 2] rfl ?_
  intro w0 F η0 h0
  conv => whnf
  refine LOOP.go tabOK [0] (X := Nat) (fun i => i ≤ s.length ∧ schM s i = schM s 0) (fun i => [(3, .int .i64 (i : Int))]) (fun i => []) 0 (fun i => s.length - i) 0 ⟨by omega, rfl⟩ ?_
  conv => whnf
  refine ⟨by (refine GOES.cutting h0 rfl rfl rfl (by first | rfl | simp [belowO, belowH, plainLL_below, plainLL_map, plainL, plain]) ?_ ?_ <;> (repeat' (first | (with_reducible rfl) | (exact congrArg (fun n => SV.sl _ _ _ n _) (by simp)) | (exact congrArg (Hp.rows _) (by simp)) | (exact congrArg (SV.int _) (by first | omega | (simp (disch := omega) only [lnB, wrap64, wrap32] <;> omega) | (simp; done) | (simp <;> omega))) | ((conv => whnf); refine ⟨?_, ?_⟩) | exact trivial | (simp; done) | rfl))), ?_⟩
  rintro i ⟨hi, hc⟩
  conv => whnf
  repeat' (first | ((with_reducible refine IF.tt ?_); conv => whnf) | ((with_reducible refine IF.ff ?_); conv => whnf) | (refine CALL.value (ref05Letter_does _) rfl rfl ?_; conv => whnf) | (refine CALL.value (ref05Digit_does _) rfl rfl ?_; conv => whnf) | ((with_reducible refine NEED.mk ?_ ?_); (first | with_reducible rfl | omega | (simp (disch := omega) only [lnB, wrap64, wrap32] <;> omega) | (intro h; (try simp (disch := omega) only [hsB, hsC, lnB, wrap64, wrap32, Int.reduceBEq, Int.reduceBNe, Int.reduceEq, Int.reduceNe, Int.reduceLT, Int.reduceLE, Int.reduceGT, Int.reduceGE, Int.reduceAdd, Int.reduceSub, Int.reduceMul, Int.reduceNeg, reduceCtorEq] at h); (first | omega | (simp (disch := omega) only [lnB, wrap64, wrap32] <;> omega))) | (exact needApp 256 rfl rfl (by simp) (by simp) (by omega)) | (simp <;> omega)); conv => whnf) | ((with_reducible apply GET.at); (rfl); conv => whnf) | ((with_reducible apply GETG.at); (rfl); conv => whnf) | ((with_reducible refine IF.mk (fun h => ?_) (fun h => ?_)) <;> (try simp (disch := omega) only [hsB, hsC, lnB, wrap64, wrap32, Int.reduceBEq, Int.reduceBNe, Int.reduceEq, Int.reduceNe, Int.reduceLT, Int.reduceLE, Int.reduceGT, Int.reduceGE, Int.reduceAdd, Int.reduceSub, Int.reduceMul, Int.reduceNeg, reduceCtorEq] at h) <;> (try (exfalso; omega)) <;> conv => whnf))
  all_goals first
    | (refine FIN.value h0 rfl ?_; rw [← hc]; first | rw [schM_colon (by omega) (by assumption)] | (rw [schM_stop (by omega) (by assumption) (by unfold SchI; rintro (h | h) <;> first | contradiction | omega)]) | rw [schM_end (by omega)])
    | (refine ⟨i + 1, ⟨by omega, ?_⟩, by omega, ?_⟩
       · rw [← hc, ← schM_step (by omega) (by assumption) (by first | (left; assumption) | (right; unfold SchI; omega))]
       · conv => whnf
         (refine GOES.cutting h0 rfl rfl rfl (by first | rfl | simp [belowO, belowH, plainLL_below, plainLL_map, plainL, plain]) ?_ ?_ <;> (repeat' (first | (with_reducible rfl) | (exact congrArg (fun n => SV.sl _ _ _ n _) (by simp)) | (exact congrArg (Hp.rows _) (by simp)) | (exact congrArg (SV.int _) (by first | omega | (simp (disch := omega) only [lnB, wrap64, wrap32] <;> omega) | (simp; done) | (simp <;> omega))) | ((conv => whnf); refine ⟨?_, ?_⟩) | exact trivial | (simp; done) | rfl))))
end Go.Proofs.YtpffclpheldabaaGreatDoor
/- iri: references and schemes, walked. Conditions: none. -/
set_option linter.unusedVariables false
set_option linter.unusedSimpArgs false
set_option maxRecDepth 20000
namespace Go.Proofs.YtpffclpheldabaaGreatDoor
open Go.Sx Go.Our
theorem ref05Check_does (s : List UInt8) (hs : Sm s) : Does Tryz.prog tab 64 0 [.str s] [] [] (Val (.int .i64 (iriM s))) := by
  refine Does.enter tabOK (g := 64) (fn := Tryz.f64) Tryz.call64 Tryz.func64 rfl 14 rfl rfl [.tmp 2] rfl ?_
  intro w0 F η0 h0
  conv => whnf
  repeat' (first | ((with_reducible refine IF.tt ?_); conv => whnf) | ((with_reducible refine IF.ff ?_); conv => whnf) | (refine CALL.value (ref05Reference_does s hs) rfl rfl ?_; conv => whnf) | (refine CALL.value (ref05Scheme_does s hs) rfl rfl ?_; conv => whnf) | ((with_reducible refine NEED.mk ?_ ?_); (first | with_reducible rfl | omega | (simp (disch := omega) only [lnB, wrap64, wrap32] <;> omega) | (intro h; (try simp (disch := omega) only [hsB, hsC, lnB, wrap64, wrap32, Int.reduceBEq, Int.reduceBNe, Int.reduceEq, Int.reduceNe, Int.reduceLT, Int.reduceLE, Int.reduceGT, Int.reduceGE, Int.reduceAdd, Int.reduceSub, Int.reduceMul, Int.reduceNeg, reduceCtorEq] at h); (first | omega | (simp (disch := omega) only [lnB, wrap64, wrap32] <;> omega))) | (exact needApp 256 rfl rfl (by simp) (by simp) (by omega)) | (simp <;> omega)); conv => whnf) | ((with_reducible apply GET.at); (rfl); conv => whnf) | ((with_reducible apply GETG.at); (rfl); conv => whnf) | ((with_reducible refine IF.mk (fun h => ?_) (fun h => ?_)) <;> (try simp (disch := omega) only [hsB, hsC, lnB, wrap64, wrap32, Int.reduceBEq, Int.reduceBNe, Int.reduceEq, Int.reduceNe, Int.reduceLT, Int.reduceLE, Int.reduceGT, Int.reduceGE, Int.reduceAdd, Int.reduceSub, Int.reduceMul, Int.reduceNeg, reduceCtorEq] at h) <;> (try (exfalso; omega)) <;> conv => whnf))
  all_goals
    refine FIN.value h0 rfl (congrArg (SV.int _) ?_)
    unfold iriM
    simp_all
/-- Whether a scalar is among those that are barred but for blanks. -/
def barIdx (r : Int) : Int := if 0 ≤ r ∧ r < 128 then Lib.indexByte bars (IntKind.u8.wrap r).toNat.toUInt8 else -1
theorem indexRune_does (r : Int) (hr : Scalar r) : Does Tryz.prog tab 188 0 [.str bars, .int .i32 r] [] [] (Val (.int .i64 (barIdx r))) := by
  have hlen : bars.length = 9 := rfl
  refine Does.enter tabOK (g := 188) (fn := Tryz.f188) Tryz.call188 Tryz.func188 rfl 187 rfl rfl [.tmp 4] rfl ?_
  intro w0 F η0 h0
  conv => whnf
  repeat' (first | ((with_reducible refine IF.tt ?_); conv => whnf) | ((with_reducible refine IF.ff ?_); conv => whnf) | (refine CALL.value (indexByte_does _ _) rfl rfl ?_; conv => whnf) | (refine CALL.value (validRune_does _) rfl rfl ?_; conv => whnf) | ((with_reducible refine NEED.mk ?_ ?_); (first | with_reducible rfl | omega | (simp (disch := omega) only [lnB, wrap64, wrap32] <;> omega) | (intro h; (try simp (disch := omega) only [hsB, hsC, lnB, wrap64, wrap32, Int.reduceBEq, Int.reduceBNe, Int.reduceEq, Int.reduceNe, Int.reduceLT, Int.reduceLE, Int.reduceGT, Int.reduceGE, Int.reduceAdd, Int.reduceSub, Int.reduceMul, Int.reduceNeg, reduceCtorEq] at h); (first | omega | (simp (disch := omega) only [lnB, wrap64, wrap32] <;> omega))) | (exact needApp 256 rfl rfl (by simp) (by simp) (by omega)) | (simp <;> omega)); conv => whnf) | ((with_reducible apply GET.at); (rfl); conv => whnf) | ((with_reducible apply GETG.at); (rfl); conv => whnf) | ((with_reducible refine IF.mk (fun h => ?_) (fun h => ?_)) <;> (try simp (disch := omega) only [hsB, hsC, lnB, wrap64, wrap32, Int.reduceBEq, Int.reduceBNe, Int.reduceEq, Int.reduceNe, Int.reduceLT, Int.reduceLE, Int.reduceGT, Int.reduceGE, Int.reduceAdd, Int.reduceSub, Int.reduceMul, Int.reduceNeg, reduceCtorEq] at h) <;> (try (exfalso; omega)) <;> conv => whnf))
  · refine FIN.value h0 rfl ?_
    unfold barIdx; rw [if_pos h]
  · subst h
    refine LOOP.go tabOK [175] (X := Nat) (fun i => i ≤ 9) (fun i => []) (fun i => [(0, .siter bars i)]) 1 (fun i => 9 - i) 0 (by omega) ?_
    conv => whnf
    refine ⟨by (refine GOES.cutting h0 rfl rfl rfl (by first | rfl | simp [belowO, belowH, plainLL_below, plainLL_map, plainL, plain]) ?_ ?_ <;> (repeat' (first | (with_reducible rfl) | (exact congrArg (fun n => SV.sl _ _ _ n _) (by simp)) | (exact congrArg (Hp.rows _) (by simp)) | (exact congrArg (SV.int _) (by first | omega | (simp (disch := omega) only [lnB, wrap64, wrap32] <;> omega) | (simp; done) | (simp <;> omega))) | ((conv => whnf); refine ⟨?_, ?_⟩) | exact trivial | (simp; done) | rfl))), ?_⟩
    intro i hi
    conv => whnf
    refine ⟨fun h => ?_, fun h => ?_⟩
    · have h : i < bars.length := by simpa using h
      have hd := deco_ascii (bars_low i)
      have hb := byteAt_lt bars i
      conv => whnf
      refine IF.tt ?_
      conv => whnf
      refine IF.no (by rw [show Utf8.decode ⟨bars.toArray⟩ i = _ from hd]; have := bars_low i; simp; omega) ?_
      conv => whnf
      refine ⟨i + (deco bars i).2, by rw [hd]; show i + 1 ≤ 9; omega, by rw [hd]; show 9 - (i + 1) < 9 - i; omega, ?_⟩
      conv => whnf
      (refine GOES.cutting h0 rfl rfl rfl (by first | rfl | simp [belowO, belowH, plainLL_below, plainLL_map, plainL, plain]) ?_ ?_ <;> (repeat' (first | (with_reducible rfl) | (exact congrArg (fun n => SV.sl _ _ _ n _) (by simp)) | (exact congrArg (Hp.rows _) (by simp)) | (exact congrArg (SV.int _) (by first | omega | (simp (disch := omega) only [lnB, wrap64, wrap32] <;> omega) | (simp; done) | (simp <;> omega))) | ((conv => whnf); refine ⟨?_, ?_⟩) | exact trivial | (simp; done) | rfl)))
    · conv => whnf
      refine IF.ff ?_
      conv => whnf
      refine FIN.value h0 rfl ?_
      unfold barIdx; rw [if_neg (by omega)]
  · rw [scalarM_false] at h
    exact (h hr).elim
  · have hl := encM_len (r := r) (by unfold Scalar at hr; omega)
    have hh := encM_high hr (by unfold Scalar at hr; omega)
    have he := encode_eq hr
    rw [he]
    have hm := byteAt_mem (s := encM r) (i := ((encM r).length : Int) - 1) (by omega)
    have hm2 : 128 ≤ byteAt (encM r) (((encM r).length : Int) - 1) := by
      obtain ⟨c, hc, e⟩ := hm
      rw [e]; exact hh c hc
    have hm3 := byteAt_lt (encM r) (((encM r).length : Int) - 1)
    have hm4 := bars_low (((encM r).length : Int) - 1)
    refine LOOP.once tabOK ?_
    conv => whnf
    repeat' (first | ((with_reducible refine IF.tt ?_); conv => whnf) | ((with_reducible refine IF.ff ?_); conv => whnf) | (refine DRAWN.of (id := 6) tabOK mixed (planOf [(0, 1), (1, 1), (2, 1), (3, 1), (4, 1), (5, 1), (6, 1)]) (by kernel_rfl) ?_; conv => whnf) | (refine DRAWN.of (id := 7) tabOK mixed (planOf [(0, 1), (1, 1), (2, 1), (3, 1), (4, 1), (5, 1), (6, 1), (7, 3), (8, 1)]) (by kernel_rfl) ?_; conv => whnf) | (refine DRAWN.of (id := 14) tabOK mixed (planOf [(0, 1), (1, 1), (2, 1), (3, 1), (4, 1), (5, 1), (6, 1), (7, 1), (8, 1), (9, 1), (10, 1)]) (by kernel_rfl) ?_; conv => whnf) | (refine DRAWN.of (id := 31) tabOK mixed (planOf [(0, 1), (1, 1), (2, 1), (3, 1), (4, 1), (5, 1), (6, 1), (7, 1), (8, 1), (9, 1), (10, 1)]) (by kernel_rfl) ?_; conv => whnf) | ((with_reducible refine ADD.mk (fun _ _ => ?_)); conv => whnf) | ((with_reducible refine NEED.mk (Det.of rfl) ?_); conv => whnf) | ((with_reducible refine FORK.mk ?_ ?_) <;> conv => whnf) | (refine CALL.value (indexByte_does _ _) rfl rfl ?_; conv => whnf) | ((with_reducible refine NEED.mk ?_ ?_); (first | with_reducible rfl | omega | (simp (disch := omega) only [lnB, wrap64, wrap32] <;> omega) | (intro h; (try simp (disch := omega) only [hsB, hsC, lnB, wrap64, wrap32, Int.reduceBEq, Int.reduceBNe, Int.reduceEq, Int.reduceNe, Int.reduceLT, Int.reduceLE, Int.reduceGT, Int.reduceGE, Int.reduceAdd, Int.reduceSub, Int.reduceMul, Int.reduceNeg, reduceCtorEq] at h); (first | omega | (simp (disch := omega) only [lnB, wrap64, wrap32] <;> omega))) | (exact needApp 256 rfl rfl (by simp) (by simp) (by omega)) | (simp <;> omega)); conv => whnf) | ((with_reducible apply GET.at); (rfl); conv => whnf) | ((with_reducible apply GETG.at); (rfl); conv => whnf) | ((with_reducible refine IF.mk (fun h => ?_) (fun h => ?_)) <;> (try simp (disch := omega) only [hsB, hsC, lnB, wrap64, wrap32, Int.reduceBEq, Int.reduceBNe, Int.reduceEq, Int.reduceNe, Int.reduceLT, Int.reduceLE, Int.reduceGT, Int.reduceGE, Int.reduceAdd, Int.reduceSub, Int.reduceMul, Int.reduceNeg, reduceCtorEq] at h) <;> (try (exfalso; omega)) <;> conv => whnf))
    · refine FIN.value h0 rfl ?_
      unfold barIdx; rw [if_neg (by unfold Scalar at hr; omega)]
    · have := idx_high (l := List.drop (((encM r).length : Int) - 1 + 1).toNat bars) (c := byteAt (encM r) (((encM r).length : Int) - 1)) (by omega) (fun b hb => bars_mem b (List.mem_of_mem_drop hb))
      rw [this] at h
      omega
theorem containsRune_does (r : Int) (hr : Scalar r) : Does Tryz.prog tab 166 0 [.str bars, .int .i32 r] [] [] (Val (.bool (decide (0 ≤ barIdx r)))) := by
  refine Does.enter tabOK (g := 166) (fn := Tryz.f166) Tryz.call166 Tryz.func166 rfl 9 rfl rfl [.tmp 4] rfl ?_
  intro w0 F η0 h0
  conv => whnf
  repeat' (first | ((with_reducible refine IF.tt ?_); conv => whnf) | ((with_reducible refine IF.ff ?_); conv => whnf) | (refine CALL.value (indexRune_does r hr) rfl rfl ?_; conv => whnf) | ((with_reducible refine NEED.mk ?_ ?_); (first | with_reducible rfl | omega | (simp (disch := omega) only [lnB, wrap64, wrap32] <;> omega) | (intro h; (try simp (disch := omega) only [hsB, hsC, lnB, wrap64, wrap32, Int.reduceBEq, Int.reduceBNe, Int.reduceEq, Int.reduceNe, Int.reduceLT, Int.reduceLE, Int.reduceGT, Int.reduceGE, Int.reduceAdd, Int.reduceSub, Int.reduceMul, Int.reduceNeg, reduceCtorEq] at h); (first | omega | (simp (disch := omega) only [lnB, wrap64, wrap32] <;> omega))) | (exact needApp 256 rfl rfl (by simp) (by simp) (by omega)) | (simp <;> omega)); conv => whnf) | ((with_reducible apply GET.at); (rfl); conv => whnf) | ((with_reducible apply GETG.at); (rfl); conv => whnf) | ((with_reducible refine IF.mk (fun h => ?_) (fun h => ?_)) <;> (try simp (disch := omega) only [hsB, hsC, lnB, wrap64, wrap32, Int.reduceBEq, Int.reduceBNe, Int.reduceEq, Int.reduceNe, Int.reduceLT, Int.reduceLE, Int.reduceGT, Int.reduceGE, Int.reduceAdd, Int.reduceSub, Int.reduceMul, Int.reduceNeg, reduceCtorEq] at h) <;> (try (exfalso; omega)) <;> conv => whnf))
  exact FIN.value h0 rfl rfl
theorem bar_iff {r : Int} (hr : Scalar r) : (r ≤ 32 ∨ 0 ≤ barIdx r) ↔ Our.Barred r := by
  unfold Scalar at hr
  unfold barIdx
  by_cases h : 0 ≤ r ∧ r < 128
  · rw [if_pos h]
    have : ∀ n : Nat, n < 128 → (((n : Int) ≤ 32 ∨ 0 ≤ Lib.indexByte bars (IntKind.u8.wrap (n : Int)).toNat.toUInt8) ↔ Our.Barred (n : Int)) := by decide +kernel
    have := this r.toNat (by omega)
    rwa [show ((r.toNat : Nat) : Int) = r by omega] at this
  · rw [if_neg h]
    unfold Our.Barred
    omega
theorem barred_does (r : Int) (hr : Scalar r) : Does Tryz.prog tab 122 0 [.int .i32 r] [] [] (Val (.bool (barredM r))) := by
  refine Does.enter tabOK (g := 122) (fn := Tryz.f122) Tryz.call122 Tryz.func122 rfl 9 rfl rfl [.tmp 2] rfl ?_
  intro w0 F η0 h0
  conv => whnf
  repeat' (first | ((with_reducible refine IF.tt ?_); conv => whnf) | ((with_reducible refine IF.ff ?_); conv => whnf) | (refine CALL.value (containsRune_does r hr) rfl rfl ?_; conv => whnf) | ((with_reducible refine NEED.mk ?_ ?_); (first | with_reducible rfl | omega | (simp (disch := omega) only [lnB, wrap64, wrap32] <;> omega) | (intro h; (try simp (disch := omega) only [hsB, hsC, lnB, wrap64, wrap32, Int.reduceBEq, Int.reduceBNe, Int.reduceEq, Int.reduceNe, Int.reduceLT, Int.reduceLE, Int.reduceGT, Int.reduceGE, Int.reduceAdd, Int.reduceSub, Int.reduceMul, Int.reduceNeg, reduceCtorEq] at h); (first | omega | (simp (disch := omega) only [lnB, wrap64, wrap32] <;> omega))) | (exact needApp 256 rfl rfl (by simp) (by simp) (by omega)) | (simp <;> omega)); conv => whnf) | ((with_reducible apply GET.at); (rfl); conv => whnf) | ((with_reducible apply GETG.at); (rfl); conv => whnf) | ((with_reducible refine IF.mk (fun h => ?_) (fun h => ?_)) <;> (try simp (disch := omega) only [hsB, hsC, lnB, wrap64, wrap32, Int.reduceBEq, Int.reduceBNe, Int.reduceEq, Int.reduceNe, Int.reduceLT, Int.reduceLE, Int.reduceGT, Int.reduceGE, Int.reduceAdd, Int.reduceSub, Int.reduceMul, Int.reduceNeg, reduceCtorEq] at h) <;> (try (exfalso; omega)) <;> conv => whnf))
  all_goals
    refine FIN.value h0 rfl (congrArg SV.bool ?_)
    rw [Bool.eq_iff_iff, barredM_true, ← bar_iff hr]
    simp
    try omega
theorem reference_does (s : List UInt8) (hs : Sm s) : Does Tryz.prog tab 91 0 [.str s] [] [] (Val (.int .i64 (refM s))) := by
  have hp : ∀ c : Int, 128 ≤ c → barredM c = false := fun c hc => by rw [barredM_false]; unfold Our.Barred; omega
  refine Does.enter tabOK (g := 91) (fn := Tryz.f91) Tryz.call91 Tryz.func91 rfl 15 rfl rfl [.tmp 2] rfl ?_
  intro w0 F η0 h0
  conv => whnf
  repeat' (first | ((with_reducible refine IF.tt ?_); conv => whnf) | ((with_reducible refine IF.ff ?_); conv => whnf) | (refine CALL.value (check_does s hs) rfl rfl ?_; conv => whnf) | (refine CALL.value (indexFunc_does _ barredM (fun r hr => barred_does r hr) s hs) rfl rfl ?_; conv => whnf) | ((with_reducible refine NEED.mk ?_ ?_); (first | with_reducible rfl | omega | (simp (disch := omega) only [lnB, wrap64, wrap32] <;> omega) | (intro h; (try simp (disch := omega) only [hsB, hsC, lnB, wrap64, wrap32, Int.reduceBEq, Int.reduceBNe, Int.reduceEq, Int.reduceNe, Int.reduceLT, Int.reduceLE, Int.reduceGT, Int.reduceGE, Int.reduceAdd, Int.reduceSub, Int.reduceMul, Int.reduceNeg, reduceCtorEq] at h); (first | omega | (simp (disch := omega) only [lnB, wrap64, wrap32] <;> omega))) | (exact needApp 256 rfl rfl (by simp) (by simp) (by omega)) | (simp <;> omega)); conv => whnf) | ((with_reducible apply GET.at); (rfl); conv => whnf) | ((with_reducible apply GETG.at); (rfl); conv => whnf) | ((with_reducible refine IF.mk (fun h => ?_) (fun h => ?_)) <;> (try simp (disch := omega) only [hsB, hsC, lnB, wrap64, wrap32, Int.reduceBEq, Int.reduceBNe, Int.reduceEq, Int.reduceNe, Int.reduceLT, Int.reduceLE, Int.reduceGT, Int.reduceGE, Int.reduceAdd, Int.reduceSub, Int.reduceMul, Int.reduceNeg, reduceCtorEq] at h) <;> (try (exfalso; omega)) <;> conv => whnf))
  all_goals
    refine FIN.value h0 rfl (congrArg (SV.int _) ?_)
    unfold refM
  · rw [if_pos (by omega)]
  · rw [if_neg (by omega), if_pos (by omega)]
  all_goals
    rename_i h1 h2
    have hc : chk s 0 = -1 := by
      have := chk_ge s 0
      omega
    have := barred_runes barredM hp s 0 hc
    rw [if_neg (by omega), if_neg (by omega)]
  · rw [if_pos (this.1 h)]
  · rw [if_neg (fun h' => by have := this.2 h'; omega)]
theorem scheme_does (s : List UInt8) (hs : Sm s) : Does Tryz.prog tab 92 0 [.str s] [] [] (Val (.str (s.take (schM s 0).toNat))) := by
  refine Does.enter tabOK (g := 92) (fn := Tryz.f92) Tryz.call92 Tryz.func92 rfl 61 rfl rfl [.tmp 2] rfl ?_
  intro w0 F η0 h0
  conv => whnf
  refine LOOP.go tabOK [0, 7] (X := Nat) (fun i => i ≤ s.length ∧ schM s i = schM s 0) (fun i => []) (fun i => [(0, .siter s i)]) 1 (fun i => s.length - i) 0 ⟨by omega, rfl⟩ ?_
  conv => whnf
  refine ⟨by (refine GOES.cutting h0 rfl rfl rfl (by first | rfl | simp [belowO, belowH, plainLL_below, plainLL_map, plainL, plain]) ?_ ?_ <;> (repeat' (first | (with_reducible rfl) | (exact congrArg (fun n => SV.sl _ _ _ n _) (by simp)) | (exact congrArg (Hp.rows _) (by simp)) | (exact congrArg (SV.int _) (by first | omega | (simp (disch := omega) only [lnB, wrap64, wrap32] <;> omega) | (simp; done) | (simp <;> omega))) | ((conv => whnf); refine ⟨?_, ?_⟩) | exact trivial | (simp; done) | rfl))), ?_⟩
  rintro i ⟨hi, hc⟩
  conv => whnf
  refine ⟨fun h => ?_, fun h => ?_⟩
  · have h : i < s.length := by simpa using h
    have hf := deco_fits s i h
    have hp := deco_pos s i
    have hb := byteAt_lt s i
    have hd : ((deco s i).1 : Int) = byteAt s i ∧ (deco s i).2 = 1 ∨ 128 ≤ byteAt s i ∧ 128 ≤ (deco s i).1 := by
      by_cases ha : byteAt s i < 128
      · left; rw [deco_ascii ha]; simp; omega
      · right; exact ⟨by omega, deco_high (by omega)⟩
    unfold deco at *
    generalize Utf8.decode ⟨s.toArray⟩ i = d at *
    obtain ⟨r, n⟩ := d
    simp only at hf hp hd
    conv => whnf
    repeat' (first | ((with_reducible refine IF.tt ?_); conv => whnf) | ((with_reducible refine IF.ff ?_); conv => whnf) | ((with_reducible refine NEED.mk ?_ ?_); (first | with_reducible rfl | omega | (simp (disch := omega) only [lnB, wrap64, wrap32] <;> omega) | (intro h; (try simp (disch := omega) only [hsB, hsC, lnB, wrap64, wrap32, Int.reduceBEq, Int.reduceBNe, Int.reduceEq, Int.reduceNe, Int.reduceLT, Int.reduceLE, Int.reduceGT, Int.reduceGE, Int.reduceAdd, Int.reduceSub, Int.reduceMul, Int.reduceNeg, reduceCtorEq] at h); (first | omega | (simp (disch := omega) only [lnB, wrap64, wrap32] <;> omega))) | (exact needApp 256 rfl rfl (by simp) (by simp) (by omega)) | (simp <;> omega)); conv => whnf) | ((with_reducible apply GET.at); (rfl); conv => whnf) | ((with_reducible apply GETG.at); (rfl); conv => whnf) | ((with_reducible refine IF.mk (fun h => ?_) (fun h => ?_)) <;> (try simp (disch := omega) only [hsB, hsC, lnB, wrap64, wrap32, Int.reduceBEq, Int.reduceBNe, Int.reduceEq, Int.reduceNe, Int.reduceLT, Int.reduceLE, Int.reduceGT, Int.reduceGE, Int.reduceAdd, Int.reduceSub, Int.reduceMul, Int.reduceNeg, reduceCtorEq] at h) <;> (try (exfalso; omega)) <;> conv => whnf))
    all_goals first
      | (have hn : n = 1 := by omega
         subst hn
         refine ⟨i + 1, ⟨hf, ?_⟩, by omega, ?_⟩
         · rw [← hc, ← schM_step (by omega) (by omega) (by unfold LetterI SchI; omega)]
         · conv => whnf
           (refine GOES.cutting h0 rfl rfl rfl (by first | rfl | simp [belowO, belowH, plainLL_below, plainLL_map, plainL, plain]) ?_ ?_ <;> (repeat' (first | (with_reducible rfl) | (exact congrArg (fun n => SV.sl _ _ _ n _) (by simp)) | (exact congrArg (Hp.rows _) (by simp)) | (exact congrArg (SV.int _) (by first | omega | (simp (disch := omega) only [lnB, wrap64, wrap32] <;> omega) | (simp; done) | (simp <;> omega))) | ((conv => whnf); refine ⟨?_, ?_⟩) | exact trivial | (simp; done) | rfl))))
      | (refine FIN.value h0 rfl (congrArg SV.str ?_); rw [← hc, schM_colon (by omega) (by omega)])
      | (refine FIN.value h0 rfl (congrArg SV.str ?_); rw [← hc]
         by_cases h58 : byteAt s i = 58
         · rw [schM_colon (by omega) h58]; rw [show (i : Int) = 0 by omega]; rfl
         · rw [schM_stop (by omega) h58 (by unfold LetterI SchI; omega)]; rfl)
  · have h : s.length ≤ i := by simpa using h
    conv => whnf
    repeat' (first | ((with_reducible refine IF.tt ?_); conv => whnf) | ((with_reducible refine IF.ff ?_); conv => whnf) | ((with_reducible refine NEED.mk ?_ ?_); (first | with_reducible rfl | omega | (simp (disch := omega) only [lnB, wrap64, wrap32] <;> omega) | (intro h; (try simp (disch := omega) only [hsB, hsC, lnB, wrap64, wrap32, Int.reduceBEq, Int.reduceBNe, Int.reduceEq, Int.reduceNe, Int.reduceLT, Int.reduceLE, Int.reduceGT, Int.reduceGE, Int.reduceAdd, Int.reduceSub, Int.reduceMul, Int.reduceNeg, reduceCtorEq] at h); (first | omega | (simp (disch := omega) only [lnB, wrap64, wrap32] <;> omega))) | (exact needApp 256 rfl rfl (by simp) (by simp) (by omega)) | (simp <;> omega)); conv => whnf) | ((with_reducible apply GET.at); (rfl); conv => whnf) | ((with_reducible apply GETG.at); (rfl); conv => whnf) | ((with_reducible refine IF.mk (fun h => ?_) (fun h => ?_)) <;> (try simp (disch := omega) only [hsB, hsC, lnB, wrap64, wrap32, Int.reduceBEq, Int.reduceBNe, Int.reduceEq, Int.reduceNe, Int.reduceLT, Int.reduceLE, Int.reduceGT, Int.reduceGE, Int.reduceAdd, Int.reduceSub, Int.reduceMul, Int.reduceNeg, reduceCtorEq] at h) <;> (try (exfalso; omega)) <;> conv => whnf))
    refine FIN.value h0 rfl ?_
    rw [← hc, schM_end h]; rfl
theorem iriCheck_does (s : List UInt8) (hs : Sm s) : Does Tryz.prog tab 56 0 [.str s] [] [] (Val (.int .i64 (iriM s))) := by
  have hr := schM_rng s 0
  refine Does.enter tabOK (g := 56) (fn := Tryz.f56) Tryz.call56 Tryz.func56 rfl 12 rfl rfl [.tmp 2] rfl ?_
  intro w0 F η0 h0
  conv => whnf
  repeat' (first | ((with_reducible refine IF.tt ?_); conv => whnf) | ((with_reducible refine IF.ff ?_); conv => whnf) | (refine CALL.value (reference_does s hs) rfl rfl ?_; conv => whnf) | (refine CALL.value (scheme_does s hs) rfl rfl ?_; conv => whnf) | ((with_reducible refine NEED.mk ?_ ?_); (first | with_reducible rfl | omega | (simp (disch := omega) only [lnB, wrap64, wrap32] <;> omega) | (intro h; (try simp (disch := omega) only [hsB, hsC, lnB, wrap64, wrap32, Int.reduceBEq, Int.reduceBNe, Int.reduceEq, Int.reduceNe, Int.reduceLT, Int.reduceLE, Int.reduceGT, Int.reduceGE, Int.reduceAdd, Int.reduceSub, Int.reduceMul, Int.reduceNeg, reduceCtorEq] at h); (first | omega | (simp (disch := omega) only [lnB, wrap64, wrap32] <;> omega))) | (exact needApp 256 rfl rfl (by simp) (by simp) (by omega)) | (simp <;> omega)); conv => whnf) | ((with_reducible apply GET.at); (rfl); conv => whnf) | ((with_reducible apply GETG.at); (rfl); conv => whnf) | ((with_reducible refine IF.mk (fun h => ?_) (fun h => ?_)) <;> (try simp (disch := omega) only [hsB, hsC, lnB, wrap64, wrap32, Int.reduceBEq, Int.reduceBNe, Int.reduceEq, Int.reduceNe, Int.reduceLT, Int.reduceLE, Int.reduceGT, Int.reduceGE, Int.reduceAdd, Int.reduceSub, Int.reduceMul, Int.reduceNeg, reduceCtorEq] at h) <;> (try (exfalso; omega)) <;> conv => whnf))
  · refine FIN.value h0 rfl (congrArg (SV.int _) ?_)
    unfold iriM; rw [if_pos h]
  · rename_i h1
    refine FIN.value h0 rfl (congrArg (SV.int _) ?_)
    unfold iriM; rw [if_neg (by omega), if_pos]
    have hz : (s.take (schM s 0).toNat).length = 0 := by
      have : s.take (schM s 0).toNat = [] := h
      rw [this]; rfl
    rw [List.length_take] at hz
    by_cases hl : s.length = 0
    · rw [schM_end (by omega)]
    · omega
  · rename_i h1
    refine FIN.value h0 rfl (congrArg (SV.int _) ?_)
    unfold iriM; rw [if_neg (by omega), if_neg]
    intro h2
    apply h
    rw [h2]; rfl
end Go.Proofs.YtpffclpheldabaaGreatDoor
/- names: labels, walked. Conditions: none. -/
set_option linter.unusedVariables false
set_option linter.unusedSimpArgs false
set_option maxRecDepth 20000
namespace Go.Proofs.YtpffclpheldabaaGreatDoor
open Go.Sx Go.Our
theorem nLetter_does (r : Int) : Does Tryz.prog tab 192 0 [.int .i32 r] [] [] (Val (.bool (decide (LetterI r)))) := by
  refine Does.enter tabOK (g := 192) (fn := Tryz.f192) Tryz.call192 Tryz.func192 rfl 17 rfl rfl [.tmp 2] rfl ?_
  intro w0 F η0 h0
  conv => whnf
  repeat' (first | ((with_reducible refine IF.tt ?_); conv => whnf) | ((with_reducible refine IF.ff ?_); conv => whnf) | ((with_reducible refine NEED.mk ?_ ?_); (first | with_reducible rfl | omega | (simp (disch := omega) only [lnB, wrap64, wrap32] <;> omega) | (intro h; (try simp (disch := omega) only [hsB, hsC, lnB, wrap64, wrap32, Int.reduceBEq, Int.reduceBNe, Int.reduceEq, Int.reduceNe, Int.reduceLT, Int.reduceLE, Int.reduceGT, Int.reduceGE, Int.reduceAdd, Int.reduceSub, Int.reduceMul, Int.reduceNeg, reduceCtorEq] at h); (first | omega | (simp (disch := omega) only [lnB, wrap64, wrap32] <;> omega))) | (exact needApp 256 rfl rfl (by simp) (by simp) (by omega)) | (simp <;> omega)); conv => whnf) | ((with_reducible apply GET.at); (rfl); conv => whnf) | ((with_reducible apply GETG.at); (rfl); conv => whnf) | ((with_reducible refine IF.mk (fun h => ?_) (fun h => ?_)) <;> (try simp (disch := omega) only [hsB, hsC, lnB, wrap64, wrap32, Int.reduceBEq, Int.reduceBNe, Int.reduceEq, Int.reduceNe, Int.reduceLT, Int.reduceLE, Int.reduceGT, Int.reduceGE, Int.reduceAdd, Int.reduceSub, Int.reduceMul, Int.reduceNeg, reduceCtorEq] at h) <;> (try (exfalso; omega)) <;> conv => whnf))
  refine FIN.value h0 rfl (congrArg SV.bool ?_)
  rw [Bool.eq_iff_iff]
  simp only [Bool.cond_eq_ite, decide_eq_true_eq, Bool.if_false_right, Bool.if_true_left, Bool.and_eq_true, Bool.or_eq_true]
  rfl
theorem nDigit_does (r : Int) : Does Tryz.prog tab 151 0 [.int .i32 r] [] [] (Val (.bool (decide (DigitI r)))) := by
  refine Does.enter tabOK (g := 151) (fn := Tryz.f151) Tryz.call151 Tryz.func151 rfl 9 rfl rfl [.tmp 2] rfl ?_
  intro w0 F η0 h0
  conv => whnf
  repeat' (first | ((with_reducible refine IF.tt ?_); conv => whnf) | ((with_reducible refine IF.ff ?_); conv => whnf) | ((with_reducible refine NEED.mk ?_ ?_); (first | with_reducible rfl | omega | (simp (disch := omega) only [lnB, wrap64, wrap32] <;> omega) | (intro h; (try simp (disch := omega) only [hsB, hsC, lnB, wrap64, wrap32, Int.reduceBEq, Int.reduceBNe, Int.reduceEq, Int.reduceNe, Int.reduceLT, Int.reduceLE, Int.reduceGT, Int.reduceGE, Int.reduceAdd, Int.reduceSub, Int.reduceMul, Int.reduceNeg, reduceCtorEq] at h); (first | omega | (simp (disch := omega) only [lnB, wrap64, wrap32] <;> omega))) | (exact needApp 256 rfl rfl (by simp) (by simp) (by omega)) | (simp <;> omega)); conv => whnf) | ((with_reducible apply GET.at); (rfl); conv => whnf) | ((with_reducible apply GETG.at); (rfl); conv => whnf) | ((with_reducible refine IF.mk (fun h => ?_) (fun h => ?_)) <;> (try simp (disch := omega) only [hsB, hsC, lnB, wrap64, wrap32, Int.reduceBEq, Int.reduceBNe, Int.reduceEq, Int.reduceNe, Int.reduceLT, Int.reduceLE, Int.reduceGT, Int.reduceGE, Int.reduceAdd, Int.reduceSub, Int.reduceMul, Int.reduceNeg, reduceCtorEq] at h) <;> (try (exfalso; omega)) <;> conv => whnf))
  refine FIN.value h0 rfl (congrArg SV.bool ?_)
  rw [Bool.eq_iff_iff]
  simp only [Bool.cond_eq_ite, decide_eq_true_eq, Bool.if_false_right, Bool.if_true_left, Bool.and_eq_true, Bool.or_eq_true]
  rfl
theorem nBase_does (r : Int) : Does Tryz.prog tab 181 0 [.int .i32 r] [] [] (Val (.bool (decide (BaseI r)))) := by
  refine Does.enter tabOK (g := 181) (fn := Tryz.f181) Tryz.call181 Tryz.func181 rfl 25 rfl rfl [.tmp 2] rfl ?_
  intro w0 F η0 h0
  conv => whnf
  repeat' (first | ((with_reducible refine IF.tt ?_); conv => whnf) | ((with_reducible refine IF.ff ?_); conv => whnf) | (refine CALL.value (nLetter_does _) rfl rfl ?_; conv => whnf) | (refine LOOP.once tabOK ?_; conv => whnf) | ((with_reducible refine NEED.mk ?_ ?_); (first | with_reducible rfl | omega | (simp (disch := omega) only [lnB, wrap64, wrap32] <;> omega) | (intro h; (try simp (disch := omega) only [hsB, hsC, lnB, wrap64, wrap32, Int.reduceBEq, Int.reduceBNe, Int.reduceEq, Int.reduceNe, Int.reduceLT, Int.reduceLE, Int.reduceGT, Int.reduceGE, Int.reduceAdd, Int.reduceSub, Int.reduceMul, Int.reduceNeg, reduceCtorEq] at h); (first | omega | (simp (disch := omega) only [lnB, wrap64, wrap32] <;> omega))) | (exact needApp 256 rfl rfl (by simp) (by simp) (by omega)) | (simp <;> omega)); conv => whnf) | ((with_reducible apply GET.at); (rfl); conv => whnf) | ((with_reducible apply GETG.at); (rfl); conv => whnf) | ((with_reducible refine IF.mk (fun h => ?_) (fun h => ?_)) <;> (try simp (disch := omega) only [hsB, hsC, lnB, wrap64, wrap32, Int.reduceBEq, Int.reduceBNe, Int.reduceEq, Int.reduceNe, Int.reduceLT, Int.reduceLE, Int.reduceGT, Int.reduceGE, Int.reduceAdd, Int.reduceSub, Int.reduceMul, Int.reduceNeg, reduceCtorEq] at h) <;> (try (exfalso; omega)) <;> conv => whnf))
  all_goals
    refine FIN.value h0 rfl (congrArg SV.bool ?_)
    first
      | exact decide_eq_decide.2 (by unfold LetterI BaseI; omega)
      | exact (decide_eq_true (by unfold BaseI; omega)).symm
      | exact (decide_eq_false (by unfold BaseI; omega)).symm
theorem nStarter_does (r : Int) : Does Tryz.prog tab 150 0 [.int .i32 r] [] [] (Val (.bool (decide (StartI r)))) := by
  refine Does.enter tabOK (g := 150) (fn := Tryz.f150) Tryz.call150 Tryz.func150 rfl 9 rfl rfl [.tmp 2] rfl ?_
  intro w0 F η0 h0
  conv => whnf
  repeat' (first | ((with_reducible refine IF.tt ?_); conv => whnf) | ((with_reducible refine IF.ff ?_); conv => whnf) | (refine CALL.value (nBase_does _) rfl rfl ?_; conv => whnf) | ((with_reducible refine NEED.mk ?_ ?_); (first | with_reducible rfl | omega | (simp (disch := omega) only [lnB, wrap64, wrap32] <;> omega) | (intro h; (try simp (disch := omega) only [hsB, hsC, lnB, wrap64, wrap32, Int.reduceBEq, Int.reduceBNe, Int.reduceEq, Int.reduceNe, Int.reduceLT, Int.reduceLE, Int.reduceGT, Int.reduceGE, Int.reduceAdd, Int.reduceSub, Int.reduceMul, Int.reduceNeg, reduceCtorEq] at h); (first | omega | (simp (disch := omega) only [lnB, wrap64, wrap32] <;> omega))) | (exact needApp 256 rfl rfl (by simp) (by simp) (by omega)) | (simp <;> omega)); conv => whnf) | ((with_reducible apply GET.at); (rfl); conv => whnf) | ((with_reducible apply GETG.at); (rfl); conv => whnf) | ((with_reducible refine IF.mk (fun h => ?_) (fun h => ?_)) <;> (try simp (disch := omega) only [hsB, hsC, lnB, wrap64, wrap32, Int.reduceBEq, Int.reduceBNe, Int.reduceEq, Int.reduceNe, Int.reduceLT, Int.reduceLE, Int.reduceGT, Int.reduceGE, Int.reduceAdd, Int.reduceSub, Int.reduceMul, Int.reduceNeg, reduceCtorEq] at h) <;> (try (exfalso; omega)) <;> conv => whnf))
  all_goals
    refine FIN.value h0 rfl (congrArg SV.bool ?_)
    rw [Bool.eq_iff_iff, decide_eq_true_iff]
    unfold StartI
    simp
theorem nFollower_does (r : Int) : Does Tryz.prog tab 149 0 [.int .i32 r] [] [] (Val (.bool (decide (FollowI r)))) := by
  refine Does.enter tabOK (g := 149) (fn := Tryz.f149) Tryz.call149 Tryz.func149 rfl 33 rfl rfl [.tmp 2] rfl ?_
  intro w0 F η0 h0
  conv => whnf
  repeat' (first | ((with_reducible refine IF.tt ?_); conv => whnf) | ((with_reducible refine IF.ff ?_); conv => whnf) | (refine CALL.value (nStarter_does _) rfl rfl ?_; conv => whnf) | (refine CALL.value (nDigit_does _) rfl rfl ?_; conv => whnf) | ((with_reducible refine NEED.mk ?_ ?_); (first | with_reducible rfl | omega | (simp (disch := omega) only [lnB, wrap64, wrap32] <;> omega) | (intro h; (try simp (disch := omega) only [hsB, hsC, lnB, wrap64, wrap32, Int.reduceBEq, Int.reduceBNe, Int.reduceEq, Int.reduceNe, Int.reduceLT, Int.reduceLE, Int.reduceGT, Int.reduceGE, Int.reduceAdd, Int.reduceSub, Int.reduceMul, Int.reduceNeg, reduceCtorEq] at h); (first | omega | (simp (disch := omega) only [lnB, wrap64, wrap32] <;> omega))) | (exact needApp 256 rfl rfl (by simp) (by simp) (by omega)) | (simp <;> omega)); conv => whnf) | ((with_reducible apply GET.at); (rfl); conv => whnf) | ((with_reducible apply GETG.at); (rfl); conv => whnf) | ((with_reducible refine IF.mk (fun h => ?_) (fun h => ?_)) <;> (try simp (disch := omega) only [hsB, hsC, lnB, wrap64, wrap32, Int.reduceBEq, Int.reduceBNe, Int.reduceEq, Int.reduceNe, Int.reduceLT, Int.reduceLE, Int.reduceGT, Int.reduceGE, Int.reduceAdd, Int.reduceSub, Int.reduceMul, Int.reduceNeg, reduceCtorEq] at h) <;> (try (exfalso; omega)) <;> conv => whnf))
  all_goals
    refine FIN.value h0 rfl (congrArg SV.bool ?_)
    rw [Bool.eq_iff_iff]
    unfold FollowI
    simp_all
    try omega
theorem nLabels_does (r : Int) : Does Tryz.prog tab 112 0 [.int .i32 r] [] [] (Val (.bool (decide (LabelI r)))) := by
  refine Does.enter tabOK (g := 112) (fn := Tryz.f112) Tryz.call112 Tryz.func112 rfl 9 rfl rfl [.tmp 2] rfl ?_
  intro w0 F η0 h0
  conv => whnf
  repeat' (first | ((with_reducible refine IF.tt ?_); conv => whnf) | ((with_reducible refine IF.ff ?_); conv => whnf) | (refine CALL.value (nStarter_does _) rfl rfl ?_; conv => whnf) | (refine CALL.value (nDigit_does _) rfl rfl ?_; conv => whnf) | ((with_reducible refine NEED.mk ?_ ?_); (first | with_reducible rfl | omega | (simp (disch := omega) only [lnB, wrap64, wrap32] <;> omega) | (intro h; (try simp (disch := omega) only [hsB, hsC, lnB, wrap64, wrap32, Int.reduceBEq, Int.reduceBNe, Int.reduceEq, Int.reduceNe, Int.reduceLT, Int.reduceLE, Int.reduceGT, Int.reduceGE, Int.reduceAdd, Int.reduceSub, Int.reduceMul, Int.reduceNeg, reduceCtorEq] at h); (first | omega | (simp (disch := omega) only [lnB, wrap64, wrap32] <;> omega))) | (exact needApp 256 rfl rfl (by simp) (by simp) (by omega)) | (simp <;> omega)); conv => whnf) | ((with_reducible apply GET.at); (rfl); conv => whnf) | ((with_reducible apply GETG.at); (rfl); conv => whnf) | ((with_reducible refine IF.mk (fun h => ?_) (fun h => ?_)) <;> (try simp (disch := omega) only [hsB, hsC, lnB, wrap64, wrap32, Int.reduceBEq, Int.reduceBNe, Int.reduceEq, Int.reduceNe, Int.reduceLT, Int.reduceLE, Int.reduceGT, Int.reduceGE, Int.reduceAdd, Int.reduceSub, Int.reduceMul, Int.reduceNeg, reduceCtorEq] at h) <;> (try (exfalso; omega)) <;> conv => whnf))
  all_goals
    refine FIN.value h0 rfl (congrArg SV.bool ?_)
    unfold LabelI
    simp_all
theorem nRun_does (g : Nat) (p : Int → Prop) [DecidablePred p] (hp : ∀ r : Int, Does Tryz.prog tab g 0 [.int .i32 r] [] [] (Val (.bool (decide (p r))))) (s : List UInt8) (i : Int) (hs : Sm s) : Does Tryz.prog tab 111 0 [.str s, .int .i64 i, .fn (.func g) [] []] [] [] (Val (.int .i64 (runM p s i))) := by
  have hn := nextAt_n s i
  refine Does.enter tabOK (g := 111) (fn := Tryz.f111) Tryz.call111 Tryz.func111 rfl 55 rfl rfl [.tmp 6] rfl ?_
  intro w0 F η0 h0
  conv => whnf
  repeat' (first | ((with_reducible refine IF.tt ?_); conv => whnf) | ((with_reducible refine IF.ff ?_); conv => whnf) | (refine CALL.value (next_does s _ hs) rfl rfl ?_; conv => whnf) | (refine CALL.value (hp _) rfl rfl ?_; conv => whnf) | ((with_reducible refine NEED.mk ?_ ?_); (first | with_reducible rfl | omega | (simp (disch := omega) only [lnB, wrap64, wrap32] <;> omega) | (intro h; (try simp (disch := omega) only [hsB, hsC, lnB, wrap64, wrap32, Int.reduceBEq, Int.reduceBNe, Int.reduceEq, Int.reduceNe, Int.reduceLT, Int.reduceLE, Int.reduceGT, Int.reduceGE, Int.reduceAdd, Int.reduceSub, Int.reduceMul, Int.reduceNeg, reduceCtorEq] at h); (first | omega | (simp (disch := omega) only [lnB, wrap64, wrap32] <;> omega))) | (exact needApp 256 rfl rfl (by simp) (by simp) (by omega)) | (simp <;> omega)); conv => whnf) | ((with_reducible apply GET.at); (rfl); conv => whnf) | ((with_reducible apply GETG.at); (rfl); conv => whnf) | ((with_reducible refine IF.mk (fun h => ?_) (fun h => ?_)) <;> (try simp (disch := omega) only [hsB, hsC, lnB, wrap64, wrap32, Int.reduceBEq, Int.reduceBNe, Int.reduceEq, Int.reduceNe, Int.reduceLT, Int.reduceLE, Int.reduceGT, Int.reduceGE, Int.reduceAdd, Int.reduceSub, Int.reduceMul, Int.reduceNeg, reduceCtorEq] at h) <;> (try (exfalso; omega)) <;> conv => whnf))
  · exact FIN.value h0 rfl (congrArg (SV.int _) (by unfold runM; rw [if_pos (.inl h)]))
  · exact FIN.value h0 rfl (congrArg (SV.int _) (by unfold runM; rw [if_pos (.inr h)]))
  rename_i h1
  have hi : 0 ≤ i ∧ i < s.length := by
    apply Classical.byContradiction; intro hh; exact h1 (by unfold nextAt; rw [if_pos (by omega)])
  refine LOOP.go tabOK [0, 1] (X := Nat × Nat) (fun x => x.1 ≤ s.length ∧ x.2 ≤ x.1 ∧ runGo s x.1 x.2 = runGo s (i.toNat + (nextAt s i).2.toNat) (i.toNat + (nextAt s i).2.toNat)) (fun x => [(10, .int .i64 (x.1 : Int)), (9, .int .i64 (x.2 : Int))]) (fun i => []) 0 (fun x => s.length - x.1) (i.toNat + (nextAt s i).2.toNat, i.toNat + (nextAt s i).2.toNat) ⟨by omega, by omega, rfl⟩ ?_
  conv => whnf
  refine ⟨by (refine GOES.cutting h0 rfl rfl rfl (by first | rfl | simp [belowO, belowH, plainLL_below, plainLL_map, plainL, plain]) ?_ ?_ <;> (repeat' (first | (with_reducible rfl) | (exact congrArg (fun n => SV.sl _ _ _ n _) (by simp)) | (exact congrArg (Hp.rows _) (by simp)) | (exact congrArg (SV.int _) (by first | omega | (simp (disch := omega) only [lnB, wrap64, wrap32] <;> omega) | (simp; done) | (simp <;> omega))) | ((conv => whnf); refine ⟨?_, ?_⟩) | exact trivial | (simp; done) | rfl))), ?_⟩
  rintro ⟨j, e⟩ ⟨hj, he, hc⟩
  simp only at hj he hc
  have hn' := nextAt_n s j
  conv => whnf
  repeat' (first | ((with_reducible refine IF.tt ?_); conv => whnf) | ((with_reducible refine IF.ff ?_); conv => whnf) | (refine CALL.value (next_does s _ hs) rfl rfl ?_; conv => whnf) | (refine CALL.value (nFollower_does _) rfl rfl ?_; conv => whnf) | ((with_reducible refine NEED.mk ?_ ?_); (first | with_reducible rfl | omega | (simp (disch := omega) only [lnB, wrap64, wrap32] <;> omega) | (intro h; (try simp (disch := omega) only [hsB, hsC, lnB, wrap64, wrap32, Int.reduceBEq, Int.reduceBNe, Int.reduceEq, Int.reduceNe, Int.reduceLT, Int.reduceLE, Int.reduceGT, Int.reduceGE, Int.reduceAdd, Int.reduceSub, Int.reduceMul, Int.reduceNeg, reduceCtorEq] at h); (first | omega | (simp (disch := omega) only [lnB, wrap64, wrap32] <;> omega))) | (exact needApp 256 rfl rfl (by simp) (by simp) (by omega)) | (simp <;> omega)); conv => whnf) | ((with_reducible apply GET.at); (rfl); conv => whnf) | ((with_reducible apply GETG.at); (rfl); conv => whnf) | ((with_reducible refine IF.mk (fun h => ?_) (fun h => ?_)) <;> (try simp (disch := omega) only [hsB, hsC, lnB, wrap64, wrap32, Int.reduceBEq, Int.reduceBNe, Int.reduceEq, Int.reduceNe, Int.reduceLT, Int.reduceLE, Int.reduceGT, Int.reduceGE, Int.reduceAdd, Int.reduceSub, Int.reduceMul, Int.reduceNeg, reduceCtorEq] at h) <;> (try (exfalso; omega)) <;> conv => whnf))
  all_goals first
    | (refine FIN.value h0 rfl (congrArg (SV.int _) ?_)
       unfold runM
       rw [if_neg (by simp [*]), ← hc, runGo_stop (by simp [*])]
       simp (disch := omega) only [wrap64])
    | (refine ⟨(j + (nextAt s j).2.toNat, if (nextAt s j).1 = 46 then e else j + (nextAt s j).2.toNat), ⟨by simp only; omega, by simp only; split <;> omega, ?_⟩, by simp only; omega, ?_⟩
       · simp only
         rw [← hc, ← runGo_step (by simp [*])]
       · conv => whnf
         simp only [*, if_true, if_false]
         (refine GOES.cutting h0 rfl rfl rfl (by first | rfl | simp [belowO, belowH, plainLL_below, plainLL_map, plainL, plain]) ?_ ?_ <;> (repeat' (first | (with_reducible rfl) | (exact congrArg (fun n => SV.sl _ _ _ n _) (by simp)) | (exact congrArg (Hp.rows _) (by simp)) | (exact congrArg (SV.int _) (by first | omega | (simp (disch := omega) only [lnB, wrap64, wrap32] <;> omega) | (simp; done) | (simp <;> omega))) | ((conv => whnf); refine ⟨?_, ?_⟩) | exact trivial | (simp; done) | rfl))))
theorem nLabelAt_does (s : List UInt8) (i : Int) (hs : Sm s) : Does Tryz.prog tab 73 0 [.str s, .int .i64 i] [] [] (Val (.int .i64 (runM LabelI s i))) := by
  refine Does.enter tabOK (g := 73) (fn := Tryz.f73) Tryz.call73 Tryz.func73 rfl 8 rfl rfl [.tmp 4] rfl ?_
  intro w0 F η0 h0
  conv => whnf
  repeat' (first | ((with_reducible refine IF.tt ?_); conv => whnf) | ((with_reducible refine IF.ff ?_); conv => whnf) | (refine CALL.value (nRun_does _ LabelI (fun r => nLabels_does r) s i hs) rfl rfl ?_; conv => whnf) | ((with_reducible refine NEED.mk ?_ ?_); (first | with_reducible rfl | omega | (simp (disch := omega) only [lnB, wrap64, wrap32] <;> omega) | (intro h; (try simp (disch := omega) only [hsB, hsC, lnB, wrap64, wrap32, Int.reduceBEq, Int.reduceBNe, Int.reduceEq, Int.reduceNe, Int.reduceLT, Int.reduceLE, Int.reduceGT, Int.reduceGE, Int.reduceAdd, Int.reduceSub, Int.reduceMul, Int.reduceNeg, reduceCtorEq] at h); (first | omega | (simp (disch := omega) only [lnB, wrap64, wrap32] <;> omega))) | (exact needApp 256 rfl rfl (by simp) (by simp) (by omega)) | (simp <;> omega)); conv => whnf) | ((with_reducible apply GET.at); (rfl); conv => whnf) | ((with_reducible apply GETG.at); (rfl); conv => whnf) | ((with_reducible refine IF.mk (fun h => ?_) (fun h => ?_)) <;> (try simp (disch := omega) only [hsB, hsC, lnB, wrap64, wrap32, Int.reduceBEq, Int.reduceBNe, Int.reduceEq, Int.reduceNe, Int.reduceLT, Int.reduceLE, Int.reduceGT, Int.reduceGE, Int.reduceAdd, Int.reduceSub, Int.reduceMul, Int.reduceNeg, reduceCtorEq] at h) <;> (try (exfalso; omega)) <;> conv => whnf))
  exact FIN.value h0 rfl rfl
theorem nLabel_does (s : List UInt8) (hs : Sm s) : Does Tryz.prog tab 57 0 [.str s] [] [] (Val (.int .i64 (labelM s))) := by
  refine Does.enter tabOK (g := 57) (fn := Tryz.f57) Tryz.call57 Tryz.func57 rfl 14 rfl rfl [.tmp 2] rfl ?_
  intro w0 F η0 h0
  conv => whnf
  repeat' (first | ((with_reducible refine IF.tt ?_); conv => whnf) | ((with_reducible refine IF.ff ?_); conv => whnf) | (refine CALL.value (nLabelAt_does s _ hs) rfl rfl ?_; conv => whnf) | ((with_reducible refine NEED.mk ?_ ?_); (first | with_reducible rfl | omega | (simp (disch := omega) only [lnB, wrap64, wrap32] <;> omega) | (intro h; (try simp (disch := omega) only [hsB, hsC, lnB, wrap64, wrap32, Int.reduceBEq, Int.reduceBNe, Int.reduceEq, Int.reduceNe, Int.reduceLT, Int.reduceLE, Int.reduceGT, Int.reduceGE, Int.reduceAdd, Int.reduceSub, Int.reduceMul, Int.reduceNeg, reduceCtorEq] at h); (first | omega | (simp (disch := omega) only [lnB, wrap64, wrap32] <;> omega))) | (exact needApp 256 rfl rfl (by simp) (by simp) (by omega)) | (simp <;> omega)); conv => whnf) | ((with_reducible apply GET.at); (rfl); conv => whnf) | ((with_reducible apply GETG.at); (rfl); conv => whnf) | ((with_reducible refine IF.mk (fun h => ?_) (fun h => ?_)) <;> (try simp (disch := omega) only [hsB, hsC, lnB, wrap64, wrap32, Int.reduceBEq, Int.reduceBNe, Int.reduceEq, Int.reduceNe, Int.reduceLT, Int.reduceLE, Int.reduceGT, Int.reduceGE, Int.reduceAdd, Int.reduceSub, Int.reduceMul, Int.reduceNeg, reduceCtorEq] at h) <;> (try (exfalso; omega)) <;> conv => whnf))
  · exact FIN.value h0 rfl (congrArg (SV.int _) (by unfold labelM; rw [if_pos (by simpa using h)]))
  · exact FIN.value h0 rfl (congrArg (SV.int _) (by unfold labelM; rw [if_neg (by simp; exact h)]))
end Go.Proofs.YtpffclpheldabaaGreatDoor
/- names: parts of tags, walked. Conditions: none. -/
set_option linter.unusedVariables false
set_option linter.unusedSimpArgs false
set_option maxRecDepth 20000
namespace Go.Proofs.YtpffclpheldabaaGreatDoor
open Go.Sx Go.Our
theorem made_does (s : List UInt8) (least most : Int) (pure : Bool) (hs : Sm s) : Does Tryz.prog tab 169 0 [.str s, .int .i64 least, .int .i64 most, .bool pure] [] [] (Val (.bool (madeM s least most pure))) := by
  refine Does.enter tabOK (g := 169) (fn := Tryz.f169) Tryz.call169 Tryz.func169 rfl 37 rfl rfl [.tmp 8] rfl ?_
  intro w0 F η0 h0
  conv => whnf
  refine LOOP.go tabOK [0, 1, 2, 3, 12] (X := Nat) (fun i => i ≤ s.length ∧ allB (partB pure) s i = allB (partB pure) s 0) (fun i => []) (fun i => [(0, .siter s i)]) 1 (fun i => s.length - i) 0 ⟨by omega, rfl⟩ ?_
  conv => whnf
  refine ⟨by (refine GOES.cutting h0 rfl rfl rfl (by first | rfl | simp [belowO, belowH, plainLL_below, plainLL_map, plainL, plain]) ?_ ?_ <;> (repeat' (first | (with_reducible rfl) | (exact congrArg (fun n => SV.sl _ _ _ n _) (by simp)) | (exact congrArg (Hp.rows _) (by simp)) | (exact congrArg (SV.int _) (by first | omega | (simp (disch := omega) only [lnB, wrap64, wrap32] <;> omega) | (simp; done) | (simp <;> omega))) | ((conv => whnf); refine ⟨?_, ?_⟩) | exact trivial | (simp; done) | rfl))), ?_⟩
  rintro i ⟨hi, hc⟩
  conv => whnf
  refine ⟨fun h => ?_, fun h => ?_⟩
  · have h : i < s.length := by simpa using h
    have hf := deco_fits s i h
    have hp := deco_pos s i
    have hd : ((deco s i).1 : Int) = byteAt s i ∧ (deco s i).2 = 1 ∨ 128 ≤ byteAt s i ∧ 128 ≤ (deco s i).1 := by
      have hb := byteAt_lt s i
      by_cases ha : byteAt s i < 128
      · left; rw [deco_ascii ha]; simp; omega
      · right; exact ⟨by omega, deco_high (by omega)⟩
    unfold deco at *
    generalize Utf8.decode ⟨s.toArray⟩ i = d at *
    obtain ⟨r, n⟩ := d
    simp only at hf hp hd
    have key : allB (partB pure) s 0 = (partB pure r && allB (partB pure) s (i + n)) ∨ 128 ≤ r ∧ allB (partB pure) s 0 = false := by
      rcases hd with ⟨h1, rfl⟩ | ⟨h1, h2⟩
      · left; rw [← hc, allB_at h, h1]
      · right; exact ⟨h2, by rw [← hc, allB_at h, partB_high h1, Bool.false_and]⟩
    conv => whnf
    repeat' (first | ((with_reducible refine IF.tt ?_); conv => whnf) | ((with_reducible refine IF.ff ?_); conv => whnf) | (refine CALL.value (nLetter_does _) rfl rfl ?_; conv => whnf) | (refine CALL.value (nDigit_does _) rfl rfl ?_; conv => whnf) | ((with_reducible refine NEED.mk ?_ ?_); (first | with_reducible rfl | omega | (simp (disch := omega) only [lnB, wrap64, wrap32] <;> omega) | (intro h; (try simp (disch := omega) only [hsB, hsC, lnB, wrap64, wrap32, Int.reduceBEq, Int.reduceBNe, Int.reduceEq, Int.reduceNe, Int.reduceLT, Int.reduceLE, Int.reduceGT, Int.reduceGE, Int.reduceAdd, Int.reduceSub, Int.reduceMul, Int.reduceNeg, reduceCtorEq] at h); (first | omega | (simp (disch := omega) only [lnB, wrap64, wrap32] <;> omega))) | (exact needApp 256 rfl rfl (by simp) (by simp) (by omega)) | (simp <;> omega)); conv => whnf) | ((with_reducible apply GET.at); (rfl); conv => whnf) | ((with_reducible apply GETG.at); (rfl); conv => whnf) | ((with_reducible refine IF.mk (fun h => ?_) (fun h => ?_)) <;> (try simp (disch := omega) only [hsB, hsC, lnB, wrap64, wrap32, Int.reduceBEq, Int.reduceBNe, Int.reduceEq, Int.reduceNe, Int.reduceLT, Int.reduceLE, Int.reduceGT, Int.reduceGE, Int.reduceAdd, Int.reduceSub, Int.reduceMul, Int.reduceNeg, reduceCtorEq] at h) <;> (try (exfalso; omega)) <;> conv => whnf))
    all_goals first
      | (refine FIN.value h0 rfl (congrArg SV.bool ?_)
         have h1 : partB pure r = false := by unfold partB letterB digitB; simp [*]
         have h2 : allB (partB pure) s 0 = false := by rcases key with h | h <;> simp [h, h1]
         unfold madeM; rw [h2]; rfl)
      | (have h1 : partB pure r = true := by unfold partB letterB digitB; simp [*]
         refine ⟨i + n, ⟨hf, ?_⟩, by omega, ?_⟩
         · rcases key with h | h
           · rw [h, h1, Bool.true_and]
           · rw [partB_high (by omega)] at h1; cases h1
         · conv => whnf
           (refine GOES.cutting h0 rfl rfl rfl (by first | rfl | simp [belowO, belowH, plainLL_below, plainLL_map, plainL, plain]) ?_ ?_ <;> (repeat' (first | (with_reducible rfl) | (exact congrArg (fun n => SV.sl _ _ _ n _) (by simp)) | (exact congrArg (Hp.rows _) (by simp)) | (exact congrArg (SV.int _) (by first | omega | (simp (disch := omega) only [lnB, wrap64, wrap32] <;> omega) | (simp; done) | (simp <;> omega))) | ((conv => whnf); refine ⟨?_, ?_⟩) | exact trivial | (simp; done) | rfl))))
  · have h : s.length ≤ i := by simpa using h
    conv => whnf
    repeat' (first | ((with_reducible refine IF.tt ?_); conv => whnf) | ((with_reducible refine IF.ff ?_); conv => whnf) | ((with_reducible refine NEED.mk ?_ ?_); (first | with_reducible rfl | omega | (simp (disch := omega) only [lnB, wrap64, wrap32] <;> omega) | (intro h; (try simp (disch := omega) only [hsB, hsC, lnB, wrap64, wrap32, Int.reduceBEq, Int.reduceBNe, Int.reduceEq, Int.reduceNe, Int.reduceLT, Int.reduceLE, Int.reduceGT, Int.reduceGE, Int.reduceAdd, Int.reduceSub, Int.reduceMul, Int.reduceNeg, reduceCtorEq] at h); (first | omega | (simp (disch := omega) only [lnB, wrap64, wrap32] <;> omega))) | (exact needApp 256 rfl rfl (by simp) (by simp) (by omega)) | (simp <;> omega)); conv => whnf) | ((with_reducible apply GET.at); (rfl); conv => whnf) | ((with_reducible apply GETG.at); (rfl); conv => whnf) | ((with_reducible refine IF.mk (fun h => ?_) (fun h => ?_)) <;> (try simp (disch := omega) only [hsB, hsC, lnB, wrap64, wrap32, Int.reduceBEq, Int.reduceBNe, Int.reduceEq, Int.reduceNe, Int.reduceLT, Int.reduceLE, Int.reduceGT, Int.reduceGE, Int.reduceAdd, Int.reduceSub, Int.reduceMul, Int.reduceNeg, reduceCtorEq] at h) <;> (try (exfalso; omega)) <;> conv => whnf))
    all_goals
      refine FIN.value h0 rfl (congrArg SV.bool ?_)
      unfold madeM
      rw [← hc, allB_end h, Bool.eq_iff_iff]
      simp [Bool.cond_eq_ite]
theorem private_does (s : List UInt8) : Does Tryz.prog tab 125 0 [.str s] [] [] (Val (.bool (privateM s))) := by
  refine Does.enter tabOK (g := 125) (fn := Tryz.f125) Tryz.call125 Tryz.func125 rfl 9 rfl rfl [.tmp 2] rfl ?_
  intro w0 F η0 h0
  conv => whnf
  repeat' (first | ((with_reducible refine IF.tt ?_); conv => whnf) | ((with_reducible refine IF.ff ?_); conv => whnf) | ((with_reducible refine NEED.mk ?_ ?_); (first | with_reducible rfl | omega | (simp (disch := omega) only [lnB, wrap64, wrap32] <;> omega) | (intro h; (try simp (disch := omega) only [hsB, hsC, lnB, wrap64, wrap32, Int.reduceBEq, Int.reduceBNe, Int.reduceEq, Int.reduceNe, Int.reduceLT, Int.reduceLE, Int.reduceGT, Int.reduceGE, Int.reduceAdd, Int.reduceSub, Int.reduceMul, Int.reduceNeg, reduceCtorEq] at h); (first | omega | (simp (disch := omega) only [lnB, wrap64, wrap32] <;> omega))) | (exact needApp 256 rfl rfl (by simp) (by simp) (by omega)) | (simp <;> omega)); conv => whnf) | ((with_reducible apply GET.at); (rfl); conv => whnf) | ((with_reducible apply GETG.at); (rfl); conv => whnf) | ((with_reducible refine IF.mk (fun h => ?_) (fun h => ?_)) <;> (try simp (disch := omega) only [hsB, hsC, lnB, wrap64, wrap32, Int.reduceBEq, Int.reduceBNe, Int.reduceEq, Int.reduceNe, Int.reduceLT, Int.reduceLE, Int.reduceGT, Int.reduceGE, Int.reduceAdd, Int.reduceSub, Int.reduceMul, Int.reduceNeg, reduceCtorEq] at h) <;> (try (exfalso; omega)) <;> conv => whnf))
  refine FIN.value h0 rfl (congrArg SV.bool ?_)
  unfold privateM
  rw [Bool.eq_iff_iff]
  simp [Bool.cond_eq_ite]
theorem region_does (s : List UInt8) (hs : Sm s) : Does Tryz.prog tab 172 0 [.str s] [] [] (Val (.bool (regionM s))) := by
  have b0 := byteAt_lt s 0; have b1 := byteAt_lt s 1; have b2 := byteAt_lt s 2
  refine Does.enter tabOK (g := 172) (fn := Tryz.f172) Tryz.call172 Tryz.func172 rfl 28 rfl rfl [.tmp 2] rfl ?_
  intro w0 F η0 h0
  conv => whnf
  repeat' (first | ((with_reducible refine IF.tt ?_); conv => whnf) | ((with_reducible refine IF.ff ?_); conv => whnf) | (refine CALL.value (made_does _ _ _ _ hs) rfl rfl ?_; conv => whnf) | (refine CALL.value (nDigit_does _) rfl rfl ?_; conv => whnf) | ((with_reducible refine NEED.mk ?_ ?_); (first | with_reducible rfl | omega | (simp (disch := omega) only [lnB, wrap64, wrap32] <;> omega) | (intro h; (try simp (disch := omega) only [hsB, hsC, lnB, wrap64, wrap32, Int.reduceBEq, Int.reduceBNe, Int.reduceEq, Int.reduceNe, Int.reduceLT, Int.reduceLE, Int.reduceGT, Int.reduceGE, Int.reduceAdd, Int.reduceSub, Int.reduceMul, Int.reduceNeg, reduceCtorEq] at h); (first | omega | (simp (disch := omega) only [lnB, wrap64, wrap32] <;> omega))) | (exact needApp 256 rfl rfl (by simp) (by simp) (by omega)) | (simp <;> omega)); conv => whnf) | ((with_reducible apply GET.at); (rfl); conv => whnf) | ((with_reducible apply GETG.at); (rfl); conv => whnf) | ((with_reducible refine IF.mk (fun h => ?_) (fun h => ?_)) <;> (try simp (disch := omega) only [hsB, hsC, lnB, wrap64, wrap32, Int.reduceBEq, Int.reduceBNe, Int.reduceEq, Int.reduceNe, Int.reduceLT, Int.reduceLE, Int.reduceGT, Int.reduceGE, Int.reduceAdd, Int.reduceSub, Int.reduceMul, Int.reduceNeg, reduceCtorEq] at h) <;> (try (exfalso; omega)) <;> conv => whnf))
  all_goals
    refine FIN.value h0 rfl (congrArg SV.bool ?_)
    unfold regionM digitB
    try simp (disch := omega) only [wrap32] at *
    simp_all
    try omega
theorem variant_does (s : List UInt8) (hs : Sm s) : Does Tryz.prog tab 173 0 [.str s] [] [] (Val (.bool (variantM s))) := by
  have b0 := byteAt_lt s 0
  have hm : madeM s 4 4 false = true → s.length = 4 := by unfold madeM; simp; omega
  refine Does.enter tabOK (g := 173) (fn := Tryz.f173) Tryz.call173 Tryz.func173 rfl 15 rfl rfl [.tmp 2] rfl ?_
  intro w0 F η0 h0
  conv => whnf
  repeat' (first | ((with_reducible refine IF.tt ?_); conv => whnf) | ((with_reducible refine IF.ff ?_); conv => whnf) | (refine CALL.value (made_does _ _ _ _ hs) rfl rfl ?_; conv => whnf) | (refine CALL.value (nDigit_does _) rfl rfl ?_; conv => whnf) | (refine NEED.mk (by have := hm (by assumption); omega) ?_; conv => whnf) | ((with_reducible refine NEED.mk ?_ ?_); (first | with_reducible rfl | omega | (simp (disch := omega) only [lnB, wrap64, wrap32] <;> omega) | (intro h; (try simp (disch := omega) only [hsB, hsC, lnB, wrap64, wrap32, Int.reduceBEq, Int.reduceBNe, Int.reduceEq, Int.reduceNe, Int.reduceLT, Int.reduceLE, Int.reduceGT, Int.reduceGE, Int.reduceAdd, Int.reduceSub, Int.reduceMul, Int.reduceNeg, reduceCtorEq] at h); (first | omega | (simp (disch := omega) only [lnB, wrap64, wrap32] <;> omega))) | (exact needApp 256 rfl rfl (by simp) (by simp) (by omega)) | (simp <;> omega)); conv => whnf) | ((with_reducible apply GET.at); (rfl); conv => whnf) | ((with_reducible apply GETG.at); (rfl); conv => whnf) | ((with_reducible refine IF.mk (fun h => ?_) (fun h => ?_)) <;> (try simp (disch := omega) only [hsB, hsC, lnB, wrap64, wrap32, Int.reduceBEq, Int.reduceBNe, Int.reduceEq, Int.reduceNe, Int.reduceLT, Int.reduceLE, Int.reduceGT, Int.reduceGE, Int.reduceAdd, Int.reduceSub, Int.reduceMul, Int.reduceNeg, reduceCtorEq] at h) <;> (try (exfalso; omega)) <;> conv => whnf))
  all_goals
    refine FIN.value h0 rfl (congrArg SV.bool ?_)
    unfold variantM digitB
    try simp (disch := omega) only [wrap32] at *
    simp_all
theorem lower_does (s : List UInt8) (hs : Sm s) : Does Tryz.prog tab 94 0 [.str s] [] [] (Val (.str (lowerM s))) := by
  refine Does.enter tabOK (g := 94) (fn := Tryz.f94) Tryz.call94 Tryz.func94 rfl 29 rfl rfl [.tmp 2] rfl ?_
  intro w0 F η0 h0
  conv => whnf
  repeat' (first | ((with_reducible refine IF.tt ?_); conv => whnf) | ((with_reducible refine IF.ff ?_); conv => whnf) | ((with_reducible refine NEED.mk ?_ ?_); (first | with_reducible rfl | omega | (simp (disch := omega) only [lnB, wrap64, wrap32] <;> omega) | (intro h; (try simp (disch := omega) only [hsB, hsC, lnB, wrap64, wrap32, Int.reduceBEq, Int.reduceBNe, Int.reduceEq, Int.reduceNe, Int.reduceLT, Int.reduceLE, Int.reduceGT, Int.reduceGE, Int.reduceAdd, Int.reduceSub, Int.reduceMul, Int.reduceNeg, reduceCtorEq] at h); (first | omega | (simp (disch := omega) only [lnB, wrap64, wrap32] <;> omega))) | (exact needApp 256 rfl rfl (by simp) (by simp) (by omega)) | (simp <;> omega)); conv => whnf) | ((with_reducible apply GET.at); (rfl); conv => whnf) | ((with_reducible apply GETG.at); (rfl); conv => whnf) | ((with_reducible refine IF.mk (fun h => ?_) (fun h => ?_)) <;> (try simp (disch := omega) only [hsB, hsC, lnB, wrap64, wrap32, Int.reduceBEq, Int.reduceBNe, Int.reduceEq, Int.reduceNe, Int.reduceLT, Int.reduceLE, Int.reduceGT, Int.reduceGE, Int.reduceAdd, Int.reduceSub, Int.reduceMul, Int.reduceNeg, reduceCtorEq] at h) <;> (try (exfalso; omega)) <;> conv => whnf))
  refine LOOP.go tabOK [3, 8, 9] (X := Nat) (fun i => i ≤ s.length) (fun i => [(10, .int .i64 (i : Int))]) (fun i => [(0, .rows 1 ((curL s i).map Sx.bytesRow))]) 1 (fun i => s.length - i) 0 (by omega) ?_
  conv => whnf
  refine ⟨by (refine GOES.cutting h0 rfl rfl rfl (by first | rfl | (simp only [belowO, belowH, plainLL_below _ (plainBytes _), Bool.and_self, Bool.and_true] <;> rfl)) ?_ ?_ <;> (repeat' (first | (with_reducible rfl) | (exact congrArg (SV.int _) (by first | omega | (simp (disch := omega) only [lnB, wrap64, wrap32] <;> omega) | (simp; done) | (simp <;> omega))) | (exact congrArg (Hp.rows _) (by rw [curL_zero])) | ((conv => whnf); refine ⟨?_, ?_⟩) | exact trivial | rfl))), ?_⟩
  intro i hi
  have hlen := curL_len s i
  conv => whnf
  repeat' (first | ((with_reducible refine IF.tt ?_); conv => whnf) | ((with_reducible refine IF.ff ?_); conv => whnf) | (refine GET.at (row := Sx.bytesRow (s[i]'(by omega))) (by rw [show 0 + (i : Int).toNat = i by omega]; exact rowL_get (by omega)) ?_; conv => whnf) | ((with_reducible refine NEED.mk ?_ ?_); (first | with_reducible rfl | omega | (simp (disch := omega) only [lnB, wrap64, wrap32] <;> omega) | (intro h; (try simp (disch := omega) only [hsB, hsC, lnB, wrap64, wrap32, Int.reduceBEq, Int.reduceBNe, Int.reduceEq, Int.reduceNe, Int.reduceLT, Int.reduceLE, Int.reduceGT, Int.reduceGE, Int.reduceAdd, Int.reduceSub, Int.reduceMul, Int.reduceNeg, reduceCtorEq] at h); (first | omega | (simp (disch := omega) only [lnB, wrap64, wrap32] <;> omega))) | (exact needApp 256 rfl rfl (by simp) (by simp) (by omega)) | (simp <;> omega)); conv => whnf) | ((with_reducible apply GET.at); (rfl); conv => whnf) | ((with_reducible apply GETG.at); (rfl); conv => whnf) | ((with_reducible refine IF.mk (fun h => ?_) (fun h => ?_)) <;> (try simp (disch := omega) only [hsB, hsC, lnB, wrap64, wrap32, Int.reduceBEq, Int.reduceBNe, Int.reduceEq, Int.reduceNe, Int.reduceLT, Int.reduceLE, Int.reduceGT, Int.reduceGE, Int.reduceAdd, Int.reduceSub, Int.reduceMul, Int.reduceNeg, reduceCtorEq] at h) <;> (try (exfalso; omega)) <;> conv => whnf))
  · have hl : i < s.length := by omega
    refine ⟨i + 1, by omega, by omega, ?_⟩
    conv => whnf
    (refine GOES.cutting h0 rfl rfl rfl (by first | rfl | (simp only [belowO, belowH, plainLL_below _ (plainBytes _), Bool.and_self, Bool.and_true] <;> rfl)) ?_ ?_ <;> (repeat' (first | (with_reducible rfl) | (exact congrArg (SV.int _) (by first | omega | (simp (disch := omega) only [lnB, wrap64, wrap32] <;> omega) | (simp; done) | (simp <;> omega))) | (exact congrArg (Hp.rows _) (by rw [lowB_up h, show 0 + (i : Int).toNat = i by omega, rowL_set hl])) | ((conv => whnf); refine ⟨?_, ?_⟩) | exact trivial | rfl)))
  · have hl : i < s.length := by omega
    refine ⟨i + 1, by omega, by omega, ?_⟩
    conv => whnf
    (refine GOES.cutting h0 rfl rfl rfl (by first | rfl | (simp only [belowO, belowH, plainLL_below _ (plainBytes _), Bool.and_self, Bool.and_true] <;> rfl)) ?_ ?_ <;> (repeat' (first | (with_reducible rfl) | (exact congrArg (SV.int _) (by first | omega | (simp (disch := omega) only [lnB, wrap64, wrap32] <;> omega) | (simp; done) | (simp <;> omega))) | (exact congrArg (Hp.rows _) (by rw [curL_same hl (lowB_id (by omega))])) | ((conv => whnf); refine ⟨?_, ?_⟩) | exact trivial | rfl)))
  · refine NEED.mk (needText (by omega)) ?_
    conv => whnf
    refine FIN.value h0 rfl (congrArg SV.str ?_)
    have := textAll (curL s i)
    rw [hlen] at this
    rw [this, curL_all (by omega)]
end Go.Proofs.YtpffclpheldabaaGreatDoor
/- strings.Split at a hyphen, slices.Contains at texts, cmp.Or at error numbers, walked. Conditions: none. -/
set_option linter.unusedVariables false
set_option linter.unusedSimpArgs false
set_option maxRecDepth 20000
namespace Go.Proofs.YtpffclpheldabaaGreatDoor
open Go.Sx Go.Our
theorem countString_does (s : List UInt8) (c : Int) : Does Tryz.prog tab 200 0 [.str s, .int .u8 c] [] [] (Val (.int .i64 (Lib.countByte s c.toNat.toUInt8 : Nat))) := by
  refine Does.says fun η w vs hd => ?_
  simp only [DenL, Den] at hd
  obtain ⟨u, us, rfl, rfl, u', us', rfl, rfl, rfl⟩ := hd
  refine ⟨_, ?_, rfl⟩
  rw [run_callFunc_extern Tryz.func200 (by kernel_rfl) (by kernel_rfl) (by kernel_rfl) (e := Extern.BytealgCount.count) (by kernel_rfl), Lib.run_countString]
  rfl
theorem count_does (s : List UInt8) : Does Tryz.prog tab 190 0 [.str s, .str [45]] [] [] (Val (.int .i64 (s.count 45 : Nat))) := by
  refine Does.enter tabOK (g := 190) (fn := Tryz.f190) Tryz.call190 Tryz.func190 rfl 34 rfl rfl [.tmp 4] rfl ?_
  intro w0 F η0 h0
  conv => whnf
  repeat' (first | ((with_reducible refine IF.tt ?_); conv => whnf) | ((with_reducible refine IF.ff ?_); conv => whnf) | (refine CALL.value (countString_does _ _) rfl rfl ?_; conv => whnf) | ((with_reducible refine NEED.mk ?_ ?_); (first | with_reducible rfl | omega | (simp (disch := omega) only [lnB, wrap64, wrap32] <;> omega) | (intro h; (try simp (disch := omega) only [hsB, hsC, lnB, wrap64, wrap32, Int.reduceBEq, Int.reduceBNe, Int.reduceEq, Int.reduceNe, Int.reduceLT, Int.reduceLE, Int.reduceGT, Int.reduceGE, Int.reduceAdd, Int.reduceSub, Int.reduceMul, Int.reduceNeg, reduceCtorEq] at h); (first | omega | (simp (disch := omega) only [lnB, wrap64, wrap32] <;> omega))) | (exact needApp 256 rfl rfl (by simp) (by simp) (by omega)) | (simp <;> omega)); conv => whnf) | ((with_reducible apply GET.at); (rfl); conv => whnf) | ((with_reducible apply GETG.at); (rfl); conv => whnf) | ((with_reducible refine IF.mk (fun h => ?_) (fun h => ?_)) <;> (try simp (disch := omega) only [hsB, hsC, lnB, wrap64, wrap32, Int.reduceBEq, Int.reduceBNe, Int.reduceEq, Int.reduceNe, Int.reduceLT, Int.reduceLE, Int.reduceGT, Int.reduceGE, Int.reduceAdd, Int.reduceSub, Int.reduceMul, Int.reduceNeg, reduceCtorEq] at h) <;> (try (exfalso; omega)) <;> conv => whnf))
  all_goals first
    | exact FIN.value h0 rfl rfl
    | (exfalso; simp at *; done)
theorem slIndex_does (s : List UInt8) : Does Tryz.prog tab 201 0 [.str s, .str [45]] [] [] (Val (.int .i64 (Lib.indexByte s 45))) := by
  refine Does.enter tabOK (g := 201) (fn := Tryz.f201) Tryz.call201 Tryz.func201 rfl 143 rfl rfl [.tmp 4] rfl ?_
  intro w0 F η0 h0
  conv => whnf
  repeat' (first | ((with_reducible refine IF.tt ?_); conv => whnf) | ((with_reducible refine IF.ff ?_); conv => whnf) | (refine CALL.value (indexByteString_does _ _) rfl rfl ?_; conv => whnf) | (refine CALL.value (slIndexByte_does _ _) rfl rfl ?_; conv => whnf) | (refine CALL.value (indexByte_does _ _) rfl rfl ?_; conv => whnf) | ((with_reducible refine NEED.mk ?_ ?_); (first | with_reducible rfl | omega | (simp (disch := omega) only [lnB, wrap64, wrap32] <;> omega) | (intro h; (try simp (disch := omega) only [hsB, hsC, lnB, wrap64, wrap32, Int.reduceBEq, Int.reduceBNe, Int.reduceEq, Int.reduceNe, Int.reduceLT, Int.reduceLE, Int.reduceGT, Int.reduceGE, Int.reduceAdd, Int.reduceSub, Int.reduceMul, Int.reduceNeg, reduceCtorEq] at h); (first | omega | (simp (disch := omega) only [lnB, wrap64, wrap32] <;> omega))) | (exact needApp 256 rfl rfl (by simp) (by simp) (by omega)) | (simp <;> omega)); conv => whnf) | ((with_reducible apply GET.at); (rfl); conv => whnf) | ((with_reducible apply GETG.at); (rfl); conv => whnf) | ((with_reducible refine IF.mk (fun h => ?_) (fun h => ?_)) <;> (try simp (disch := omega) only [hsB, hsC, lnB, wrap64, wrap32, Int.reduceBEq, Int.reduceBNe, Int.reduceEq, Int.reduceNe, Int.reduceLT, Int.reduceLE, Int.reduceGT, Int.reduceGE, Int.reduceAdd, Int.reduceSub, Int.reduceMul, Int.reduceNeg, reduceCtorEq] at h) <;> (try (exfalso; omega)) <;> conv => whnf))
  · rcases h with h | h
    · exact absurd h (by decide)
    · subst h; exact FIN.value h0 rfl rfl
  · exact FIN.value h0 rfl rfl
  all_goals
    exact absurd (by assumption : ¬ ((0 + 1 : Nat) : Int) = 1) (by decide)
theorem index_does (s : List UInt8) : Does Tryz.prog tab 191 0 [.str s, .str [45]] [] [] (Val (.int .i64 (Lib.indexByte s 45))) := by
  refine Does.enter tabOK (g := 191) (fn := Tryz.f191) Tryz.call191 Tryz.func191 rfl 8 rfl rfl [.tmp 4] rfl ?_
  intro w0 F η0 h0
  conv => whnf
  repeat' (first | ((with_reducible refine IF.tt ?_); conv => whnf) | ((with_reducible refine IF.ff ?_); conv => whnf) | (refine CALL.value (slIndex_does _) rfl rfl ?_; conv => whnf) | ((with_reducible refine NEED.mk ?_ ?_); (first | with_reducible rfl | omega | (simp (disch := omega) only [lnB, wrap64, wrap32] <;> omega) | (intro h; (try simp (disch := omega) only [hsB, hsC, lnB, wrap64, wrap32, Int.reduceBEq, Int.reduceBNe, Int.reduceEq, Int.reduceNe, Int.reduceLT, Int.reduceLE, Int.reduceGT, Int.reduceGE, Int.reduceAdd, Int.reduceSub, Int.reduceMul, Int.reduceNeg, reduceCtorEq] at h); (first | omega | (simp (disch := omega) only [lnB, wrap64, wrap32] <;> omega))) | (exact needApp 256 rfl rfl (by simp) (by simp) (by omega)) | (simp <;> omega)); conv => whnf) | ((with_reducible apply GET.at); (rfl); conv => whnf) | ((with_reducible apply GETG.at); (rfl); conv => whnf) | ((with_reducible refine IF.mk (fun h => ?_) (fun h => ?_)) <;> (try simp (disch := omega) only [hsB, hsC, lnB, wrap64, wrap32, Int.reduceBEq, Int.reduceBNe, Int.reduceEq, Int.reduceNe, Int.reduceLT, Int.reduceLE, Int.reduceGT, Int.reduceGE, Int.reduceAdd, Int.reduceSub, Int.reduceMul, Int.reduceNeg, reduceCtorEq] at h) <;> (try (exfalso; omega)) <;> conv => whnf))
  exact FIN.value h0 rfl rfl
theorem needMake {l c : Int} {b : Nat} (B : Nat) (hb : Nat.ble b B = true) (h0 : 0 ≤ l) (h1 : l ≤ c) (h2 : (B : Int) * c ≤ 281474976710656 ∧ c ≤ 9223372036854775807) : 0 ≤ l ∧ l ≤ c ∧ c ≤ 9223372036854775807 ∧ (b : Int) * c ≤ 281474976710656 :=
  ⟨h0, h1, h2.2, Int.le_trans (Int.mul_le_mul_of_nonneg_right (by have := Nat.le_of_ble_eq_true hb; omega) (by omega)) h2.1⟩
theorem genSplit_does (s : List UInt8) (hs : s.length ≤ 68719476736) : Does Tryz.prog tab 167 0 [.str s, .str [45], .int .i64 0, .int .i64 (-1)] [] [] (NewS 1 ((splitM s).map strRow)) := by
  have hcnt := split_count s
  have hlen := split_len s
  have hne := split_ne s
  refine Does.enter tabOK (g := 167) (fn := Tryz.f167) Tryz.call167 Tryz.func167 rfl 66 rfl rfl [.tmp 8] rfl ?_
  intro w0 F η0 h0
  conv => whnf
  repeat' (first | ((with_reducible refine IF.tt ?_); conv => whnf) | ((with_reducible refine IF.ff ?_); conv => whnf) | (refine CALL.value (count_does _) rfl rfl ?_; conv => whnf) | ((with_reducible refine NEED.mk ?_ ?_); (first | with_reducible rfl | omega | (simp (disch := omega) only [lnB, wrap64, wrap32] <;> omega) | (intro h; (try simp (disch := omega) only [hsB, hsC, lnB, wrap64, wrap32, Int.reduceBEq, Int.reduceBNe, Int.reduceEq, Int.reduceNe, Int.reduceLT, Int.reduceLE, Int.reduceGT, Int.reduceGE, Int.reduceAdd, Int.reduceSub, Int.reduceMul, Int.reduceNeg, reduceCtorEq] at h); (first | omega | (simp (disch := omega) only [lnB, wrap64, wrap32] <;> omega))) | (exact needApp 256 rfl rfl (by simp) (by simp) (by omega)) | (simp <;> omega)); conv => whnf) | ((with_reducible apply GET.at); (rfl); conv => whnf) | ((with_reducible apply GETG.at); (rfl); conv => whnf) | ((with_reducible refine IF.mk (fun h => ?_) (fun h => ?_)) <;> (try simp (disch := omega) only [hsB, hsC, lnB, wrap64, wrap32, Int.reduceBEq, Int.reduceBNe, Int.reduceEq, Int.reduceNe, Int.reduceLT, Int.reduceLE, Int.reduceGT, Int.reduceGE, Int.reduceAdd, Int.reduceSub, Int.reduceMul, Int.reduceNeg, reduceCtorEq] at h) <;> (try (exfalso; omega)) <;> conv => whnf))
  have hn : (if IntKind.i64.wrap ((s.length : Int) + 1) < IntKind.i64.wrap (((s.count 45 : Nat) : Int) + 1) then IntKind.i64.wrap ((s.length : Int) + 1) else IntKind.i64.wrap (((s.count 45 : Nat) : Int) + 1)) = ((splitM s).length : Int) := by
    simp (disch := omega) only [wrap64]
    rw [if_neg (by omega)]; omega
  rw [hn]
  refine NEED.mk (needMake 16 rfl (by omega) (by omega) (by omega)) ?_
  conv => whnf
  rw [show List.replicate ((splitM s).length : Int).toNat [SV.str []] = fillR [] (splitM s).length by rw [Int.toNat_natCast]; rfl]
  refine LOOP.go tabOK [1, 2, 3, 9] (X := List (List UInt8) × List UInt8) (fun x => splitM s = x.1 ++ splitM x.2 ∧ x.2.length ≤ s.length) (fun x => [(10, .int .i64 (x.1.length : Int)), (0, .str x.2)]) (fun x => [(0, .rows 1 (fillR x.1 ((splitM s).length - x.1.length)))]) 1 (fun x => (splitM s).length - x.1.length) ([], s) ⟨rfl, Nat.le_refl _⟩ ?_
  conv => whnf
  refine ⟨by (refine GOES.cutting h0 rfl rfl rfl (by first | rfl | (simp only [belowO, belowH, plainLL_below _ (plainFill _ _), Bool.and_self, Bool.and_true] <;> rfl)) ?_ ?_ <;> (repeat' (first | (with_reducible rfl) | (exact congrArg (SV.int _) (by first | omega | (simp (disch := omega) only [lnB, wrap64, wrap32] <;> omega) | (simp; done) | (simp <;> omega))) | (exact congrArg (Hp.rows _) (by rfl)) | ((conv => whnf); refine ⟨?_, ?_⟩) | exact trivial | rfl))), ?_⟩
  rintro ⟨d, u⟩ ⟨he, hu⟩
  dsimp only at he hu ⊢
  have hd : d.length + (splitM u).length = (splitM s).length := by rw [he, List.length_append]
  have hun : 1 ≤ (splitM u).length := by have := split_count u; omega
  have hm : Lib.indexByte u 45 = -1 ∧ splitM u = [u] ∨ ∃ m : Nat, Lib.indexByte u 45 = m ∧ m < u.length ∧ splitM u = u.take m :: splitM (u.drop (m + 1)) := by
    have hge := Lib.indexByte_ge u 45
    by_cases h : Lib.indexByte u 45 = -1
    · exact .inl ⟨h, split_none h⟩
    · have e : Lib.indexByte u 45 = ((Lib.indexByte u 45).toNat : Int) := by omega
      have := split_some e
      exact .inr ⟨_, e, this.1, this.2⟩
  conv => whnf
  rcases hm with ⟨hm, hs1⟩ | ⟨m, hm, hml, hs1⟩
  · have h1 : (splitM u).length = 1 := by rw [hs1]; rfl
    repeat' (first | ((with_reducible refine IF.tt ?_); conv => whnf) | ((with_reducible refine IF.ff ?_); conv => whnf) | (refine CALL.value (index_does _) rfl rfl ?_; conv => whnf) | (refine GET.at (row := strRow []) (fill_get (by omega) (by omega)) ?_; conv => whnf) | (refine NEED.mk (by rw [wrap64 (by omega) (by omega)]; refine ⟨by omega, ?_⟩; show _ ≤ ((max (((splitM s).length : Int).toNat) (_ - 0) : Nat) : Int); omega) ?_; conv => whnf) | ((with_reducible refine NEED.mk ?_ ?_); (first | with_reducible rfl | omega | (simp (disch := omega) only [lnB, wrap64, wrap32] <;> omega) | (intro h; (try simp (disch := omega) only [hsB, hsC, lnB, wrap64, wrap32, Int.reduceBEq, Int.reduceBNe, Int.reduceEq, Int.reduceNe, Int.reduceLT, Int.reduceLE, Int.reduceGT, Int.reduceGE, Int.reduceAdd, Int.reduceSub, Int.reduceMul, Int.reduceNeg, reduceCtorEq] at h); (first | omega | (simp (disch := omega) only [lnB, wrap64, wrap32] <;> omega))) | (exact needApp 256 rfl rfl (by simp) (by simp) (by omega)) | (simp <;> omega)); conv => whnf) | ((with_reducible apply GET.at); (rfl); conv => whnf) | ((with_reducible apply GETG.at); (rfl); conv => whnf) | ((with_reducible refine IF.mk (fun h => ?_) (fun h => ?_)) <;> (try simp (disch := omega) only [hsB, hsC, lnB, wrap64, wrap32, Int.reduceBEq, Int.reduceBNe, Int.reduceEq, Int.reduceNe, Int.reduceLT, Int.reduceLE, Int.reduceGT, Int.reduceGE, Int.reduceAdd, Int.reduceSub, Int.reduceMul, Int.reduceNeg, reduceCtorEq] at h) <;> (try (exfalso; omega)) <;> conv => whnf))
    rw [fill_set (by omega) (by omega)]
    have hw : (IntKind.i64.wrap ((d.length : Int) + 1)).toNat = ((splitM s).map strRow).length := by
      rw [wrap64 (by omega) (by omega), List.length_map]; omega
    rw [hw, show (splitM s).length - d.length - 1 = 0 by omega, show fillR (d ++ [u]) 0 = (splitM s).map strRow by rw [he, hs1]; simp [fillR]]
    exact FIN.rows h0 0 1 _ rfl rfl rfl (plainStrs _) ⟨rfl, rfl, rfl⟩
  · have h1 : 2 ≤ (splitM u).length := by rw [hs1]; have := split_count (u.drop (m + 1)); simp; omega
    repeat' (first | ((with_reducible refine IF.tt ?_); conv => whnf) | ((with_reducible refine IF.ff ?_); conv => whnf) | (refine CALL.value (index_does _) rfl rfl ?_; conv => whnf) | (refine GET.at (row := strRow []) (fill_get (by omega) (by omega)) ?_; conv => whnf) | ((with_reducible refine NEED.mk ?_ ?_); (first | with_reducible rfl | omega | (simp (disch := omega) only [lnB, wrap64, wrap32] <;> omega) | (intro h; (try simp (disch := omega) only [hsB, hsC, lnB, wrap64, wrap32, Int.reduceBEq, Int.reduceBNe, Int.reduceEq, Int.reduceNe, Int.reduceLT, Int.reduceLE, Int.reduceGT, Int.reduceGE, Int.reduceAdd, Int.reduceSub, Int.reduceMul, Int.reduceNeg, reduceCtorEq] at h); (first | omega | (simp (disch := omega) only [lnB, wrap64, wrap32] <;> omega))) | (exact needApp 256 rfl rfl (by simp) (by simp) (by omega)) | (simp <;> omega)); conv => whnf) | ((with_reducible apply GET.at); (rfl); conv => whnf) | ((with_reducible apply GETG.at); (rfl); conv => whnf) | ((with_reducible refine IF.mk (fun h => ?_) (fun h => ?_)) <;> (try simp (disch := omega) only [hsB, hsC, lnB, wrap64, wrap32, Int.reduceBEq, Int.reduceBNe, Int.reduceEq, Int.reduceNe, Int.reduceLT, Int.reduceLE, Int.reduceGT, Int.reduceGE, Int.reduceAdd, Int.reduceSub, Int.reduceMul, Int.reduceNeg, reduceCtorEq] at h) <;> (try (exfalso; omega)) <;> conv => whnf))
    have hw1 : (IntKind.i64.wrap (Lib.indexByte u 45 + (([45] : List UInt8).length : Int))).toNat = m + 1 := by
      rw [hm]; simp only [List.length_cons, List.length_nil]; rw [wrap64 (by omega) (by omega)]; omega
    have hw2 : (IntKind.i64.wrap (Lib.indexByte u 45 + 0)).toNat = m := by
      rw [hm, wrap64 (by omega) (by omega)]; omega
    rw [hw1, hw2, fill_set (by omega) (by omega)]
    refine ⟨(d ++ [u.take m], u.drop (m + 1)), ⟨by rw [he, hs1]; simp, by simp; omega⟩, by simp; omega, ?_⟩
    dsimp only
    conv => whnf
    (refine GOES.cutting h0 rfl rfl rfl (by first | rfl | (simp only [belowO, belowH, plainLL_below _ (plainFill _ _), Bool.and_self, Bool.and_true] <;> rfl)) ?_ ?_ <;> (repeat' (first | (with_reducible rfl) | (exact congrArg (SV.int _) (by first | omega | (simp (disch := omega) only [lnB, wrap64, wrap32] <;> omega) | (simp; done) | (simp <;> omega))) | (exact congrArg (Hp.rows _) (by congr 1; simp; omega)) | ((conv => whnf); refine ⟨?_, ?_⟩) | exact trivial | rfl)))
theorem split_does (s : List UInt8) (hs : s.length ≤ 68719476736) : Does Tryz.prog tab 123 0 [.str s, .str [45]] [] [] (NewS 1 ((splitM s).map strRow)) := by
  refine Does.enter tabOK (g := 123) (fn := Tryz.f123) Tryz.call123 Tryz.func123 rfl 8 rfl rfl [.tmp 4] rfl ?_
  intro w0 F η0 h0
  conv => whnf
  refine CALL.newS (genSplit_does s hs) rfl (plainStrs _) ?_
  conv => whnf
  exact FIN.rows h0 0 1 _ rfl rfl rfl (plainStrs _) ⟨rfl, rfl, rfl⟩
end Go.Proofs.YtpffclpheldabaaGreatDoor
/- names: the reader of tags, walked. Conditions: none. -/
set_option linter.unusedVariables false
set_option linter.unusedSimpArgs false
set_option maxRecDepth 20000
namespace Go.Proofs.YtpffclpheldabaaGreatDoor
open Go.Sx Go.Our
theorem lang1_does (s : List UInt8) (hs : Sm s) : Does Tryz.prog tab 168 0 [.str s] [] [] (Val (.bool (madeM s 2 8 true))) := by
  refine Does.enter tabOK (g := 168) (fn := Tryz.f168) Tryz.call168 Tryz.func168 rfl 5 rfl rfl [.tmp 2] rfl ?_
  intro w0 F η0 h0
  conv => whnf
  repeat' (first | ((with_reducible refine IF.tt ?_); conv => whnf) | ((with_reducible refine IF.ff ?_); conv => whnf) | (refine CALL.value (made_does _ _ _ _ hs) rfl rfl ?_; conv => whnf) | ((with_reducible refine NEED.mk ?_ ?_); (first | with_reducible rfl | omega | (simp (disch := omega) only [lnB, wrap64, wrap32] <;> omega) | (intro h; (try simp (disch := omega) only [hsB, hsC, lnB, wrap64, wrap32, Int.reduceBEq, Int.reduceBNe, Int.reduceEq, Int.reduceNe, Int.reduceLT, Int.reduceLE, Int.reduceGT, Int.reduceGE, Int.reduceAdd, Int.reduceSub, Int.reduceMul, Int.reduceNeg, reduceCtorEq] at h); (first | omega | (simp (disch := omega) only [lnB, wrap64, wrap32] <;> omega))) | (exact needApp 256 rfl rfl (by simp) (by simp) (by omega)) | (simp <;> omega)); conv => whnf) | ((with_reducible apply GET.at); (rfl); conv => whnf) | ((with_reducible apply GETG.at); (rfl); conv => whnf) | ((with_reducible refine IF.mk (fun h => ?_) (fun h => ?_)) <;> (try simp (disch := omega) only [hsB, hsC, lnB, wrap64, wrap32, Int.reduceBEq, Int.reduceBNe, Int.reduceEq, Int.reduceNe, Int.reduceLT, Int.reduceLE, Int.reduceGT, Int.reduceGE, Int.reduceAdd, Int.reduceSub, Int.reduceMul, Int.reduceNeg, reduceCtorEq] at h) <;> (try (exfalso; omega)) <;> conv => whnf))
  exact FIN.value h0 rfl rfl
theorem lang2_does (s : List UInt8) (hs : Sm s) : Does Tryz.prog tab 170 0 [.str s] [] [] (Val (.bool (madeM s 3 3 true))) := by
  refine Does.enter tabOK (g := 170) (fn := Tryz.f170) Tryz.call170 Tryz.func170 rfl 5 rfl rfl [.tmp 2] rfl ?_
  intro w0 F η0 h0
  conv => whnf
  repeat' (first | ((with_reducible refine IF.tt ?_); conv => whnf) | ((with_reducible refine IF.ff ?_); conv => whnf) | (refine CALL.value (made_does _ _ _ _ hs) rfl rfl ?_; conv => whnf) | ((with_reducible refine NEED.mk ?_ ?_); (first | with_reducible rfl | omega | (simp (disch := omega) only [lnB, wrap64, wrap32] <;> omega) | (intro h; (try simp (disch := omega) only [hsB, hsC, lnB, wrap64, wrap32, Int.reduceBEq, Int.reduceBNe, Int.reduceEq, Int.reduceNe, Int.reduceLT, Int.reduceLE, Int.reduceGT, Int.reduceGE, Int.reduceAdd, Int.reduceSub, Int.reduceMul, Int.reduceNeg, reduceCtorEq] at h); (first | omega | (simp (disch := omega) only [lnB, wrap64, wrap32] <;> omega))) | (exact needApp 256 rfl rfl (by simp) (by simp) (by omega)) | (simp <;> omega)); conv => whnf) | ((with_reducible apply GET.at); (rfl); conv => whnf) | ((with_reducible apply GETG.at); (rfl); conv => whnf) | ((with_reducible refine IF.mk (fun h => ?_) (fun h => ?_)) <;> (try simp (disch := omega) only [hsB, hsC, lnB, wrap64, wrap32, Int.reduceBEq, Int.reduceBNe, Int.reduceEq, Int.reduceNe, Int.reduceLT, Int.reduceLE, Int.reduceGT, Int.reduceGE, Int.reduceAdd, Int.reduceSub, Int.reduceMul, Int.reduceNeg, reduceCtorEq] at h) <;> (try (exfalso; omega)) <;> conv => whnf))
  exact FIN.value h0 rfl rfl
theorem rest1_does (s : List UInt8) (hs : Sm s) : Does Tryz.prog tab 171 0 [.str s] [] [] (Val (.bool (madeM s 4 4 true))) := by
  refine Does.enter tabOK (g := 171) (fn := Tryz.f171) Tryz.call171 Tryz.func171 rfl 5 rfl rfl [.tmp 2] rfl ?_
  intro w0 F η0 h0
  conv => whnf
  repeat' (first | ((with_reducible refine IF.tt ?_); conv => whnf) | ((with_reducible refine IF.ff ?_); conv => whnf) | (refine CALL.value (made_does _ _ _ _ hs) rfl rfl ?_; conv => whnf) | ((with_reducible refine NEED.mk ?_ ?_); (first | with_reducible rfl | omega | (simp (disch := omega) only [lnB, wrap64, wrap32] <;> omega) | (intro h; (try simp (disch := omega) only [hsB, hsC, lnB, wrap64, wrap32, Int.reduceBEq, Int.reduceBNe, Int.reduceEq, Int.reduceNe, Int.reduceLT, Int.reduceLE, Int.reduceGT, Int.reduceGE, Int.reduceAdd, Int.reduceSub, Int.reduceMul, Int.reduceNeg, reduceCtorEq] at h); (first | omega | (simp (disch := omega) only [lnB, wrap64, wrap32] <;> omega))) | (exact needApp 256 rfl rfl (by simp) (by simp) (by omega)) | (simp <;> omega)); conv => whnf) | ((with_reducible apply GET.at); (rfl); conv => whnf) | ((with_reducible apply GETG.at); (rfl); conv => whnf) | ((with_reducible refine IF.mk (fun h => ?_) (fun h => ?_)) <;> (try simp (disch := omega) only [hsB, hsC, lnB, wrap64, wrap32, Int.reduceBEq, Int.reduceBNe, Int.reduceEq, Int.reduceNe, Int.reduceLT, Int.reduceLE, Int.reduceGT, Int.reduceGE, Int.reduceAdd, Int.reduceSub, Int.reduceMul, Int.reduceNeg, reduceCtorEq] at h) <;> (try (exfalso; omega)) <;> conv => whnf))
  exact FIN.value h0 rfl rfl
theorem rest2_does (s : List UInt8) (hs : Sm s) : Does Tryz.prog tab 175 0 [.str s] [] [] (Val (.bool (singleM s))) := by
  refine Does.enter tabOK (g := 175) (fn := Tryz.f175) Tryz.call175 Tryz.func175 rfl 10 rfl rfl [.tmp 2] rfl ?_
  intro w0 F η0 h0
  conv => whnf
  repeat' (first | ((with_reducible refine IF.tt ?_); conv => whnf) | ((with_reducible refine IF.ff ?_); conv => whnf) | (refine CALL.value (made_does _ _ _ _ hs) rfl rfl ?_; conv => whnf) | (refine CALL.value (private_does _) rfl rfl ?_; conv => whnf) | ((with_reducible refine NEED.mk ?_ ?_); (first | with_reducible rfl | omega | (simp (disch := omega) only [lnB, wrap64, wrap32] <;> omega) | (intro h; (try simp (disch := omega) only [hsB, hsC, lnB, wrap64, wrap32, Int.reduceBEq, Int.reduceBNe, Int.reduceEq, Int.reduceNe, Int.reduceLT, Int.reduceLE, Int.reduceGT, Int.reduceGE, Int.reduceAdd, Int.reduceSub, Int.reduceMul, Int.reduceNeg, reduceCtorEq] at h); (first | omega | (simp (disch := omega) only [lnB, wrap64, wrap32] <;> omega))) | (exact needApp 256 rfl rfl (by simp) (by simp) (by omega)) | (simp <;> omega)); conv => whnf) | ((with_reducible apply GET.at); (rfl); conv => whnf) | ((with_reducible apply GETG.at); (rfl); conv => whnf) | ((with_reducible refine IF.mk (fun h => ?_) (fun h => ?_)) <;> (try simp (disch := omega) only [hsB, hsC, lnB, wrap64, wrap32, Int.reduceBEq, Int.reduceBNe, Int.reduceEq, Int.reduceNe, Int.reduceLT, Int.reduceLE, Int.reduceGT, Int.reduceGE, Int.reduceAdd, Int.reduceSub, Int.reduceMul, Int.reduceNeg, reduceCtorEq] at h) <;> (try (exfalso; omega)) <;> conv => whnf))
  all_goals
    refine FIN.value h0 rfl (congrArg SV.bool ?_)
    unfold singleM
    simp_all
theorem tail1_does (s : List UInt8) (least : Int) (hs : Sm s) : Does Tryz.prog tab 176 1 [.str s, .ptr (.loc 0) 0 0 0] [] [(0, .box [.int .i64 least])] (ValK 1 (.bool (madeM s least 8 false))) := by
  refine Does.enter tabOK (g := 176) (fn := Tryz.f176) Tryz.call176 Tryz.func176 rfl 7 rfl rfl [.tmp 3] rfl ?_
  intro w0 F η0 h0
  conv => whnf
  repeat' (first | ((with_reducible refine IF.tt ?_); conv => whnf) | ((with_reducible refine IF.ff ?_); conv => whnf) | (refine CALL.value (made_does _ _ _ _ hs) rfl rfl ?_; conv => whnf) | ((with_reducible refine NEED.mk ?_ ?_); (first | with_reducible rfl | omega | (simp (disch := omega) only [lnB, wrap64, wrap32] <;> omega) | (intro h; (try simp (disch := omega) only [hsB, hsC, lnB, wrap64, wrap32, Int.reduceBEq, Int.reduceBNe, Int.reduceEq, Int.reduceNe, Int.reduceLT, Int.reduceLE, Int.reduceGT, Int.reduceGE, Int.reduceAdd, Int.reduceSub, Int.reduceMul, Int.reduceNeg, reduceCtorEq] at h); (first | omega | (simp (disch := omega) only [lnB, wrap64, wrap32] <;> omega))) | (exact needApp 256 rfl rfl (by simp) (by simp) (by omega)) | (simp <;> omega)); conv => whnf) | ((with_reducible apply GET.at); (rfl); conv => whnf) | ((with_reducible apply GETG.at); (rfl); conv => whnf) | ((with_reducible refine IF.mk (fun h => ?_) (fun h => ?_)) <;> (try simp (disch := omega) only [hsB, hsC, lnB, wrap64, wrap32, Int.reduceBEq, Int.reduceBNe, Int.reduceEq, Int.reduceNe, Int.reduceLT, Int.reduceLE, Int.reduceGT, Int.reduceGE, Int.reduceAdd, Int.reduceSub, Int.reduceMul, Int.reduceNeg, reduceCtorEq] at h) <;> (try (exfalso; omega)) <;> conv => whnf))
  exact FIN.valueK h0 rfl rfl
/-- The reader: where it stands among the parts, and what it has of the tag. -/
def rdBox (i m : Nat) (L E S R : List UInt8) (v x : Nat) (P : List UInt8) : Hp := .box [.sl (.loc 1) i 1 m none, .str L, .str E, .str S, .str R, .sl (.loc 2) 0 1 v none, .sl (.loc 3) 0 1 x none, .str P]
/-- The same, with nothing said of the variants and extensions. -/
def rdBoxA (i m : Nat) (L E S R : List UInt8) (v x : Nat) (P : List UInt8) : Hp := .box [.sl (.loc 1) i 1 m none, .str L, .str E, .str S, .str R, .any, .any, .str P]
/-- The same, where these have other names. -/
def rdBoxC (i m : Nat) (L E S R : List UInt8) (v x : Nat) (P : List UInt8) : Hp := .box [.sl (.loc 1) i 1 m none, .str L, .str E, .str S, .str R, .sl (.loc 4) 0 1 v none, .sl (.loc 5) 0 1 x none, .str P]
/-- Does the next part say what p says? -/
def seesM (p : List UInt8 → Bool) (ps : List (List UInt8)) (i : Nat) : Bool := match ps[i]? with | some s => p s | none => false
theorem sum_le {ps : List (List UInt8)} {i : Nat} {p : List UInt8} (h : ps[i]? = some p) : ((ps.take (i + 1)).map List.length).sum = ((ps.take i).map List.length).sum + p.length := by
  obtain ⟨h1, rfl⟩ := List.getElem?_eq_some_iff.1 h
  rw [List.take_succ_eq_append_getElem h1, List.map_append, List.sum_append]; simp
/-- All the bytes of the parts. -/
abbrev bulkM (ps : List (List UInt8)) : Nat := (ps.map List.length).sum
theorem bulk_take (ps : List (List UInt8)) (i : Nat) : ((ps.take i).map List.length).sum ≤ bulkM ps := by
  conv => rhs; unfold bulkM; rw [← List.take_append_drop i ps]
  rw [List.map_append, List.sum_append]; omega
theorem sees_does (g : Nat) (p : List UInt8 → Bool) (ps : List (List UInt8)) (hp : ∀ s ∈ ps, Does Tryz.prog tab g 0 [.str s] [] [] (Val (.bool (p s)))) (i m : Nat) (him : i + m = ps.length) (L E S R : List UInt8) (v x : Nat) (P : List UInt8) :
    Does Tryz.prog tab 124 4 [.ptr (.loc 0) 0 0 0, .fn (.func g) [] []] [] [(0, rdBox i m L E S R v x P), (1, .rows 1 (ps.map strRow))] (ValK 4 (.bool (seesM p ps i))) := by
  refine Does.enter tabOK (g := 124) (fn := Tryz.f124) Tryz.call124 Tryz.func124 rfl 21 rfl rfl [.tmp 4] rfl ?_
  intro w0 F η0 h0
  conv => whnf
  repeat' (first | ((with_reducible refine IF.tt ?_); conv => whnf) | ((with_reducible refine IF.ff ?_); conv => whnf) | (refine GET.at (row := strRow (ps[i]'(by omega))) (by rw [List.getElem?_map, show i + (0 : Int).toNat = i by simp, List.getElem?_eq_getElem (by omega)]; rfl) ?_; conv => whnf) | (refine CALL.value (hp _ (List.getElem_mem (by omega))) rfl rfl ?_; conv => whnf) | ((with_reducible refine NEED.mk ?_ ?_); (first | with_reducible rfl | omega | (simp (disch := omega) only [lnB, wrap64, wrap32] <;> omega) | (intro h; (try simp (disch := omega) only [hsB, hsC, lnB, wrap64, wrap32, Int.reduceBEq, Int.reduceBNe, Int.reduceEq, Int.reduceNe, Int.reduceLT, Int.reduceLE, Int.reduceGT, Int.reduceGE, Int.reduceAdd, Int.reduceSub, Int.reduceMul, Int.reduceNeg, reduceCtorEq] at h); (first | omega | (simp (disch := omega) only [lnB, wrap64, wrap32] <;> omega))) | (exact needApp 256 rfl rfl (by simp) (by simp) (by omega)) | (simp <;> omega)); conv => whnf) | ((with_reducible apply GET.at); (rfl); conv => whnf) | ((with_reducible apply GETG.at); (rfl); conv => whnf) | ((with_reducible refine IF.mk (fun h => ?_) (fun h => ?_)) <;> (try simp (disch := omega) only [hsB, hsC, lnB, wrap64, wrap32, Int.reduceBEq, Int.reduceBNe, Int.reduceEq, Int.reduceNe, Int.reduceLT, Int.reduceLE, Int.reduceGT, Int.reduceGE, Int.reduceAdd, Int.reduceSub, Int.reduceMul, Int.reduceNeg, reduceCtorEq] at h) <;> (try (exfalso; omega)) <;> conv => whnf))
  · refine FIN.valueK h0 rfl (congrArg SV.bool ?_)
    unfold seesM; rw [List.getElem?_eq_getElem (by omega)]; rfl
  · refine FIN.valueK h0 rfl (congrArg SV.bool ?_)
    unfold seesM; rw [List.getElem?_eq_none (by omega)]
/-- As sees_does, for the function that asks for so many bytes. -/
theorem seesTail_does (least : Int) (ps : List (List UInt8)) (hp : ∀ s ∈ ps, Sm s) (i m : Nat) (him : i + m = ps.length) (L E S R : List UInt8) (v x : Nat) (P : List UInt8) :
    Does Tryz.prog tab 124 5 [.ptr (.loc 0) 0 0 0, .fn (.func 176) [] [.ptr (.loc 4) 0 0 0]] [] [(0, rdBox i m L E S R v x P), (1, .rows 1 (ps.map strRow)), (4, .box [.int .i64 least])] (ValK 5 (.bool (seesM (fun s => madeM s least 8 false) ps i))) := by
  refine Does.enter tabOK (g := 124) (fn := Tryz.f124) Tryz.call124 Tryz.func124 rfl 21 rfl rfl [.tmp 4] rfl ?_
  intro w0 F η0 h0
  conv => whnf
  repeat' (first | ((with_reducible refine IF.tt ?_); conv => whnf) | ((with_reducible refine IF.ff ?_); conv => whnf) | (refine GET.at (row := strRow (ps[i]'(by omega))) (by rw [List.getElem?_map, show i + (0 : Int).toNat = i by simp, List.getElem?_eq_getElem (by omega)]; rfl) ?_; conv => whnf) | (refine CALL.looks [4] (tail1_does (ps[i]'(by omega)) least (hp _ (List.getElem_mem (by omega)))) rfl rfl rfl rfl ⟨⟨rfl, rfl, rfl⟩, trivial⟩ ?_; conv => whnf) | ((with_reducible refine NEED.mk ?_ ?_); (first | with_reducible rfl | omega | (simp (disch := omega) only [lnB, wrap64, wrap32] <;> omega) | (intro h; (try simp (disch := omega) only [hsB, hsC, lnB, wrap64, wrap32, Int.reduceBEq, Int.reduceBNe, Int.reduceEq, Int.reduceNe, Int.reduceLT, Int.reduceLE, Int.reduceGT, Int.reduceGE, Int.reduceAdd, Int.reduceSub, Int.reduceMul, Int.reduceNeg, reduceCtorEq] at h); (first | omega | (simp (disch := omega) only [lnB, wrap64, wrap32] <;> omega))) | (exact needApp 256 rfl rfl (by simp) (by simp) (by omega)) | (simp <;> omega)); conv => whnf) | ((with_reducible apply GET.at); (rfl); conv => whnf) | ((with_reducible apply GETG.at); (rfl); conv => whnf) | ((with_reducible refine IF.mk (fun h => ?_) (fun h => ?_)) <;> (try simp (disch := omega) only [hsB, hsC, lnB, wrap64, wrap32, Int.reduceBEq, Int.reduceBNe, Int.reduceEq, Int.reduceNe, Int.reduceLT, Int.reduceLE, Int.reduceGT, Int.reduceGE, Int.reduceAdd, Int.reduceSub, Int.reduceMul, Int.reduceNeg, reduceCtorEq] at h) <;> (try (exfalso; omega)) <;> conv => whnf))
  · refine FIN.valueK h0 rfl (congrArg SV.bool ?_)
    unfold seesM; rw [List.getElem?_eq_getElem (by omega)]; rfl
  · refine FIN.valueK h0 rfl (congrArg SV.bool ?_)
    unfold seesM; rw [List.getElem?_eq_none (by omega)]
theorem next_tag_does (ps : List (List UInt8)) (i m : Nat) (him : i + (m + 1) = ps.length) (p : List UInt8) (hp : ps[i]? = some p) (L E S R : List UInt8) (v x : Nat) (P : List UInt8) :
    Does Tryz.prog tab 128 4 [.ptr (.loc 0) 0 0 0] [(0, rdBox i (m + 1) L E S R v x P)] [(1, .rows 1 (ps.map strRow))] (fun r O nx => r = .str p ∧ O = [(0, rdBox (i + 1) m L E S R v x P)] ∧ nx = 4) := by
  refine Does.enter tabOK (g := 128) (fn := Tryz.f128) Tryz.call128 Tryz.func128 rfl 19 rfl rfl [.tmp 2] rfl ?_
  intro w0 F η0 h0
  conv => whnf
  repeat' (first | ((with_reducible refine IF.tt ?_); conv => whnf) | ((with_reducible refine IF.ff ?_); conv => whnf) | (refine GET.at (row := strRow p) (by rw [List.getElem?_map, show i + (0 : Int).toNat = i by simp, hp]; rfl) ?_; conv => whnf) | ((with_reducible refine NEED.mk ?_ ?_); (first | with_reducible rfl | omega | (simp (disch := omega) only [lnB, wrap64, wrap32] <;> omega) | (intro h; (try simp (disch := omega) only [hsB, hsC, lnB, wrap64, wrap32, Int.reduceBEq, Int.reduceBNe, Int.reduceEq, Int.reduceNe, Int.reduceLT, Int.reduceLE, Int.reduceGT, Int.reduceGE, Int.reduceAdd, Int.reduceSub, Int.reduceMul, Int.reduceNeg, reduceCtorEq] at h); (first | omega | (simp (disch := omega) only [lnB, wrap64, wrap32] <;> omega))) | (exact needApp 256 rfl rfl (by simp) (by simp) (by omega)) | (simp <;> omega)); conv => whnf) | ((with_reducible apply GET.at); (rfl); conv => whnf) | ((with_reducible apply GETG.at); (rfl); conv => whnf) | ((with_reducible refine IF.mk (fun h => ?_) (fun h => ?_)) <;> (try simp (disch := omega) only [hsB, hsC, lnB, wrap64, wrap32, Int.reduceBEq, Int.reduceBNe, Int.reduceEq, Int.reduceNe, Int.reduceLT, Int.reduceLE, Int.reduceGT, Int.reduceGE, Int.reduceAdd, Int.reduceSub, Int.reduceMul, Int.reduceNeg, reduceCtorEq] at h) <;> (try (exfalso; omega)) <;> conv => whnf))
  exact FIN.here h0 (Oc := [(0, rdBox (i + 1) m L E S R v x P)]) rfl rfl rfl ⟨rfl, trivial⟩ ⟨rfl, rfl, rfl⟩
theorem tail_does (least : Int) (ps : List (List UInt8)) (hb : bulkM ps + ps.length ≤ 1152921504606846976) (i m : Nat) (him : i + m = ps.length) (L E S R : List UInt8) (v x : Nat) (P : List UInt8) :
    Does Tryz.prog tab 129 4 [.ptr (.loc 0) 0 0 0, .int .i64 least] [(0, rdBox i m L E S R v x P)] [(1, .rows 1 (ps.map strRow))]
      (fun r O nx => ∃ (n : Nat) (s : List UInt8), n = spanM (fun s => madeM s least 8 false) (ps.drop i) ∧ s.length ≤ bulkM ps + ps.length ∧ r = .tup [.str s, .bool (decide (n ≠ 0))] ∧ O = [(0, rdBox (i + n) (m - n) L E S R v x P)] ∧ nx = 4) := by
  have hsm : ∀ s ∈ ps, Sm s := by
    intro s hs
    obtain ⟨j, hj, rfl⟩ := List.getElem_of_mem hs
    have h1 := sum_le (List.getElem?_eq_getElem hj)
    have h2 := bulk_take ps (j + 1)
    omega
  refine Does.enter tabOK (g := 129) (fn := Tryz.f129) Tryz.call129 Tryz.func129 rfl 18 rfl rfl [.tmp 4, .tmp 5] rfl ?_
  intro w0 F η0 h0
  conv => whnf
  refine LOOP.go tabOK [0, 3] (X := Nat × List UInt8) (fun y => y.1 ≤ m ∧ y.2.length ≤ ((ps.take (i + y.1)).map List.length).sum + (i + y.1) ∧ (y.1 = 0 ↔ y.2 = []) ∧ spanM (fun s => madeM s least 8 false) (ps.drop i) = y.1 + spanM (fun s => madeM s least 8 false) (ps.drop (i + y.1))) (fun y => [(6, .str y.2)]) (fun y => [(0, rdBox (i + y.1) (m - y.1) L E S R v x P), (4, .box [.int .i64 least])]) 5 (fun y => m - y.1) (0, []) ⟨by simp, by simp, by simp, by simp⟩ ?_
  conv => whnf
  refine ⟨by (refine GOES.cutting h0 rfl rfl rfl (by first | rfl | simp [belowO, belowH, plainLL_below, plainLL_map, plainL, plain]) ?_ ?_ <;> (repeat' (first | (with_reducible rfl) | (exact congrArg (fun n => SV.sl _ _ _ n _) (by simp)) | (exact congrArg (Hp.rows _) (by simp)) | (exact congrArg (SV.int _) (by first | omega | (simp (disch := omega) only [lnB, wrap64, wrap32] <;> omega) | (simp; done) | (simp <;> omega))) | ((conv => whnf); refine ⟨?_, ?_⟩) | exact trivial | (simp; done) | rfl))), ?_⟩
  rintro ⟨n, s⟩ ⟨hn, hl, h0s, hspan⟩
  dsimp only at hn hl h0s hspan ⊢
  conv => whnf
  refine CALL.here (seesTail_does least ps hsm (i + n) (m - n) (by omega) L E S R v x P) rfl rfl (by first | rfl | (simp only [belowO, belowH, plainLL_below _ (plainStrs _), Bool.and_self, Bool.and_true] <;> rfl)) (by first | rfl | (simp only [belowO, belowH, plainLL_below _ (plainStrs _), Bool.and_self, Bool.and_true] <;> rfl)) (by repeat' (first | exact trivial | exact rfl | ((conv => whnf); refine ⟨?_, ?_⟩))) (by repeat' (first | exact trivial | exact rfl | ((conv => whnf); refine ⟨?_, ?_⟩))) rfl ?_ ?_
  · rintro r O' nx' ⟨rfl, rfl, rfl⟩; exact ⟨rfl, rfl, rfl⟩
  rintro r O' ⟨rfl, rfl, _⟩
  conv => whnf
  refine ⟨fun h => ?_, fun h => ?_⟩
  · obtain ⟨p, hp, hpm⟩ : ∃ p, ps[i + n]? = some p ∧ madeM p least 8 false = true := by
      unfold seesM at h
      cases hp : ps[i + n]? with
      | none => rw [hp] at h; cases h
      | some p => rw [hp] at h; exact ⟨p, rfl, h⟩
    have hlt := (List.getElem?_eq_some_iff.1 hp).1
    have hs1 := sum_le hp
    have hs2 := bulk_take ps (i + n + 1)
    obtain ⟨k, hk⟩ : ∃ k, m - n = k + 1 := ⟨m - n - 1, by omega⟩
    rw [hk]
    conv => whnf
    refine CALL.here (next_tag_does ps (i + n) k (by omega) p hp L E S R v x P) rfl rfl (by first | rfl | (simp only [belowO, belowH, plainLL_below _ (plainStrs _), Bool.and_self, Bool.and_true] <;> rfl)) (by first | rfl | (simp only [belowO, belowH, plainLL_below _ (plainStrs _), Bool.and_self, Bool.and_true] <;> rfl)) (by repeat' (first | exact trivial | exact rfl | ((conv => whnf); refine ⟨?_, ?_⟩))) (by repeat' (first | exact trivial | exact rfl | ((conv => whnf); refine ⟨?_, ?_⟩))) rfl ?_ ?_
    · rintro r O' nx' ⟨rfl, rfl, rfl⟩; exact ⟨rfl, rfl, rfl⟩
    rintro r O' ⟨rfl, rfl, _⟩
    conv => whnf
    repeat' (first | ((with_reducible refine IF.tt ?_); conv => whnf) | ((with_reducible refine IF.ff ?_); conv => whnf) | ((with_reducible refine NEED.mk ?_ ?_); (first | with_reducible rfl | omega | (simp (disch := omega) only [lnB, wrap64, wrap32] <;> omega) | (intro h; (try simp (disch := omega) only [hsB, hsC, lnB, wrap64, wrap32, Int.reduceBEq, Int.reduceBNe, Int.reduceEq, Int.reduceNe, Int.reduceLT, Int.reduceLE, Int.reduceGT, Int.reduceGE, Int.reduceAdd, Int.reduceSub, Int.reduceMul, Int.reduceNeg, reduceCtorEq] at h); (first | omega | (simp (disch := omega) only [lnB, wrap64, wrap32] <;> omega))) | (exact needApp 256 rfl rfl (by simp) (by simp) (by omega)) | (simp <;> omega)); conv => whnf) | ((with_reducible apply GET.at); (rfl); conv => whnf) | ((with_reducible apply GETG.at); (rfl); conv => whnf) | ((with_reducible refine IF.mk (fun h => ?_) (fun h => ?_)) <;> (try simp (disch := omega) only [hsB, hsC, lnB, wrap64, wrap32, Int.reduceBEq, Int.reduceBNe, Int.reduceEq, Int.reduceNe, Int.reduceLT, Int.reduceLE, Int.reduceGT, Int.reduceGE, Int.reduceAdd, Int.reduceSub, Int.reduceMul, Int.reduceNeg, reduceCtorEq] at h) <;> (try (exfalso; omega)) <;> conv => whnf))
    have hsp : spanM (fun s => madeM s least 8 false) (ps.drop (i + n)) = spanM (fun s => madeM s least 8 false) (ps.drop (i + (n + 1))) + 1 := by
      rw [List.drop_eq_getElem_cons hlt]
      have : ps[i + n] = p := by
        have := List.getElem?_eq_getElem hlt
        rw [hp] at this; injection this with this; exact this.symm
      rw [this]
      simp only [spanM, hpm, if_true]
      rfl
    refine ⟨(n + 1, s ++ ([45] ++ p)), ⟨by simp only; omega, ?_, by simp, by simp only; omega⟩, by simp only; omega, ?_⟩
    · simp only [List.length_append, List.length_cons, List.length_nil]
      rw [show i + (n + 1) = i + n + 1 by omega, hs1]; omega
    · dsimp only
      rw [show i + (n + 1) = i + n + 1 by omega, show m - (n + 1) = k by omega]
      conv => whnf
      (refine GOES.cutting h0 rfl rfl rfl (by first | rfl | simp [belowO, belowH, plainLL_below, plainLL_map, plainL, plain]) ?_ ?_ <;> (repeat' (first | (with_reducible rfl) | (exact congrArg (fun n => SV.sl _ _ _ n _) (by simp)) | (exact congrArg (Hp.rows _) (by simp)) | (exact congrArg (SV.int _) (by first | omega | (simp (disch := omega) only [lnB, wrap64, wrap32] <;> omega) | (simp; done) | (simp <;> omega))) | ((conv => whnf); refine ⟨?_, ?_⟩) | exact trivial | (simp; done) | rfl)))
  · have hsp : spanM (fun s => madeM s least 8 false) (ps.drop (i + n)) = 0 := by
      unfold seesM at h
      cases hp : ps[i + n]? with
      | none => rw [List.drop_eq_nil_of_le (by simpa using hp)]; rfl
      | some p =>
        rw [hp] at h
        have hlt := (List.getElem?_eq_some_iff.1 hp).1
        rw [List.drop_eq_getElem_cons hlt]
        have : ps[i + n] = p := by
          have := List.getElem?_eq_getElem hlt
          rw [hp] at this; injection this with this; exact this.symm
        rw [this]
        simp only [spanM]
        simp only at h
        simp [h]
    have hs2 := bulk_take ps (i + n)
    conv => whnf
    repeat' (first | ((with_reducible refine IF.tt ?_); conv => whnf) | ((with_reducible refine IF.ff ?_); conv => whnf) | ((with_reducible refine NEED.mk ?_ ?_); (first | with_reducible rfl | omega | (simp (disch := omega) only [lnB, wrap64, wrap32] <;> omega) | (intro h; (try simp (disch := omega) only [hsB, hsC, lnB, wrap64, wrap32, Int.reduceBEq, Int.reduceBNe, Int.reduceEq, Int.reduceNe, Int.reduceLT, Int.reduceLE, Int.reduceGT, Int.reduceGE, Int.reduceAdd, Int.reduceSub, Int.reduceMul, Int.reduceNeg, reduceCtorEq] at h); (first | omega | (simp (disch := omega) only [lnB, wrap64, wrap32] <;> omega))) | (exact needApp 256 rfl rfl (by simp) (by simp) (by omega)) | (simp <;> omega)); conv => whnf) | ((with_reducible apply GET.at); (rfl); conv => whnf) | ((with_reducible apply GETG.at); (rfl); conv => whnf) | ((with_reducible refine IF.mk (fun h => ?_) (fun h => ?_)) <;> (try simp (disch := omega) only [hsB, hsC, lnB, wrap64, wrap32, Int.reduceBEq, Int.reduceBNe, Int.reduceEq, Int.reduceNe, Int.reduceLT, Int.reduceLE, Int.reduceGT, Int.reduceGE, Int.reduceAdd, Int.reduceSub, Int.reduceMul, Int.reduceNeg, reduceCtorEq] at h) <;> (try (exfalso; omega)) <;> conv => whnf))
    refine FIN.here h0 (rc := .tup [.str s, .bool (decide (n ≠ 0))]) (Oc := [(0, rdBox (i + n) (m - n) L E S R v x P)]) ?_ rfl rfl ⟨rfl, trivial⟩ ⟨n, s, by omega, by omega, rfl, rfl, rfl⟩
    show SV.tup [SV.str s, SV.bool (s != [])] = SV.tup [SV.str s, SV.bool (decide (n ≠ 0))]
    have : (s != []) = decide (n ≠ 0) := by rw [Bool.eq_iff_iff]; simp [h0s]
    rw [this]
theorem sees_doesA (g : Nat) (p : List UInt8 → Bool) (ps : List (List UInt8)) (hp : ∀ s ∈ ps, Does Tryz.prog tab g 0 [.str s] [] [] (Val (.bool (p s)))) (i m : Nat) (him : i + m = ps.length) (L E S R : List UInt8) (v x : Nat) (P : List UInt8) :
    Does Tryz.prog tab 124 4 [.ptr (.loc 0) 0 0 0, .fn (.func g) [] []] [] [(0, rdBoxA i m L E S R v x P), (1, .rows 1 (ps.map strRow))] (ValK 4 (.bool (seesM p ps i))) := by
  refine Does.enter tabOK (g := 124) (fn := Tryz.f124) Tryz.call124 Tryz.func124 rfl 21 rfl rfl [.tmp 4] rfl ?_
  intro w0 F η0 h0
  conv => whnf
  repeat' (first | ((with_reducible refine IF.tt ?_); conv => whnf) | ((with_reducible refine IF.ff ?_); conv => whnf) | (refine GET.at (row := strRow (ps[i]'(by omega))) (by rw [List.getElem?_map, show i + (0 : Int).toNat = i by simp, List.getElem?_eq_getElem (by omega)]; rfl) ?_; conv => whnf) | (refine CALL.value (hp _ (List.getElem_mem (by omega))) rfl rfl ?_; conv => whnf) | ((with_reducible refine NEED.mk ?_ ?_); (first | with_reducible rfl | omega | (simp (disch := omega) only [lnB, wrap64, wrap32] <;> omega) | (intro h; (try simp (disch := omega) only [hsB, hsC, lnB, wrap64, wrap32, Int.reduceBEq, Int.reduceBNe, Int.reduceEq, Int.reduceNe, Int.reduceLT, Int.reduceLE, Int.reduceGT, Int.reduceGE, Int.reduceAdd, Int.reduceSub, Int.reduceMul, Int.reduceNeg, reduceCtorEq] at h); (first | omega | (simp (disch := omega) only [lnB, wrap64, wrap32] <;> omega))) | (exact needApp 256 rfl rfl (by simp) (by simp) (by omega)) | (simp <;> omega)); conv => whnf) | ((with_reducible apply GET.at); (rfl); conv => whnf) | ((with_reducible apply GETG.at); (rfl); conv => whnf) | ((with_reducible refine IF.mk (fun h => ?_) (fun h => ?_)) <;> (try simp (disch := omega) only [hsB, hsC, lnB, wrap64, wrap32, Int.reduceBEq, Int.reduceBNe, Int.reduceEq, Int.reduceNe, Int.reduceLT, Int.reduceLE, Int.reduceGT, Int.reduceGE, Int.reduceAdd, Int.reduceSub, Int.reduceMul, Int.reduceNeg, reduceCtorEq] at h) <;> (try (exfalso; omega)) <;> conv => whnf))
  · refine FIN.valueK h0 rfl (congrArg SV.bool ?_)
    unfold seesM; rw [List.getElem?_eq_getElem (by omega)]; rfl
  · refine FIN.valueK h0 rfl (congrArg SV.bool ?_)
    unfold seesM; rw [List.getElem?_eq_none (by omega)]
/-- As sees_doesA, for the function that asks for so many bytes. -/
theorem seesTail_doesA (least : Int) (ps : List (List UInt8)) (hp : ∀ s ∈ ps, Sm s) (i m : Nat) (him : i + m = ps.length) (L E S R : List UInt8) (v x : Nat) (P : List UInt8) :
    Does Tryz.prog tab 124 5 [.ptr (.loc 0) 0 0 0, .fn (.func 176) [] [.ptr (.loc 4) 0 0 0]] [] [(0, rdBoxA i m L E S R v x P), (1, .rows 1 (ps.map strRow)), (4, .box [.int .i64 least])] (ValK 5 (.bool (seesM (fun s => madeM s least 8 false) ps i))) := by
  refine Does.enter tabOK (g := 124) (fn := Tryz.f124) Tryz.call124 Tryz.func124 rfl 21 rfl rfl [.tmp 4] rfl ?_
  intro w0 F η0 h0
  conv => whnf
  repeat' (first | ((with_reducible refine IF.tt ?_); conv => whnf) | ((with_reducible refine IF.ff ?_); conv => whnf) | (refine GET.at (row := strRow (ps[i]'(by omega))) (by rw [List.getElem?_map, show i + (0 : Int).toNat = i by simp, List.getElem?_eq_getElem (by omega)]; rfl) ?_; conv => whnf) | (refine CALL.looks [4] (tail1_does (ps[i]'(by omega)) least (hp _ (List.getElem_mem (by omega)))) rfl rfl rfl rfl ⟨⟨rfl, rfl, rfl⟩, trivial⟩ ?_; conv => whnf) | ((with_reducible refine NEED.mk ?_ ?_); (first | with_reducible rfl | omega | (simp (disch := omega) only [lnB, wrap64, wrap32] <;> omega) | (intro h; (try simp (disch := omega) only [hsB, hsC, lnB, wrap64, wrap32, Int.reduceBEq, Int.reduceBNe, Int.reduceEq, Int.reduceNe, Int.reduceLT, Int.reduceLE, Int.reduceGT, Int.reduceGE, Int.reduceAdd, Int.reduceSub, Int.reduceMul, Int.reduceNeg, reduceCtorEq] at h); (first | omega | (simp (disch := omega) only [lnB, wrap64, wrap32] <;> omega))) | (exact needApp 256 rfl rfl (by simp) (by simp) (by omega)) | (simp <;> omega)); conv => whnf) | ((with_reducible apply GET.at); (rfl); conv => whnf) | ((with_reducible apply GETG.at); (rfl); conv => whnf) | ((with_reducible refine IF.mk (fun h => ?_) (fun h => ?_)) <;> (try simp (disch := omega) only [hsB, hsC, lnB, wrap64, wrap32, Int.reduceBEq, Int.reduceBNe, Int.reduceEq, Int.reduceNe, Int.reduceLT, Int.reduceLE, Int.reduceGT, Int.reduceGE, Int.reduceAdd, Int.reduceSub, Int.reduceMul, Int.reduceNeg, reduceCtorEq] at h) <;> (try (exfalso; omega)) <;> conv => whnf))
  · refine FIN.valueK h0 rfl (congrArg SV.bool ?_)
    unfold seesM; rw [List.getElem?_eq_getElem (by omega)]; rfl
  · refine FIN.valueK h0 rfl (congrArg SV.bool ?_)
    unfold seesM; rw [List.getElem?_eq_none (by omega)]
theorem next_tag_doesA (ps : List (List UInt8)) (i m : Nat) (him : i + (m + 1) = ps.length) (p : List UInt8) (hp : ps[i]? = some p) (L E S R : List UInt8) (v x : Nat) (P : List UInt8) :
    Does Tryz.prog tab 128 4 [.ptr (.loc 0) 0 0 0] [(0, rdBoxA i (m + 1) L E S R v x P)] [(1, .rows 1 (ps.map strRow))] (fun r O nx => r = .str p ∧ O = [(0, rdBoxA (i + 1) m L E S R v x P)] ∧ nx = 4) := by
  refine Does.enter tabOK (g := 128) (fn := Tryz.f128) Tryz.call128 Tryz.func128 rfl 19 rfl rfl [.tmp 2] rfl ?_
  intro w0 F η0 h0
  conv => whnf
  repeat' (first | ((with_reducible refine IF.tt ?_); conv => whnf) | ((with_reducible refine IF.ff ?_); conv => whnf) | (refine GET.at (row := strRow p) (by rw [List.getElem?_map, show i + (0 : Int).toNat = i by simp, hp]; rfl) ?_; conv => whnf) | ((with_reducible refine NEED.mk ?_ ?_); (first | with_reducible rfl | omega | (simp (disch := omega) only [lnB, wrap64, wrap32] <;> omega) | (intro h; (try simp (disch := omega) only [hsB, hsC, lnB, wrap64, wrap32, Int.reduceBEq, Int.reduceBNe, Int.reduceEq, Int.reduceNe, Int.reduceLT, Int.reduceLE, Int.reduceGT, Int.reduceGE, Int.reduceAdd, Int.reduceSub, Int.reduceMul, Int.reduceNeg, reduceCtorEq] at h); (first | omega | (simp (disch := omega) only [lnB, wrap64, wrap32] <;> omega))) | (exact needApp 256 rfl rfl (by simp) (by simp) (by omega)) | (simp <;> omega)); conv => whnf) | ((with_reducible apply GET.at); (rfl); conv => whnf) | ((with_reducible apply GETG.at); (rfl); conv => whnf) | ((with_reducible refine IF.mk (fun h => ?_) (fun h => ?_)) <;> (try simp (disch := omega) only [hsB, hsC, lnB, wrap64, wrap32, Int.reduceBEq, Int.reduceBNe, Int.reduceEq, Int.reduceNe, Int.reduceLT, Int.reduceLE, Int.reduceGT, Int.reduceGE, Int.reduceAdd, Int.reduceSub, Int.reduceMul, Int.reduceNeg, reduceCtorEq] at h) <;> (try (exfalso; omega)) <;> conv => whnf))
  exact FIN.here h0 (Oc := [(0, rdBoxA (i + 1) m L E S R v x P)]) rfl rfl rfl ⟨rfl, trivial⟩ ⟨rfl, rfl, rfl⟩
theorem tail_doesA (least : Int) (ps : List (List UInt8)) (hb : bulkM ps + ps.length ≤ 1152921504606846976) (i m : Nat) (him : i + m = ps.length) (L E S R : List UInt8) (v x : Nat) (P : List UInt8) :
    Does Tryz.prog tab 129 4 [.ptr (.loc 0) 0 0 0, .int .i64 least] [(0, rdBoxA i m L E S R v x P)] [(1, .rows 1 (ps.map strRow))]
      (fun r O nx => ∃ (n : Nat) (s : List UInt8), n = spanM (fun s => madeM s least 8 false) (ps.drop i) ∧ s.length ≤ bulkM ps + ps.length ∧ r = .tup [.str s, .bool (decide (n ≠ 0))] ∧ O = [(0, rdBoxA (i + n) (m - n) L E S R v x P)] ∧ nx = 4) := by
  have hsm : ∀ s ∈ ps, Sm s := by
    intro s hs
    obtain ⟨j, hj, rfl⟩ := List.getElem_of_mem hs
    have h1 := sum_le (List.getElem?_eq_getElem hj)
    have h2 := bulk_take ps (j + 1)
    omega
  refine Does.enter tabOK (g := 129) (fn := Tryz.f129) Tryz.call129 Tryz.func129 rfl 18 rfl rfl [.tmp 4, .tmp 5] rfl ?_
  intro w0 F η0 h0
  conv => whnf
  refine LOOP.go tabOK [0, 3] (X := Nat × List UInt8) (fun y => y.1 ≤ m ∧ y.2.length ≤ ((ps.take (i + y.1)).map List.length).sum + (i + y.1) ∧ (y.1 = 0 ↔ y.2 = []) ∧ spanM (fun s => madeM s least 8 false) (ps.drop i) = y.1 + spanM (fun s => madeM s least 8 false) (ps.drop (i + y.1))) (fun y => [(6, .str y.2)]) (fun y => [(0, rdBoxA (i + y.1) (m - y.1) L E S R v x P), (4, .box [.int .i64 least])]) 5 (fun y => m - y.1) (0, []) ⟨by simp, by simp, by simp, by simp⟩ ?_
  conv => whnf
  refine ⟨by (refine GOES.cutting h0 rfl rfl rfl (by first | rfl | simp [belowO, belowH, plainLL_below, plainLL_map, plainL, plain]) ?_ ?_ <;> (repeat' (first | (with_reducible rfl) | (exact congrArg (fun n => SV.sl _ _ _ n _) (by simp)) | (exact congrArg (Hp.rows _) (by simp)) | (exact congrArg (SV.int _) (by first | omega | (simp (disch := omega) only [lnB, wrap64, wrap32] <;> omega) | (simp; done) | (simp <;> omega))) | ((conv => whnf); refine ⟨?_, ?_⟩) | exact trivial | (simp; done) | rfl))), ?_⟩
  rintro ⟨n, s⟩ ⟨hn, hl, h0s, hspan⟩
  dsimp only at hn hl h0s hspan ⊢
  conv => whnf
  refine CALL.here (seesTail_doesA least ps hsm (i + n) (m - n) (by omega) L E S R v x P) rfl rfl (by first | rfl | (simp only [belowO, belowH, plainLL_below _ (plainStrs _), Bool.and_self, Bool.and_true] <;> rfl)) (by first | rfl | (simp only [belowO, belowH, plainLL_below _ (plainStrs _), Bool.and_self, Bool.and_true] <;> rfl)) (by repeat' (first | exact trivial | exact rfl | ((conv => whnf); refine ⟨?_, ?_⟩))) (by repeat' (first | exact trivial | exact rfl | ((conv => whnf); refine ⟨?_, ?_⟩))) rfl ?_ ?_
  · rintro r O' nx' ⟨rfl, rfl, rfl⟩; exact ⟨rfl, rfl, rfl⟩
  rintro r O' ⟨rfl, rfl, _⟩
  conv => whnf
  refine ⟨fun h => ?_, fun h => ?_⟩
  · obtain ⟨p, hp, hpm⟩ : ∃ p, ps[i + n]? = some p ∧ madeM p least 8 false = true := by
      unfold seesM at h
      cases hp : ps[i + n]? with
      | none => rw [hp] at h; cases h
      | some p => rw [hp] at h; exact ⟨p, rfl, h⟩
    have hlt := (List.getElem?_eq_some_iff.1 hp).1
    have hs1 := sum_le hp
    have hs2 := bulk_take ps (i + n + 1)
    obtain ⟨k, hk⟩ : ∃ k, m - n = k + 1 := ⟨m - n - 1, by omega⟩
    rw [hk]
    conv => whnf
    refine CALL.here (next_tag_doesA ps (i + n) k (by omega) p hp L E S R v x P) rfl rfl (by first | rfl | (simp only [belowO, belowH, plainLL_below _ (plainStrs _), Bool.and_self, Bool.and_true] <;> rfl)) (by first | rfl | (simp only [belowO, belowH, plainLL_below _ (plainStrs _), Bool.and_self, Bool.and_true] <;> rfl)) (by repeat' (first | exact trivial | exact rfl | ((conv => whnf); refine ⟨?_, ?_⟩))) (by repeat' (first | exact trivial | exact rfl | ((conv => whnf); refine ⟨?_, ?_⟩))) rfl ?_ ?_
    · rintro r O' nx' ⟨rfl, rfl, rfl⟩; exact ⟨rfl, rfl, rfl⟩
    rintro r O' ⟨rfl, rfl, _⟩
    conv => whnf
    repeat' (first | ((with_reducible refine IF.tt ?_); conv => whnf) | ((with_reducible refine IF.ff ?_); conv => whnf) | ((with_reducible refine NEED.mk ?_ ?_); (first | with_reducible rfl | omega | (simp (disch := omega) only [lnB, wrap64, wrap32] <;> omega) | (intro h; (try simp (disch := omega) only [hsB, hsC, lnB, wrap64, wrap32, Int.reduceBEq, Int.reduceBNe, Int.reduceEq, Int.reduceNe, Int.reduceLT, Int.reduceLE, Int.reduceGT, Int.reduceGE, Int.reduceAdd, Int.reduceSub, Int.reduceMul, Int.reduceNeg, reduceCtorEq] at h); (first | omega | (simp (disch := omega) only [lnB, wrap64, wrap32] <;> omega))) | (exact needApp 256 rfl rfl (by simp) (by simp) (by omega)) | (simp <;> omega)); conv => whnf) | ((with_reducible apply GET.at); (rfl); conv => whnf) | ((with_reducible apply GETG.at); (rfl); conv => whnf) | ((with_reducible refine IF.mk (fun h => ?_) (fun h => ?_)) <;> (try simp (disch := omega) only [hsB, hsC, lnB, wrap64, wrap32, Int.reduceBEq, Int.reduceBNe, Int.reduceEq, Int.reduceNe, Int.reduceLT, Int.reduceLE, Int.reduceGT, Int.reduceGE, Int.reduceAdd, Int.reduceSub, Int.reduceMul, Int.reduceNeg, reduceCtorEq] at h) <;> (try (exfalso; omega)) <;> conv => whnf))
    have hsp : spanM (fun s => madeM s least 8 false) (ps.drop (i + n)) = spanM (fun s => madeM s least 8 false) (ps.drop (i + (n + 1))) + 1 := by
      rw [List.drop_eq_getElem_cons hlt]
      have : ps[i + n] = p := by
        have := List.getElem?_eq_getElem hlt
        rw [hp] at this; injection this with this; exact this.symm
      rw [this]
      simp only [spanM, hpm, if_true]
      rfl
    refine ⟨(n + 1, s ++ ([45] ++ p)), ⟨by simp only; omega, ?_, by simp, by simp only; omega⟩, by simp only; omega, ?_⟩
    · simp only [List.length_append, List.length_cons, List.length_nil]
      rw [show i + (n + 1) = i + n + 1 by omega, hs1]; omega
    · dsimp only
      rw [show i + (n + 1) = i + n + 1 by omega, show m - (n + 1) = k by omega]
      conv => whnf
      (refine GOES.cutting h0 rfl rfl rfl (by first | rfl | simp [belowO, belowH, plainLL_below, plainLL_map, plainL, plain]) ?_ ?_ <;> (repeat' (first | (with_reducible rfl) | (exact congrArg (fun n => SV.sl _ _ _ n _) (by simp)) | (exact congrArg (Hp.rows _) (by simp)) | (exact congrArg (SV.int _) (by first | omega | (simp (disch := omega) only [lnB, wrap64, wrap32] <;> omega) | (simp; done) | (simp <;> omega))) | ((conv => whnf); refine ⟨?_, ?_⟩) | exact trivial | (simp; done) | rfl)))
  · have hsp : spanM (fun s => madeM s least 8 false) (ps.drop (i + n)) = 0 := by
      unfold seesM at h
      cases hp : ps[i + n]? with
      | none => rw [List.drop_eq_nil_of_le (by simpa using hp)]; rfl
      | some p =>
        rw [hp] at h
        have hlt := (List.getElem?_eq_some_iff.1 hp).1
        rw [List.drop_eq_getElem_cons hlt]
        have : ps[i + n] = p := by
          have := List.getElem?_eq_getElem hlt
          rw [hp] at this; injection this with this; exact this.symm
        rw [this]
        simp only [spanM]
        simp only at h
        simp [h]
    have hs2 := bulk_take ps (i + n)
    conv => whnf
    repeat' (first | ((with_reducible refine IF.tt ?_); conv => whnf) | ((with_reducible refine IF.ff ?_); conv => whnf) | ((with_reducible refine NEED.mk ?_ ?_); (first | with_reducible rfl | omega | (simp (disch := omega) only [lnB, wrap64, wrap32] <;> omega) | (intro h; (try simp (disch := omega) only [hsB, hsC, lnB, wrap64, wrap32, Int.reduceBEq, Int.reduceBNe, Int.reduceEq, Int.reduceNe, Int.reduceLT, Int.reduceLE, Int.reduceGT, Int.reduceGE, Int.reduceAdd, Int.reduceSub, Int.reduceMul, Int.reduceNeg, reduceCtorEq] at h); (first | omega | (simp (disch := omega) only [lnB, wrap64, wrap32] <;> omega))) | (exact needApp 256 rfl rfl (by simp) (by simp) (by omega)) | (simp <;> omega)); conv => whnf) | ((with_reducible apply GET.at); (rfl); conv => whnf) | ((with_reducible apply GETG.at); (rfl); conv => whnf) | ((with_reducible refine IF.mk (fun h => ?_) (fun h => ?_)) <;> (try simp (disch := omega) only [hsB, hsC, lnB, wrap64, wrap32, Int.reduceBEq, Int.reduceBNe, Int.reduceEq, Int.reduceNe, Int.reduceLT, Int.reduceLE, Int.reduceGT, Int.reduceGE, Int.reduceAdd, Int.reduceSub, Int.reduceMul, Int.reduceNeg, reduceCtorEq] at h) <;> (try (exfalso; omega)) <;> conv => whnf))
    refine FIN.here h0 (rc := .tup [.str s, .bool (decide (n ≠ 0))]) (Oc := [(0, rdBoxA (i + n) (m - n) L E S R v x P)]) ?_ rfl rfl ⟨rfl, trivial⟩ ⟨n, s, by omega, by omega, rfl, rfl, rfl⟩
    show SV.tup [SV.str s, SV.bool (s != [])] = SV.tup [SV.str s, SV.bool (decide (n ≠ 0))]
    have : (s != []) = decide (n ≠ 0) := by rw [Bool.eq_iff_iff]; simp [h0s]
    rw [this]
theorem sees_doesC (g : Nat) (p : List UInt8 → Bool) (ps : List (List UInt8)) (hp : ∀ s ∈ ps, Does Tryz.prog tab g 0 [.str s] [] [] (Val (.bool (p s)))) (i m : Nat) (him : i + m = ps.length) (L E S R : List UInt8) (v x : Nat) (P : List UInt8) :
    Does Tryz.prog tab 124 7 [.ptr (.loc 0) 0 0 0, .fn (.func g) [] []] [] [(0, rdBoxC i m L E S R v x P), (1, .rows 1 (ps.map strRow))] (ValK 7 (.bool (seesM p ps i))) := by
  refine Does.enter tabOK (g := 124) (fn := Tryz.f124) Tryz.call124 Tryz.func124 rfl 21 rfl rfl [.tmp 4] rfl ?_
  intro w0 F η0 h0
  conv => whnf
  repeat' (first | ((with_reducible refine IF.tt ?_); conv => whnf) | ((with_reducible refine IF.ff ?_); conv => whnf) | (refine GET.at (row := strRow (ps[i]'(by omega))) (by rw [List.getElem?_map, show i + (0 : Int).toNat = i by simp, List.getElem?_eq_getElem (by omega)]; rfl) ?_; conv => whnf) | (refine CALL.value (hp _ (List.getElem_mem (by omega))) rfl rfl ?_; conv => whnf) | ((with_reducible refine NEED.mk ?_ ?_); (first | with_reducible rfl | omega | (simp (disch := omega) only [lnB, wrap64, wrap32] <;> omega) | (intro h; (try simp (disch := omega) only [hsB, hsC, lnB, wrap64, wrap32, Int.reduceBEq, Int.reduceBNe, Int.reduceEq, Int.reduceNe, Int.reduceLT, Int.reduceLE, Int.reduceGT, Int.reduceGE, Int.reduceAdd, Int.reduceSub, Int.reduceMul, Int.reduceNeg, reduceCtorEq] at h); (first | omega | (simp (disch := omega) only [lnB, wrap64, wrap32] <;> omega))) | (exact needApp 256 rfl rfl (by simp) (by simp) (by omega)) | (simp <;> omega)); conv => whnf) | ((with_reducible apply GET.at); (rfl); conv => whnf) | ((with_reducible apply GETG.at); (rfl); conv => whnf) | ((with_reducible refine IF.mk (fun h => ?_) (fun h => ?_)) <;> (try simp (disch := omega) only [hsB, hsC, lnB, wrap64, wrap32, Int.reduceBEq, Int.reduceBNe, Int.reduceEq, Int.reduceNe, Int.reduceLT, Int.reduceLE, Int.reduceGT, Int.reduceGE, Int.reduceAdd, Int.reduceSub, Int.reduceMul, Int.reduceNeg, reduceCtorEq] at h) <;> (try (exfalso; omega)) <;> conv => whnf))
  · refine FIN.valueK h0 rfl (congrArg SV.bool ?_)
    unfold seesM; rw [List.getElem?_eq_getElem (by omega)]; rfl
  · refine FIN.valueK h0 rfl (congrArg SV.bool ?_)
    unfold seesM; rw [List.getElem?_eq_none (by omega)]
/-- As sees_doesC, for the function that asks for so many bytes. -/
theorem seesTail_doesC (least : Int) (ps : List (List UInt8)) (hp : ∀ s ∈ ps, Sm s) (i m : Nat) (him : i + m = ps.length) (L E S R : List UInt8) (v x : Nat) (P : List UInt8) :
    Does Tryz.prog tab 124 8 [.ptr (.loc 0) 0 0 0, .fn (.func 176) [] [.ptr (.loc 7) 0 0 0]] [] [(0, rdBoxC i m L E S R v x P), (1, .rows 1 (ps.map strRow)), (7, .box [.int .i64 least])] (ValK 8 (.bool (seesM (fun s => madeM s least 8 false) ps i))) := by
  refine Does.enter tabOK (g := 124) (fn := Tryz.f124) Tryz.call124 Tryz.func124 rfl 21 rfl rfl [.tmp 4] rfl ?_
  intro w0 F η0 h0
  conv => whnf
  repeat' (first | ((with_reducible refine IF.tt ?_); conv => whnf) | ((with_reducible refine IF.ff ?_); conv => whnf) | (refine GET.at (row := strRow (ps[i]'(by omega))) (by rw [List.getElem?_map, show i + (0 : Int).toNat = i by simp, List.getElem?_eq_getElem (by omega)]; rfl) ?_; conv => whnf) | (refine CALL.looks [7] (tail1_does (ps[i]'(by omega)) least (hp _ (List.getElem_mem (by omega)))) rfl rfl rfl rfl ⟨⟨rfl, rfl, rfl⟩, trivial⟩ ?_; conv => whnf) | ((with_reducible refine NEED.mk ?_ ?_); (first | with_reducible rfl | omega | (simp (disch := omega) only [lnB, wrap64, wrap32] <;> omega) | (intro h; (try simp (disch := omega) only [hsB, hsC, lnB, wrap64, wrap32, Int.reduceBEq, Int.reduceBNe, Int.reduceEq, Int.reduceNe, Int.reduceLT, Int.reduceLE, Int.reduceGT, Int.reduceGE, Int.reduceAdd, Int.reduceSub, Int.reduceMul, Int.reduceNeg, reduceCtorEq] at h); (first | omega | (simp (disch := omega) only [lnB, wrap64, wrap32] <;> omega))) | (exact needApp 256 rfl rfl (by simp) (by simp) (by omega)) | (simp <;> omega)); conv => whnf) | ((with_reducible apply GET.at); (rfl); conv => whnf) | ((with_reducible apply GETG.at); (rfl); conv => whnf) | ((with_reducible refine IF.mk (fun h => ?_) (fun h => ?_)) <;> (try simp (disch := omega) only [hsB, hsC, lnB, wrap64, wrap32, Int.reduceBEq, Int.reduceBNe, Int.reduceEq, Int.reduceNe, Int.reduceLT, Int.reduceLE, Int.reduceGT, Int.reduceGE, Int.reduceAdd, Int.reduceSub, Int.reduceMul, Int.reduceNeg, reduceCtorEq] at h) <;> (try (exfalso; omega)) <;> conv => whnf))
  · refine FIN.valueK h0 rfl (congrArg SV.bool ?_)
    unfold seesM; rw [List.getElem?_eq_getElem (by omega)]; rfl
  · refine FIN.valueK h0 rfl (congrArg SV.bool ?_)
    unfold seesM; rw [List.getElem?_eq_none (by omega)]
theorem next_tag_doesC (ps : List (List UInt8)) (i m : Nat) (him : i + (m + 1) = ps.length) (p : List UInt8) (hp : ps[i]? = some p) (L E S R : List UInt8) (v x : Nat) (P : List UInt8) :
    Does Tryz.prog tab 128 7 [.ptr (.loc 0) 0 0 0] [(0, rdBoxC i (m + 1) L E S R v x P)] [(1, .rows 1 (ps.map strRow))] (fun r O nx => r = .str p ∧ O = [(0, rdBoxC (i + 1) m L E S R v x P)] ∧ nx = 7) := by
  refine Does.enter tabOK (g := 128) (fn := Tryz.f128) Tryz.call128 Tryz.func128 rfl 19 rfl rfl [.tmp 2] rfl ?_
  intro w0 F η0 h0
  conv => whnf
  repeat' (first | ((with_reducible refine IF.tt ?_); conv => whnf) | ((with_reducible refine IF.ff ?_); conv => whnf) | (refine GET.at (row := strRow p) (by rw [List.getElem?_map, show i + (0 : Int).toNat = i by simp, hp]; rfl) ?_; conv => whnf) | ((with_reducible refine NEED.mk ?_ ?_); (first | with_reducible rfl | omega | (simp (disch := omega) only [lnB, wrap64, wrap32] <;> omega) | (intro h; (try simp (disch := omega) only [hsB, hsC, lnB, wrap64, wrap32, Int.reduceBEq, Int.reduceBNe, Int.reduceEq, Int.reduceNe, Int.reduceLT, Int.reduceLE, Int.reduceGT, Int.reduceGE, Int.reduceAdd, Int.reduceSub, Int.reduceMul, Int.reduceNeg, reduceCtorEq] at h); (first | omega | (simp (disch := omega) only [lnB, wrap64, wrap32] <;> omega))) | (exact needApp 256 rfl rfl (by simp) (by simp) (by omega)) | (simp <;> omega)); conv => whnf) | ((with_reducible apply GET.at); (rfl); conv => whnf) | ((with_reducible apply GETG.at); (rfl); conv => whnf) | ((with_reducible refine IF.mk (fun h => ?_) (fun h => ?_)) <;> (try simp (disch := omega) only [hsB, hsC, lnB, wrap64, wrap32, Int.reduceBEq, Int.reduceBNe, Int.reduceEq, Int.reduceNe, Int.reduceLT, Int.reduceLE, Int.reduceGT, Int.reduceGE, Int.reduceAdd, Int.reduceSub, Int.reduceMul, Int.reduceNeg, reduceCtorEq] at h) <;> (try (exfalso; omega)) <;> conv => whnf))
  exact FIN.here h0 (Oc := [(0, rdBoxC (i + 1) m L E S R v x P)]) rfl rfl rfl ⟨rfl, trivial⟩ ⟨rfl, rfl, rfl⟩
theorem tail_doesC (least : Int) (ps : List (List UInt8)) (hb : bulkM ps + ps.length ≤ 1152921504606846976) (i m : Nat) (him : i + m = ps.length) (L E S R : List UInt8) (v x : Nat) (P : List UInt8) :
    Does Tryz.prog tab 129 7 [.ptr (.loc 0) 0 0 0, .int .i64 least] [(0, rdBoxC i m L E S R v x P)] [(1, .rows 1 (ps.map strRow))]
      (fun r O nx => ∃ (n : Nat) (s : List UInt8), n = spanM (fun s => madeM s least 8 false) (ps.drop i) ∧ s.length ≤ bulkM ps + ps.length ∧ r = .tup [.str s, .bool (decide (n ≠ 0))] ∧ O = [(0, rdBoxC (i + n) (m - n) L E S R v x P)] ∧ nx = 7) := by
  have hsm : ∀ s ∈ ps, Sm s := by
    intro s hs
    obtain ⟨j, hj, rfl⟩ := List.getElem_of_mem hs
    have h1 := sum_le (List.getElem?_eq_getElem hj)
    have h2 := bulk_take ps (j + 1)
    omega
  refine Does.enter tabOK (g := 129) (fn := Tryz.f129) Tryz.call129 Tryz.func129 rfl 18 rfl rfl [.tmp 4, .tmp 5] rfl ?_
  intro w0 F η0 h0
  conv => whnf
  refine LOOP.go tabOK [0, 3] (X := Nat × List UInt8) (fun y => y.1 ≤ m ∧ y.2.length ≤ ((ps.take (i + y.1)).map List.length).sum + (i + y.1) ∧ (y.1 = 0 ↔ y.2 = []) ∧ spanM (fun s => madeM s least 8 false) (ps.drop i) = y.1 + spanM (fun s => madeM s least 8 false) (ps.drop (i + y.1))) (fun y => [(6, .str y.2)]) (fun y => [(0, rdBoxC (i + y.1) (m - y.1) L E S R v x P), (7, .box [.int .i64 least])]) 8 (fun y => m - y.1) (0, []) ⟨by simp, by simp, by simp, by simp⟩ ?_
  conv => whnf
  refine ⟨by (refine GOES.cutting h0 rfl rfl rfl (by first | rfl | simp [belowO, belowH, plainLL_below, plainLL_map, plainL, plain]) ?_ ?_ <;> (repeat' (first | (with_reducible rfl) | (exact congrArg (fun n => SV.sl _ _ _ n _) (by simp)) | (exact congrArg (Hp.rows _) (by simp)) | (exact congrArg (SV.int _) (by first | omega | (simp (disch := omega) only [lnB, wrap64, wrap32] <;> omega) | (simp; done) | (simp <;> omega))) | ((conv => whnf); refine ⟨?_, ?_⟩) | exact trivial | (simp; done) | rfl))), ?_⟩
  rintro ⟨n, s⟩ ⟨hn, hl, h0s, hspan⟩
  dsimp only at hn hl h0s hspan ⊢
  conv => whnf
  refine CALL.here (seesTail_doesC least ps hsm (i + n) (m - n) (by omega) L E S R v x P) rfl rfl (by first | rfl | (simp only [belowO, belowH, plainLL_below _ (plainStrs _), Bool.and_self, Bool.and_true] <;> rfl)) (by first | rfl | (simp only [belowO, belowH, plainLL_below _ (plainStrs _), Bool.and_self, Bool.and_true] <;> rfl)) (by repeat' (first | exact trivial | exact rfl | ((conv => whnf); refine ⟨?_, ?_⟩))) (by repeat' (first | exact trivial | exact rfl | ((conv => whnf); refine ⟨?_, ?_⟩))) rfl ?_ ?_
  · rintro r O' nx' ⟨rfl, rfl, rfl⟩; exact ⟨rfl, rfl, rfl⟩
  rintro r O' ⟨rfl, rfl, _⟩
  conv => whnf
  refine ⟨fun h => ?_, fun h => ?_⟩
  · obtain ⟨p, hp, hpm⟩ : ∃ p, ps[i + n]? = some p ∧ madeM p least 8 false = true := by
      unfold seesM at h
      cases hp : ps[i + n]? with
      | none => rw [hp] at h; cases h
      | some p => rw [hp] at h; exact ⟨p, rfl, h⟩
    have hlt := (List.getElem?_eq_some_iff.1 hp).1
    have hs1 := sum_le hp
    have hs2 := bulk_take ps (i + n + 1)
    obtain ⟨k, hk⟩ : ∃ k, m - n = k + 1 := ⟨m - n - 1, by omega⟩
    rw [hk]
    conv => whnf
    refine CALL.here (next_tag_doesC ps (i + n) k (by omega) p hp L E S R v x P) rfl rfl (by first | rfl | (simp only [belowO, belowH, plainLL_below _ (plainStrs _), Bool.and_self, Bool.and_true] <;> rfl)) (by first | rfl | (simp only [belowO, belowH, plainLL_below _ (plainStrs _), Bool.and_self, Bool.and_true] <;> rfl)) (by repeat' (first | exact trivial | exact rfl | ((conv => whnf); refine ⟨?_, ?_⟩))) (by repeat' (first | exact trivial | exact rfl | ((conv => whnf); refine ⟨?_, ?_⟩))) rfl ?_ ?_
    · rintro r O' nx' ⟨rfl, rfl, rfl⟩; exact ⟨rfl, rfl, rfl⟩
    rintro r O' ⟨rfl, rfl, _⟩
    conv => whnf
    repeat' (first | ((with_reducible refine IF.tt ?_); conv => whnf) | ((with_reducible refine IF.ff ?_); conv => whnf) | ((with_reducible refine NEED.mk ?_ ?_); (first | with_reducible rfl | omega | (simp (disch := omega) only [lnB, wrap64, wrap32] <;> omega) | (intro h; (try simp (disch := omega) only [hsB, hsC, lnB, wrap64, wrap32, Int.reduceBEq, Int.reduceBNe, Int.reduceEq, Int.reduceNe, Int.reduceLT, Int.reduceLE, Int.reduceGT, Int.reduceGE, Int.reduceAdd, Int.reduceSub, Int.reduceMul, Int.reduceNeg, reduceCtorEq] at h); (first | omega | (simp (disch := omega) only [lnB, wrap64, wrap32] <;> omega))) | (exact needApp 256 rfl rfl (by simp) (by simp) (by omega)) | (simp <;> omega)); conv => whnf) | ((with_reducible apply GET.at); (rfl); conv => whnf) | ((with_reducible apply GETG.at); (rfl); conv => whnf) | ((with_reducible refine IF.mk (fun h => ?_) (fun h => ?_)) <;> (try simp (disch := omega) only [hsB, hsC, lnB, wrap64, wrap32, Int.reduceBEq, Int.reduceBNe, Int.reduceEq, Int.reduceNe, Int.reduceLT, Int.reduceLE, Int.reduceGT, Int.reduceGE, Int.reduceAdd, Int.reduceSub, Int.reduceMul, Int.reduceNeg, reduceCtorEq] at h) <;> (try (exfalso; omega)) <;> conv => whnf))
    have hsp : spanM (fun s => madeM s least 8 false) (ps.drop (i + n)) = spanM (fun s => madeM s least 8 false) (ps.drop (i + (n + 1))) + 1 := by
      rw [List.drop_eq_getElem_cons hlt]
      have : ps[i + n] = p := by
        have := List.getElem?_eq_getElem hlt
        rw [hp] at this; injection this with this; exact this.symm
      rw [this]
      simp only [spanM, hpm, if_true]
      rfl
    refine ⟨(n + 1, s ++ ([45] ++ p)), ⟨by simp only; omega, ?_, by simp, by simp only; omega⟩, by simp only; omega, ?_⟩
    · simp only [List.length_append, List.length_cons, List.length_nil]
      rw [show i + (n + 1) = i + n + 1 by omega, hs1]; omega
    · dsimp only
      rw [show i + (n + 1) = i + n + 1 by omega, show m - (n + 1) = k by omega]
      conv => whnf
      (refine GOES.cutting h0 rfl rfl rfl (by first | rfl | simp [belowO, belowH, plainLL_below, plainLL_map, plainL, plain]) ?_ ?_ <;> (repeat' (first | (with_reducible rfl) | (exact congrArg (fun n => SV.sl _ _ _ n _) (by simp)) | (exact congrArg (Hp.rows _) (by simp)) | (exact congrArg (SV.int _) (by first | omega | (simp (disch := omega) only [lnB, wrap64, wrap32] <;> omega) | (simp; done) | (simp <;> omega))) | ((conv => whnf); refine ⟨?_, ?_⟩) | exact trivial | (simp; done) | rfl)))
  · have hsp : spanM (fun s => madeM s least 8 false) (ps.drop (i + n)) = 0 := by
      unfold seesM at h
      cases hp : ps[i + n]? with
      | none => rw [List.drop_eq_nil_of_le (by simpa using hp)]; rfl
      | some p =>
        rw [hp] at h
        have hlt := (List.getElem?_eq_some_iff.1 hp).1
        rw [List.drop_eq_getElem_cons hlt]
        have : ps[i + n] = p := by
          have := List.getElem?_eq_getElem hlt
          rw [hp] at this; injection this with this; exact this.symm
        rw [this]
        simp only [spanM]
        simp only at h
        simp [h]
    have hs2 := bulk_take ps (i + n)
    conv => whnf
    repeat' (first | ((with_reducible refine IF.tt ?_); conv => whnf) | ((with_reducible refine IF.ff ?_); conv => whnf) | ((with_reducible refine NEED.mk ?_ ?_); (first | with_reducible rfl | omega | (simp (disch := omega) only [lnB, wrap64, wrap32] <;> omega) | (intro h; (try simp (disch := omega) only [hsB, hsC, lnB, wrap64, wrap32, Int.reduceBEq, Int.reduceBNe, Int.reduceEq, Int.reduceNe, Int.reduceLT, Int.reduceLE, Int.reduceGT, Int.reduceGE, Int.reduceAdd, Int.reduceSub, Int.reduceMul, Int.reduceNeg, reduceCtorEq] at h); (first | omega | (simp (disch := omega) only [lnB, wrap64, wrap32] <;> omega))) | (exact needApp 256 rfl rfl (by simp) (by simp) (by omega)) | (simp <;> omega)); conv => whnf) | ((with_reducible apply GET.at); (rfl); conv => whnf) | ((with_reducible apply GETG.at); (rfl); conv => whnf) | ((with_reducible refine IF.mk (fun h => ?_) (fun h => ?_)) <;> (try simp (disch := omega) only [hsB, hsC, lnB, wrap64, wrap32, Int.reduceBEq, Int.reduceBNe, Int.reduceEq, Int.reduceNe, Int.reduceLT, Int.reduceLE, Int.reduceGT, Int.reduceGE, Int.reduceAdd, Int.reduceSub, Int.reduceMul, Int.reduceNeg, reduceCtorEq] at h) <;> (try (exfalso; omega)) <;> conv => whnf))
    refine FIN.here h0 (rc := .tup [.str s, .bool (decide (n ≠ 0))]) (Oc := [(0, rdBoxC (i + n) (m - n) L E S R v x P)]) ?_ rfl rfl ⟨rfl, trivial⟩ ⟨n, s, by omega, by omega, rfl, rfl, rfl⟩
    show SV.tup [SV.str s, SV.bool (s != [])] = SV.tup [SV.str s, SV.bool (decide (n ≠ 0))]
    have : (s != []) = decide (n ≠ 0) := by rw [Bool.eq_iff_iff]; simp [h0s]
    rw [this]
end Go.Proofs.YtpffclpheldabaaGreatDoor
/- names: the reader of tags: language and rest, walked. Conditions: none. -/
set_option linter.unusedVariables false
set_option linter.unusedSimpArgs false
set_option maxRecDepth 20000
namespace Go.Proofs.YtpffclpheldabaaGreatDoor
open Go.Sx Go.Our
theorem bulk_sm {ps : List (List UInt8)} (hb : bulkM ps + ps.length ≤ 1152921504606846976) : ∀ s ∈ ps, Sm s := by
  intro s hs
  obtain ⟨j, hj, rfl⟩ := List.getElem_of_mem hs
  have h1 := sum_le (List.getElem?_eq_getElem hj)
  have h2 := bulk_take ps (j + 1)
  omega
theorem sees_yes {p : List UInt8 → Bool} {ps : List (List UInt8)} {i : Nat} (h : seesM p ps i = true) : ∃ s, ps[i]? = some s ∧ p s = true := by
  unfold seesM at h
  cases hp : ps[i]? with
  | none => rw [hp] at h; cases h
  | some s => rw [hp] at h; exact ⟨s, rfl, h⟩
theorem drop_at {ps : List (List UInt8)} {i : Nat} {s : List UInt8} (h : ps[i]? = some s) : ps.drop i = s :: ps.drop (i + 1) := by
  obtain ⟨h1, rfl⟩ := List.getElem?_eq_some_iff.1 h
  exact List.drop_eq_getElem_cons h1
theorem sees_no {p : List UInt8 → Bool} {ps : List (List UInt8)} {i : Nat} (h : seesM p ps i = false) : ps.drop i = [] ∨ ∃ s, ps[i]? = some s ∧ ps.drop i = s :: ps.drop (i + 1) ∧ p s = false := by
  unfold seesM at h
  cases hp : ps[i]? with
  | none => exact .inl (List.drop_eq_nil_of_le (by simpa using hp))
  | some s => rw [hp] at h; exact .inr ⟨s, rfl, drop_at hp, h⟩
theorem ext_no {n : Nat} {ps : List (List UInt8)} {i : Nat} (h : seesM (fun s => madeM s 3 3 true) ps i = false) : extP n (ps.drop i) = ps.drop i := by
  rcases sees_no h with h | ⟨s, _, h1, h2⟩
  · rw [h]; cases n <;> rfl
  · rw [h1]; cases n with
    | zero => rfl
    | succ n => simp only [extP]; simp [h2]
theorem made_len {s : List UInt8} {a b : Int} {pure : Bool} (h : madeM s a b pure = true) : a ≤ s.length ∧ (s.length : Int) ≤ b := by
  unfold madeM at h; simp at h; omega
theorem language_does (ps : List (List UInt8)) (hb : bulkM ps + ps.length ≤ 1152921504606846976) (i m : Nat) (him : i + m = ps.length) (S R : List UInt8) (v x : Nat) (P : List UInt8) :
    Does Tryz.prog tab 126 4 [.ptr (.loc 0) 0 0 0] [(0, rdBox i m [] [] S R v x P)] [(1, .rows 1 (ps.map strRow))]
      (fun r O nx => ∃ (i' m' : Nat) (L E : List UInt8), i' + m' = ps.length ∧ r = .bool (langP (ps.drop i)).isSome ∧ (∀ l, langP (ps.drop i) = some l → l = ps.drop i') ∧ O = [(0, rdBox i' m' L E S R v x P)] ∧ nx = 4) := by
  have hsm := bulk_sm hb
  refine Does.enter tabOK (g := 126) (fn := Tryz.f126) Tryz.call126 Tryz.func126 rfl 50 rfl rfl [.tmp 2] rfl ?_
  intro w0 F η0 h0
  conv => whnf
  refine CALL.here (sees_does 168 _ ps (fun s hs => lang1_does s (hsm s hs)) i m him [] [] S R v x P) rfl rfl (by first | rfl | (simp only [belowO, belowH, plainLL_below _ (plainStrs _), Bool.and_self, Bool.and_true] <;> rfl)) (by first | rfl | (simp only [belowO, belowH, plainLL_below _ (plainStrs _), Bool.and_self, Bool.and_true] <;> rfl)) (by repeat' (first | exact trivial | exact rfl | ((conv => whnf); refine ⟨?_, ?_⟩))) (by repeat' (first | exact trivial | exact rfl | ((conv => whnf); refine ⟨?_, ?_⟩))) rfl ?_ ?_
  · rintro r O' nx' ⟨rfl, rfl, rfl⟩; exact ⟨rfl, rfl, rfl⟩
  rintro r O' ⟨rfl, rfl, _⟩
  conv => whnf
  refine IF.mk (fun h => ?_) (fun h => ?_)
  · conv => whnf
    have h : seesM (fun s => madeM s 2 8 true) ps i = false := by simpa using h
    have hn : langP (ps.drop i) = none := by
      rcases sees_no h with h | ⟨s, _, h1, h2⟩
      · rw [h]; rfl
      · rw [h1]; simp only [langP]; simp [h2]
    exact FIN.here h0 (Oc := [(0, rdBox i m [] [] S R v x P)]) rfl rfl rfl ⟨rfl, trivial⟩ ⟨i, m, [], [], him, by rw [hn]; rfl, by simp [hn], rfl, rfl⟩
  have h : seesM (fun s => madeM s 2 8 true) ps i = true := by simpa using h
  obtain ⟨p, hp, hpm⟩ := sees_yes h
  have hlt := (List.getElem?_eq_some_iff.1 hp).1
  have hd := drop_at hp
  obtain ⟨k, rfl⟩ : ∃ k, m = k + 1 := ⟨m - 1, by omega⟩
  have hlen := made_len hpm
  conv => whnf
  refine CALL.here (next_tag_does ps i k him p hp [] [] S R v x P) rfl rfl (by first | rfl | (simp only [belowO, belowH, plainLL_below _ (plainStrs _), Bool.and_self, Bool.and_true] <;> rfl)) (by first | rfl | (simp only [belowO, belowH, plainLL_below _ (plainStrs _), Bool.and_self, Bool.and_true] <;> rfl)) (by repeat' (first | exact trivial | exact rfl | ((conv => whnf); refine ⟨?_, ?_⟩))) (by repeat' (first | exact trivial | exact rfl | ((conv => whnf); refine ⟨?_, ?_⟩))) rfl ?_ ?_
  · rintro r O' nx' ⟨rfl, rfl, rfl⟩; exact ⟨rfl, rfl, rfl⟩
  rintro r O' ⟨rfl, rfl, _⟩
  conv => whnf
  refine IF.mk (fun h => ?_) (fun h => ?_)
  · conv => whnf
    have h : 3 < p.length := by simp at h; omega
    exact FIN.here h0 (Oc := [(0, rdBox (i + 1) k p [] S R v x P)]) rfl rfl rfl ⟨rfl, trivial⟩ ⟨i + 1, k, p, [], by omega, by rw [hd]; simp only [langP]; simp [hpm, h], by rw [hd]; simp only [langP]; simp [hpm, h], rfl, rfl⟩
  have h : ¬ 3 < p.length := by simp at h; omega
  have hL : langP (ps.drop i) = some (extP 3 (ps.drop (i + 1))) := by rw [hd]; simp only [langP]; rw [if_pos hpm, if_neg h]
  conv => whnf
  refine LOOP.go tabOK [0] (X := Nat × List UInt8 × Nat) (fun y => y.1 ≤ 3 ∧ y.2.1.length ≤ 4 * y.1 ∧ y.2.2 + (ps.length - y.2.2) = ps.length ∧ extP 3 (ps.drop (i + 1)) = extP (3 - y.1) (ps.drop y.2.2)) (fun y => [(3, .int .i64 (y.1 : Int))]) (fun y => [(0, rdBox y.2.2 (ps.length - y.2.2) p y.2.1 S R v x P)]) 4 (fun y => 3 - y.1) (0, [], i + 1) ⟨by simp, by simp, by simp only; omega, rfl⟩ ?_
  conv => whnf
  rw [show ps.length - (i + 1) = k by omega]
  refine ⟨by (refine GOES.cutting h0 rfl rfl rfl (by first | rfl | simp [belowO, belowH, plainLL_below, plainLL_map, plainL, plain]) ?_ ?_ <;> (repeat' (first | (with_reducible rfl) | (exact congrArg (fun n => SV.sl _ _ _ n _) (by simp)) | (exact congrArg (Hp.rows _) (by simp)) | (exact congrArg (SV.int _) (by first | omega | (simp (disch := omega) only [lnB, wrap64, wrap32] <;> omega) | (simp; done) | (simp <;> omega))) | ((conv => whnf); refine ⟨?_, ?_⟩) | exact trivial | (simp; done) | rfl))), ?_⟩
  rintro ⟨c, E, a⟩ ⟨hc, hE, ha, hx⟩
  dsimp only at hc hE ha hx ⊢
  conv => whnf
  have fin : seesM (fun s => madeM s 3 3 true) ps a = false ∨ c = 3 → extP 3 (ps.drop (i + 1)) = ps.drop a := by
    rintro (h | h)
    · rw [hx, ext_no h]
    · subst h; rw [hx]; rfl
  refine IF.mk (fun h => ?_) (fun h => ?_)
  · have h : c < 3 := by simp at h; omega
    conv => whnf
    repeat' (first | ((with_reducible refine IF.tt ?_); conv => whnf) | ((with_reducible refine IF.ff ?_); conv => whnf) | ((with_reducible refine NEED.mk ?_ ?_); (first | with_reducible rfl | omega | (simp (disch := omega) only [lnB, wrap64, wrap32] <;> omega) | (intro h; (try simp (disch := omega) only [hsB, hsC, lnB, wrap64, wrap32, Int.reduceBEq, Int.reduceBNe, Int.reduceEq, Int.reduceNe, Int.reduceLT, Int.reduceLE, Int.reduceGT, Int.reduceGE, Int.reduceAdd, Int.reduceSub, Int.reduceMul, Int.reduceNeg, reduceCtorEq] at h); (first | omega | (simp (disch := omega) only [lnB, wrap64, wrap32] <;> omega))) | (exact needApp 256 rfl rfl (by simp) (by simp) (by omega)) | (simp <;> omega)); conv => whnf) | ((with_reducible apply GET.at); (rfl); conv => whnf) | ((with_reducible apply GETG.at); (rfl); conv => whnf) | ((with_reducible refine IF.mk (fun h => ?_) (fun h => ?_)) <;> (try simp (disch := omega) only [hsB, hsC, lnB, wrap64, wrap32, Int.reduceBEq, Int.reduceBNe, Int.reduceEq, Int.reduceNe, Int.reduceLT, Int.reduceLE, Int.reduceGT, Int.reduceGE, Int.reduceAdd, Int.reduceSub, Int.reduceMul, Int.reduceNeg, reduceCtorEq] at h) <;> (try (exfalso; omega)) <;> conv => whnf))
    refine CALL.here (sees_does 170 _ ps (fun s hs => lang2_does s (hsm s hs)) a (ps.length - a) ha p E S R v x P) rfl rfl (by first | rfl | (simp only [belowO, belowH, plainLL_below _ (plainStrs _), Bool.and_self, Bool.and_true] <;> rfl)) (by first | rfl | (simp only [belowO, belowH, plainLL_below _ (plainStrs _), Bool.and_self, Bool.and_true] <;> rfl)) (by repeat' (first | exact trivial | exact rfl | ((conv => whnf); refine ⟨?_, ?_⟩))) (by repeat' (first | exact trivial | exact rfl | ((conv => whnf); refine ⟨?_, ?_⟩))) rfl ?_ ?_
    · rintro r O' nx' ⟨rfl, rfl, rfl⟩; exact ⟨rfl, rfl, rfl⟩
    rintro r O' ⟨rfl, rfl, _⟩
    conv => whnf
    repeat' (first | ((with_reducible refine IF.tt ?_); conv => whnf) | ((with_reducible refine IF.ff ?_); conv => whnf) | ((with_reducible refine NEED.mk ?_ ?_); (first | with_reducible rfl | omega | (simp (disch := omega) only [lnB, wrap64, wrap32] <;> omega) | (intro h; (try simp (disch := omega) only [hsB, hsC, lnB, wrap64, wrap32, Int.reduceBEq, Int.reduceBNe, Int.reduceEq, Int.reduceNe, Int.reduceLT, Int.reduceLE, Int.reduceGT, Int.reduceGE, Int.reduceAdd, Int.reduceSub, Int.reduceMul, Int.reduceNeg, reduceCtorEq] at h); (first | omega | (simp (disch := omega) only [lnB, wrap64, wrap32] <;> omega))) | (exact needApp 256 rfl rfl (by simp) (by simp) (by omega)) | (simp <;> omega)); conv => whnf) | ((with_reducible apply GET.at); (rfl); conv => whnf) | ((with_reducible apply GETG.at); (rfl); conv => whnf) | ((with_reducible refine IF.mk (fun h => ?_) (fun h => ?_)) <;> (try simp (disch := omega) only [hsB, hsC, lnB, wrap64, wrap32, Int.reduceBEq, Int.reduceBNe, Int.reduceEq, Int.reduceNe, Int.reduceLT, Int.reduceLE, Int.reduceGT, Int.reduceGE, Int.reduceAdd, Int.reduceSub, Int.reduceMul, Int.reduceNeg, reduceCtorEq] at h) <;> (try (exfalso; omega)) <;> conv => whnf))
    · obtain ⟨q, hq, hqm⟩ := sees_yes (by assumption)
      have hql := made_len hqm
      obtain ⟨k', hk'⟩ : ∃ k', ps.length - a = k' + 1 := ⟨ps.length - a - 1, by have := (List.getElem?_eq_some_iff.1 hq).1; omega⟩
      rw [hk']
      repeat' (first | ((with_reducible refine IF.tt ?_); conv => whnf) | ((with_reducible refine IF.ff ?_); conv => whnf) | (refine DRAWN.of (id := 11) tabOK mixed (.take 0 1 (.take 1 1 (.take 2 1 (.take 3 1 (.take 5 1 (.fork 4 3 6 0 (planOf [(6, 0), (7, 1), (8, 1), (9, 1), (10, 1), (11, 0)]) (planOf [(4, 2), (7, 1), (8, 1), (9, 1), (10, 1), (11, 0)]))))))) (by kernel_rfl) ?_; conv => whnf) | ((with_reducible refine ADD.mk (fun _ _ => ?_)); conv => whnf) | ((with_reducible refine NEED.mk (Det.of rfl) ?_); conv => whnf) | ((with_reducible refine FORK.mk ?_ ?_) <;> conv => whnf) | ((with_reducible refine NEED.mk ?_ ?_); (first | with_reducible rfl | omega | (simp (disch := omega) only [lnB, wrap64, wrap32] <;> omega) | (intro h; (try simp (disch := omega) only [hsB, hsC, lnB, wrap64, wrap32, Int.reduceBEq, Int.reduceBNe, Int.reduceEq, Int.reduceNe, Int.reduceLT, Int.reduceLE, Int.reduceGT, Int.reduceGE, Int.reduceAdd, Int.reduceSub, Int.reduceMul, Int.reduceNeg, reduceCtorEq] at h); (first | omega | (simp (disch := omega) only [lnB, wrap64, wrap32] <;> omega))) | (exact needApp 256 rfl rfl (by simp) (by simp) (by omega)) | (simp <;> omega)); conv => whnf) | ((with_reducible apply GET.at); (rfl); conv => whnf) | ((with_reducible apply GETG.at); (rfl); conv => whnf) | ((with_reducible refine IF.mk (fun h => ?_) (fun h => ?_)) <;> (try simp (disch := omega) only [hsB, hsC, lnB, wrap64, wrap32, Int.reduceBEq, Int.reduceBNe, Int.reduceEq, Int.reduceNe, Int.reduceLT, Int.reduceLE, Int.reduceGT, Int.reduceGE, Int.reduceAdd, Int.reduceSub, Int.reduceMul, Int.reduceNeg, reduceCtorEq] at h) <;> (try (exfalso; omega)) <;> conv => whnf))
      all_goals
        refine CALL.here (next_tag_does ps a k' (by omega) q hq p (E ++ [45]) S R v x P) rfl rfl (by first | rfl | (simp only [belowO, belowH, plainLL_below _ (plainStrs _), Bool.and_self, Bool.and_true] <;> rfl)) (by first | rfl | (simp only [belowO, belowH, plainLL_below _ (plainStrs _), Bool.and_self, Bool.and_true] <;> rfl)) (by repeat' (first | exact trivial | exact rfl | ((conv => whnf); refine ⟨?_, ?_⟩))) (by repeat' (first | exact trivial | exact rfl | ((conv => whnf); refine ⟨?_, ?_⟩))) rfl ?_ ?_
        · rintro r O' nx' ⟨rfl, rfl, rfl⟩; exact ⟨rfl, rfl, rfl⟩
        rintro r O' ⟨rfl, rfl, _⟩
        conv => whnf
        repeat' (first | ((with_reducible refine IF.tt ?_); conv => whnf) | ((with_reducible refine IF.ff ?_); conv => whnf) | (refine DRAWN.of (id := 11) tabOK mixed (.take 0 1 (.take 1 1 (.take 2 1 (.take 3 1 (.take 5 1 (.fork 4 3 6 0 (planOf [(6, 0), (7, 1), (8, 1), (9, 1), (10, 1), (11, 0)]) (planOf [(4, 2), (7, 1), (8, 1), (9, 1), (10, 1), (11, 0)]))))))) (by kernel_rfl) ?_; conv => whnf) | ((with_reducible refine ADD.mk (fun _ _ => ?_)); conv => whnf) | ((with_reducible refine NEED.mk (Det.of rfl) ?_); conv => whnf) | ((with_reducible refine FORK.mk ?_ ?_) <;> conv => whnf) | ((with_reducible refine NEED.mk ?_ ?_); (first | with_reducible rfl | omega | (simp (disch := omega) only [lnB, wrap64, wrap32] <;> omega) | (intro h; (try simp (disch := omega) only [hsB, hsC, lnB, wrap64, wrap32, Int.reduceBEq, Int.reduceBNe, Int.reduceEq, Int.reduceNe, Int.reduceLT, Int.reduceLE, Int.reduceGT, Int.reduceGE, Int.reduceAdd, Int.reduceSub, Int.reduceMul, Int.reduceNeg, reduceCtorEq] at h); (first | omega | (simp (disch := omega) only [lnB, wrap64, wrap32] <;> omega))) | (exact needApp 256 rfl rfl (by simp) (by simp) (by omega)) | (simp <;> omega)); conv => whnf) | ((with_reducible apply GET.at); (rfl); conv => whnf) | ((with_reducible apply GETG.at); (rfl); conv => whnf) | ((with_reducible refine IF.mk (fun h => ?_) (fun h => ?_)) <;> (try simp (disch := omega) only [hsB, hsC, lnB, wrap64, wrap32, Int.reduceBEq, Int.reduceBNe, Int.reduceEq, Int.reduceNe, Int.reduceLT, Int.reduceLE, Int.reduceGT, Int.reduceGE, Int.reduceAdd, Int.reduceSub, Int.reduceMul, Int.reduceNeg, reduceCtorEq] at h) <;> (try (exfalso; omega)) <;> conv => whnf))
        refine ⟨(c + 1, (E ++ [45]) ++ q, a + 1), ⟨by simp only; omega, by simp only [List.length_append, List.length_cons, List.length_nil]; omega, by simp only; omega, ?_⟩, by simp only; omega, ?_⟩
        · rw [hx, drop_at hq, show 3 - c = (3 - (c + 1)) + 1 by omega]; simp only [extP]; rw [if_pos hqm]
        · dsimp only
          rw [show ps.length - (a + 1) = k' by omega]
          conv => whnf
          (refine GOES.cutting h0 rfl rfl rfl (by first | rfl | simp [belowO, belowH, plainLL_below, plainLL_map, plainL, plain]) ?_ ?_ <;> (repeat' (first | (with_reducible rfl) | (exact congrArg (fun n => SV.sl _ _ _ n _) (by simp)) | (exact congrArg (Hp.rows _) (by simp)) | (exact congrArg (SV.int _) (by first | omega | (simp (disch := omega) only [lnB, wrap64, wrap32] <;> omega) | (simp; done) | (simp <;> omega))) | ((conv => whnf); refine ⟨?_, ?_⟩) | exact trivial | (simp; done) | rfl)))
    · obtain ⟨q, hq, hqm⟩ := sees_yes (by assumption)
      have hql := made_len hqm
      obtain ⟨k', hk'⟩ : ∃ k', ps.length - a = k' + 1 := ⟨ps.length - a - 1, by have := (List.getElem?_eq_some_iff.1 hq).1; omega⟩
      rw [hk']
      have hc0 : c = 0 := by omega
      repeat' (first | ((with_reducible refine IF.tt ?_); conv => whnf) | ((with_reducible refine IF.ff ?_); conv => whnf) | (refine DRAWN.of (id := 11) tabOK mixed (.take 0 1 (.take 1 1 (.take 2 1 (.take 3 1 (.take 5 1 (.fork 4 3 6 0 (planOf [(6, 0), (7, 1), (8, 1), (9, 1), (10, 1), (11, 0)]) (planOf [(4, 2), (7, 1), (8, 1), (9, 1), (10, 1), (11, 0)]))))))) (by kernel_rfl) ?_; conv => whnf) | ((with_reducible refine ADD.mk (fun _ _ => ?_)); conv => whnf) | ((with_reducible refine NEED.mk (Det.of rfl) ?_); conv => whnf) | ((with_reducible refine FORK.mk ?_ ?_) <;> conv => whnf) | ((with_reducible refine NEED.mk ?_ ?_); (first | with_reducible rfl | omega | (simp (disch := omega) only [lnB, wrap64, wrap32] <;> omega) | (intro h; (try simp (disch := omega) only [hsB, hsC, lnB, wrap64, wrap32, Int.reduceBEq, Int.reduceBNe, Int.reduceEq, Int.reduceNe, Int.reduceLT, Int.reduceLE, Int.reduceGT, Int.reduceGE, Int.reduceAdd, Int.reduceSub, Int.reduceMul, Int.reduceNeg, reduceCtorEq] at h); (first | omega | (simp (disch := omega) only [lnB, wrap64, wrap32] <;> omega))) | (exact needApp 256 rfl rfl (by simp) (by simp) (by omega)) | (simp <;> omega)); conv => whnf) | ((with_reducible apply GET.at); (rfl); conv => whnf) | ((with_reducible apply GETG.at); (rfl); conv => whnf) | ((with_reducible refine IF.mk (fun h => ?_) (fun h => ?_)) <;> (try simp (disch := omega) only [hsB, hsC, lnB, wrap64, wrap32, Int.reduceBEq, Int.reduceBNe, Int.reduceEq, Int.reduceNe, Int.reduceLT, Int.reduceLE, Int.reduceGT, Int.reduceGE, Int.reduceAdd, Int.reduceSub, Int.reduceMul, Int.reduceNeg, reduceCtorEq] at h) <;> (try (exfalso; omega)) <;> conv => whnf))
      all_goals
        refine CALL.here (next_tag_does ps a k' (by omega) q hq p (E) S R v x P) rfl rfl (by first | rfl | (simp only [belowO, belowH, plainLL_below _ (plainStrs _), Bool.and_self, Bool.and_true] <;> rfl)) (by first | rfl | (simp only [belowO, belowH, plainLL_below _ (plainStrs _), Bool.and_self, Bool.and_true] <;> rfl)) (by repeat' (first | exact trivial | exact rfl | ((conv => whnf); refine ⟨?_, ?_⟩))) (by repeat' (first | exact trivial | exact rfl | ((conv => whnf); refine ⟨?_, ?_⟩))) rfl ?_ ?_
        · rintro r O' nx' ⟨rfl, rfl, rfl⟩; exact ⟨rfl, rfl, rfl⟩
        rintro r O' ⟨rfl, rfl, _⟩
        conv => whnf
        repeat' (first | ((with_reducible refine IF.tt ?_); conv => whnf) | ((with_reducible refine IF.ff ?_); conv => whnf) | (refine DRAWN.of (id := 11) tabOK mixed (.take 0 1 (.take 1 1 (.take 2 1 (.take 3 1 (.take 5 1 (.fork 4 3 6 0 (planOf [(6, 0), (7, 1), (8, 1), (9, 1), (10, 1), (11, 0)]) (planOf [(4, 2), (7, 1), (8, 1), (9, 1), (10, 1), (11, 0)]))))))) (by kernel_rfl) ?_; conv => whnf) | ((with_reducible refine ADD.mk (fun _ _ => ?_)); conv => whnf) | ((with_reducible refine NEED.mk (Det.of rfl) ?_); conv => whnf) | ((with_reducible refine FORK.mk ?_ ?_) <;> conv => whnf) | ((with_reducible refine NEED.mk ?_ ?_); (first | with_reducible rfl | omega | (simp (disch := omega) only [lnB, wrap64, wrap32] <;> omega) | (intro h; (try simp (disch := omega) only [hsB, hsC, lnB, wrap64, wrap32, Int.reduceBEq, Int.reduceBNe, Int.reduceEq, Int.reduceNe, Int.reduceLT, Int.reduceLE, Int.reduceGT, Int.reduceGE, Int.reduceAdd, Int.reduceSub, Int.reduceMul, Int.reduceNeg, reduceCtorEq] at h); (first | omega | (simp (disch := omega) only [lnB, wrap64, wrap32] <;> omega))) | (exact needApp 256 rfl rfl (by simp) (by simp) (by omega)) | (simp <;> omega)); conv => whnf) | ((with_reducible apply GET.at); (rfl); conv => whnf) | ((with_reducible apply GETG.at); (rfl); conv => whnf) | ((with_reducible refine IF.mk (fun h => ?_) (fun h => ?_)) <;> (try simp (disch := omega) only [hsB, hsC, lnB, wrap64, wrap32, Int.reduceBEq, Int.reduceBNe, Int.reduceEq, Int.reduceNe, Int.reduceLT, Int.reduceLE, Int.reduceGT, Int.reduceGE, Int.reduceAdd, Int.reduceSub, Int.reduceMul, Int.reduceNeg, reduceCtorEq] at h) <;> (try (exfalso; omega)) <;> conv => whnf))
        refine ⟨(c + 1, (E) ++ q, a + 1), ⟨by simp only; omega, by simp only [List.length_append, List.length_cons, List.length_nil]; omega, by simp only; omega, ?_⟩, by simp only; omega, ?_⟩
        · rw [hx, drop_at hq, show 3 - c = (3 - (c + 1)) + 1 by omega]; simp only [extP]; rw [if_pos hqm]
        · dsimp only
          rw [show ps.length - (a + 1) = k' by omega]
          conv => whnf
          (refine GOES.cutting h0 rfl rfl rfl (by first | rfl | simp [belowO, belowH, plainLL_below, plainLL_map, plainL, plain]) ?_ ?_ <;> (repeat' (first | (with_reducible rfl) | (exact congrArg (fun n => SV.sl _ _ _ n _) (by simp)) | (exact congrArg (Hp.rows _) (by simp)) | (exact congrArg (SV.int _) (by first | omega | (simp (disch := omega) only [lnB, wrap64, wrap32] <;> omega) | (simp; done) | (simp <;> omega))) | ((conv => whnf); refine ⟨?_, ?_⟩) | exact trivial | (simp; done) | rfl)))
    · exact FIN.here h0 (Oc := [(0, rdBox a (ps.length - a) p E S R v x P)]) rfl rfl rfl ⟨rfl, trivial⟩ ⟨a, ps.length - a, p, E, ha, by rw [hL]; rfl, by rw [hL]; rintro l ⟨⟩; exact fin (.inl (by assumption)), rfl, rfl⟩
  · have h : c = 3 := by simp at h; omega
    conv => whnf
    repeat' (first | ((with_reducible refine IF.tt ?_); conv => whnf) | ((with_reducible refine IF.ff ?_); conv => whnf) | ((with_reducible refine NEED.mk ?_ ?_); (first | with_reducible rfl | omega | (simp (disch := omega) only [lnB, wrap64, wrap32] <;> omega) | (intro h; (try simp (disch := omega) only [hsB, hsC, lnB, wrap64, wrap32, Int.reduceBEq, Int.reduceBNe, Int.reduceEq, Int.reduceNe, Int.reduceLT, Int.reduceLE, Int.reduceGT, Int.reduceGE, Int.reduceAdd, Int.reduceSub, Int.reduceMul, Int.reduceNeg, reduceCtorEq] at h); (first | omega | (simp (disch := omega) only [lnB, wrap64, wrap32] <;> omega))) | (exact needApp 256 rfl rfl (by simp) (by simp) (by omega)) | (simp <;> omega)); conv => whnf) | ((with_reducible apply GET.at); (rfl); conv => whnf) | ((with_reducible apply GETG.at); (rfl); conv => whnf) | ((with_reducible refine IF.mk (fun h => ?_) (fun h => ?_)) <;> (try simp (disch := omega) only [hsB, hsC, lnB, wrap64, wrap32, Int.reduceBEq, Int.reduceBNe, Int.reduceEq, Int.reduceNe, Int.reduceLT, Int.reduceLE, Int.reduceGT, Int.reduceGE, Int.reduceAdd, Int.reduceSub, Int.reduceMul, Int.reduceNeg, reduceCtorEq] at h) <;> (try (exfalso; omega)) <;> conv => whnf))
    exact FIN.here h0 (Oc := [(0, rdBox a (ps.length - a) p E S R v x P)]) rfl rfl rfl ⟨rfl, trivial⟩ ⟨a, ps.length - a, p, E, ha, by rw [hL]; rfl, by rw [hL]; rintro l ⟨⟩; exact fin (.inr h), rfl, rfl⟩
theorem skip_no {p : List UInt8 → Bool} {ps : List (List UInt8)} {i : Nat} (h : seesM p ps i = false) : skipIf p (ps.drop i) = ps.drop i := by
  rcases sees_no h with h | ⟨s, _, h1, h2⟩
  · rw [h]; rfl
  · rw [h1]; simp only [skipIf]; rw [if_neg (by simp [h2])]
theorem skip_yes {p : List UInt8 → Bool} {ps : List (List UInt8)} {i : Nat} {s : List UInt8} (h : ps[i]? = some s) (hp : p s = true) : skipIf p (ps.drop i) = ps.drop (i + 1) := by
  rw [drop_at h]; simp only [skipIf]; rw [if_pos hp]
theorem index_st_does (l : List (List UInt8)) (s : List UInt8) (hl : l.length ≤ 1152921504606846976) : Does Tryz.prog tab 193 1 [.sl (.loc 0) 0 1 l.length none, .str s] [] [(0, .rows 1 (l.map strRow))]
    (fun r O nx => ∃ n : Int, (0 ≤ n ↔ s ∈ l) ∧ r = .int .i64 n ∧ O = [] ∧ nx = 1) := by
  refine Does.enter tabOK (g := 193) (fn := Tryz.f193) Tryz.call193 Tryz.func193 rfl 19 rfl rfl [.tmp 4] rfl ?_
  intro w0 F η0 h0
  conv => whnf
  refine LOOP.go tabOK [0, 1, 7] (X := Nat) (fun i => i ≤ l.length ∧ s ∉ l.take i) (fun i => [(8, .int .i64 (i : Int))]) (fun i => []) 1 (fun i => l.length - i) 0 ⟨by omega, by simp⟩ ?_
  conv => whnf
  refine ⟨by (refine GOES.cutting h0 rfl rfl rfl (by first | rfl | simp [belowO, belowH, plainLL_below, plainLL_map, plainL, plain]) ?_ ?_ <;> (repeat' (first | (with_reducible rfl) | (exact congrArg (fun n => SV.sl _ _ _ n _) (by simp)) | (exact congrArg (Hp.rows _) (by simp)) | (exact congrArg (SV.int _) (by first | omega | (simp (disch := omega) only [lnB, wrap64, wrap32] <;> omega) | (simp; done) | (simp <;> omega))) | ((conv => whnf); refine ⟨?_, ?_⟩) | exact trivial | (simp; done) | rfl))), ?_⟩
  rintro i ⟨hi, hc⟩
  conv => whnf
  repeat' (first | ((with_reducible refine IF.tt ?_); conv => whnf) | ((with_reducible refine IF.ff ?_); conv => whnf) | (refine GET.at (row := strRow (l[i]'(by omega))) (by rw [List.getElem?_map, show 0 + (i : Int).toNat = i by omega, List.getElem?_eq_getElem (by omega)]; rfl) ?_; conv => whnf) | ((with_reducible refine NEED.mk ?_ ?_); (first | with_reducible rfl | omega | (simp (disch := omega) only [lnB, wrap64, wrap32] <;> omega) | (intro h; (try simp (disch := omega) only [hsB, hsC, lnB, wrap64, wrap32, Int.reduceBEq, Int.reduceBNe, Int.reduceEq, Int.reduceNe, Int.reduceLT, Int.reduceLE, Int.reduceGT, Int.reduceGE, Int.reduceAdd, Int.reduceSub, Int.reduceMul, Int.reduceNeg, reduceCtorEq] at h); (first | omega | (simp (disch := omega) only [lnB, wrap64, wrap32] <;> omega))) | (exact needApp 256 rfl rfl (by simp) (by simp) (by omega)) | (simp <;> omega)); conv => whnf) | ((with_reducible apply GET.at); (rfl); conv => whnf) | ((with_reducible apply GETG.at); (rfl); conv => whnf) | ((with_reducible refine IF.mk (fun h => ?_) (fun h => ?_)) <;> (try simp (disch := omega) only [hsB, hsC, lnB, wrap64, wrap32, Int.reduceBEq, Int.reduceBNe, Int.reduceEq, Int.reduceNe, Int.reduceLT, Int.reduceLE, Int.reduceGT, Int.reduceGE, Int.reduceAdd, Int.reduceSub, Int.reduceMul, Int.reduceNeg, reduceCtorEq] at h) <;> (try (exfalso; omega)) <;> conv => whnf))
  · have hl : i < l.length := by omega
    exact FIN.val h0 rfl ⟨i, ⟨fun _ => by subst h; exact List.getElem_mem hl, fun _ => by omega⟩, rfl, rfl, rfl⟩
  · have hl : i < l.length := by omega
    refine ⟨i + 1, ⟨by omega, ?_⟩, by omega, ?_⟩
    · rw [List.take_succ_eq_append_getElem hl]
      simp only [List.mem_append, List.mem_singleton]
      rintro (h1 | h1)
      · exact hc h1
      · exact h h1
    · conv => whnf
      (refine GOES.cutting h0 rfl rfl rfl (by first | rfl | simp [belowO, belowH, plainLL_below, plainLL_map, plainL, plain]) ?_ ?_ <;> (repeat' (first | (with_reducible rfl) | (exact congrArg (fun n => SV.sl _ _ _ n _) (by simp)) | (exact congrArg (Hp.rows _) (by simp)) | (exact congrArg (SV.int _) (by first | omega | (simp (disch := omega) only [lnB, wrap64, wrap32] <;> omega) | (simp; done) | (simp <;> omega))) | ((conv => whnf); refine ⟨?_, ?_⟩) | exact trivial | (simp; done) | rfl)))
  · refine FIN.val h0 rfl ⟨-1, ⟨fun h => by omega, fun h1 => ?_⟩, rfl, rfl, rfl⟩
    rw [List.take_of_length_le (by omega)] at hc
    exact (hc h1).elim
theorem contains_does (l : List (List UInt8)) (s : List UInt8) (hl : l.length ≤ 1152921504606846976) : Does Tryz.prog tab 174 1 [.sl (.loc 0) 0 1 l.length none, .str s] [] [(0, .rows 1 (l.map strRow))] (ValK 1 (.bool (decide (s ∈ l)))) := by
  refine Does.enter tabOK (g := 174) (fn := Tryz.f174) Tryz.call174 Tryz.func174 rfl 9 rfl rfl [.tmp 4] rfl ?_
  intro w0 F η0 h0
  conv => whnf
  refine CALL.here (index_st_does l s hl) rfl rfl (by first | rfl | (simp only [belowO, belowH, plainLL_below _ (plainStrs _), Bool.and_self, Bool.and_true] <;> rfl)) (by first | rfl | (simp only [belowO, belowH, plainLL_below _ (plainStrs _), Bool.and_self, Bool.and_true] <;> rfl)) (by repeat' (first | exact trivial | exact rfl | ((conv => whnf); refine ⟨?_, ?_⟩))) (by repeat' (first | exact trivial | exact rfl | ((conv => whnf); refine ⟨?_, ?_⟩))) rfl ?_ ?_
  · rintro r O' nx' ⟨n, _, rfl, rfl, rfl⟩; exact ⟨rfl, rfl, rfl⟩
  rintro r O' ⟨n, hn, rfl, rfl, _⟩
  conv => whnf
  exact FIN.valueK h0 rfl (congrArg SV.bool (decide_eq_decide.2 hn))
def orE : List Int → Int
  | [] => 0
  | a :: l => if a ≠ 0 then a else orE l
def intRowE (a : Int) : List SV := [.int .i64 a]
theorem cmpOrErr_does (xs : List Int) (hn : xs.length ≤ 1152921504606846976) : Does Tryz.prog tab 95 1 [.sl (.loc 0) 0 1 xs.length none] [] [(0, .rows 1 (xs.map intRowE))] (ValK 1 (.int .i64 (orE xs))) := by
  refine Does.enter tabOK (g := 95) (fn := Tryz.f95) Tryz.call95 Tryz.func95 rfl 18 rfl rfl [.tmp 2] rfl ?_
  intro w0 F η0 h0
  conv => whnf
  refine LOOP.go tabOK [3, 6, 7] (X := Nat) (fun i => i ≤ xs.length ∧ orE xs = orE (xs.drop i)) (fun i => [(8, .int .i64 (i : Int))]) (fun i => []) 1 (fun i => xs.length - i) 0 ⟨by omega, rfl⟩ ?_
  conv => whnf
  refine ⟨by (refine GOES.cutting h0 rfl rfl rfl (by first | rfl | simp [belowO, belowH, plainLL_below, plainLL_map, plainL, plain]) ?_ ?_ <;> (repeat' (first | (with_reducible rfl) | (exact congrArg (fun n => SV.sl _ _ _ n _) (by simp)) | (exact congrArg (Hp.rows _) (by simp)) | (exact congrArg (SV.int _) (by first | omega | (simp (disch := omega) only [lnB, wrap64, wrap32] <;> omega) | (simp; done) | (simp <;> omega))) | ((conv => whnf); refine ⟨?_, ?_⟩) | exact trivial | (simp; done) | rfl))), ?_⟩
  rintro i ⟨hi, ho⟩
  conv => whnf
  repeat' (first | ((with_reducible refine IF.tt ?_); conv => whnf) | ((with_reducible refine IF.ff ?_); conv => whnf) | (refine GET.at (row := intRowE (xs[i]'(by omega))) (by rw [List.getElem?_map, show 0 + (i : Int).toNat = i by omega, List.getElem?_eq_getElem (by omega)]; rfl) ?_; conv => whnf) | ((with_reducible refine NEED.mk ?_ ?_); (first | with_reducible rfl | omega | (simp (disch := omega) only [lnB, wrap64, wrap32] <;> omega) | (intro h; (try simp (disch := omega) only [hsB, hsC, lnB, wrap64, wrap32, Int.reduceBEq, Int.reduceBNe, Int.reduceEq, Int.reduceNe, Int.reduceLT, Int.reduceLE, Int.reduceGT, Int.reduceGE, Int.reduceAdd, Int.reduceSub, Int.reduceMul, Int.reduceNeg, reduceCtorEq] at h); (first | omega | (simp (disch := omega) only [lnB, wrap64, wrap32] <;> omega))) | (exact needApp 256 rfl rfl (by simp) (by simp) (by omega)) | (simp <;> omega)); conv => whnf) | ((with_reducible apply GET.at); (rfl); conv => whnf) | ((with_reducible apply GETG.at); (rfl); conv => whnf) | ((with_reducible refine IF.mk (fun h => ?_) (fun h => ?_)) <;> (try simp (disch := omega) only [hsB, hsC, lnB, wrap64, wrap32, Int.reduceBEq, Int.reduceBNe, Int.reduceEq, Int.reduceNe, Int.reduceLT, Int.reduceLE, Int.reduceGT, Int.reduceGE, Int.reduceAdd, Int.reduceSub, Int.reduceMul, Int.reduceNeg, reduceCtorEq] at h) <;> (try (exfalso; omega)) <;> conv => whnf))
  · have hl : i < xs.length := by omega
    refine FIN.valueK h0 rfl (congrArg (SV.int _) ?_)
    rw [ho, List.drop_eq_getElem_cons hl]; simp only [orE]; rw [if_pos h]
  · have hl : i < xs.length := by omega
    refine ⟨i + 1, ⟨by omega, ?_⟩, by omega, ?_⟩
    · rw [ho, List.drop_eq_getElem_cons hl]; simp only [orE]; rw [if_neg (by simpa using h)]
    · conv => whnf
      (refine GOES.cutting h0 rfl rfl rfl (by first | rfl | simp [belowO, belowH, plainLL_below, plainLL_map, plainL, plain]) ?_ ?_ <;> (repeat' (first | (with_reducible rfl) | (exact congrArg (fun n => SV.sl _ _ _ n _) (by simp)) | (exact congrArg (Hp.rows _) (by simp)) | (exact congrArg (SV.int _) (by first | omega | (simp (disch := omega) only [lnB, wrap64, wrap32] <;> omega) | (simp; done) | (simp <;> omega))) | ((conv => whnf); refine ⟨?_, ?_⟩) | exact trivial | (simp; done) | rfl)))
  · refine FIN.valueK h0 rfl (congrArg (SV.int _) ?_)
    rw [ho, List.drop_eq_nil_of_le (by omega)]; rfl
end Go.Proofs.YtpffclpheldabaaGreatDoor
