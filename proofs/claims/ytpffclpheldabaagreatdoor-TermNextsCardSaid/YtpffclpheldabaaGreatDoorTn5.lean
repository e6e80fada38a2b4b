/- Part 5 of the texts that the last one leans on: Unesc2, Names2, Part2, Tag5, Tag6, Tag7, Tag8, Term2, Next4. Conditions: as each part says. -/
import Derived.Test.YtpffclpheldabaaGreatDoorTn4
/- The reference's Unescape, walked. Conditions: none. -/
set_option linter.unusedVariables false
set_option linter.unusedSimpArgs false
set_option maxRecDepth 20000
namespace Go.Proofs.YtpffclpheldabaaGreatDoor
open Go.Sx Go.Our
theorem r4hex_does (c : Int) (hc : 0 ≤ c ∧ c < 256) : Does Tryz.prog tab 182 0 [.int .u8 c] [] [] (Val (.int .i64 (hexV c))) := by
  refine Does.enter tabOK (g := 182) (fn := Tryz.f182) Tryz.call182 Tryz.func182 rfl 35 rfl rfl [.tmp 2] rfl ?_
  intro w0 F η0 h0
  conv => whnf
  repeat' ((first | with_reducible refine IF.tt ?_ | with_reducible refine IF.ff ?_ | ((with_reducible refine NEED.mk ?_ ?_); (first | with_reducible rfl | omega | (simp (disch := omega) only [lnB, wrap64, wrap32] <;> omega) | (intro h; (try simp (disch := omega) only [hsB, hsC, lnB, wrap64, wrap32, simprocAttr] at h); (first | omega | (simp (disch := omega) only [lnB, wrap64, wrap32] <;> omega))) | (exact needApp 256 rfl rfl (by simp) (by simp) (by omega)) | (simp <;> omega))) | ((with_reducible apply GET.at); rfl) | ((with_reducible apply GETG.at); rfl) | ((with_reducible refine IF.mk (fun h => ?_) (fun h => ?_)) <;> (try simp (disch := omega) only [hsB, hsC, lnB, wrap64, wrap32, simprocAttr] at h) <;> try (exfalso; omega))) <;> conv => whnf)
  all_goals
    refine FIN.value h0 rfl (congrArg (SV.int _) ?_)
    unfold hexV
    simp (disch := omega) only [↓if_pos, ↓if_neg, wrapu8, wrap64]
theorem r4number_does (s : List UInt8) (j k : Nat) (hk : k = 4 ∨ k = 8) (hs : Sm s) (hj : j ≤ s.length + 2) : Does Tryz.prog tab 152 0 [.str s, .int .i64 (j : Int), .int .i64 (k : Int)] [] [] (Val (.int .i64 (numM s j k))) := by
  refine Does.enter tabOK (g := 152) (fn := Tryz.f152) Tryz.call152 Tryz.func152 rfl 44 rfl rfl [.tmp 6] rfl ?_
  intro w0 F η0 h0
  conv => whnf
  refine LOOP.go tabOK [0, 1, 2] (X := Nat × Int) (fun x => x.1 ≤ k ∧ (0 ≤ x.2 ∧ x.2 < ((16 ^ x.1 : Nat) : Int)) ∧ numR s j k 0 = numR s (j + x.1) (k - x.1) x.2) (fun x => [(8, .int .i64 (x.1 : Int)), (7, .int .i64 x.2)]) (fun _ => []) 0 (fun x => k - x.1) (0, 0) ⟨by simp, by simp, rfl⟩ ?_
  conv => whnf
  refine ⟨by (refine GOES.cutting h0 rfl rfl rfl (by first | rfl | simp [belowO, belowH, plainLL_below, plainLL_map, plainL, plain]) ?_ ?_ <;> (repeat' (first | (with_reducible rfl) | (exact congrArg (fun n => SV.sl _ _ _ n _) (by simp)) | (exact congrArg (Hp.rows _) (by simp)) | (exact congrArg (SV.int _) (by first | omega | (simp (disch := omega) only [lnB, wrap64, wrap32] <;> omega) | (simp; done) | (simp <;> omega))) | ((conv => whnf); refine ⟨?_, ?_⟩) | exact trivial | (simp; done) | rfl))), ?_⟩
  rintro ⟨i, n⟩ ⟨hi, hn, hc⟩
  dsimp only at hi hn hc ⊢
  have hp8 : (16 : Nat) ^ i ≤ 4294967296 := Nat.le_trans (pow16 (show i ≤ 8 by omega)) (by decide)
  have hcst : (((j + i : Nat) : Nat) : Int) = (j : Int) + i := by omega
  have hw : IntKind.i64.wrap ((j : Int) + i) = (j : Int) + i := wrap64 (by omega) (by omega)
  have hb := byteAt_lt s ((j : Int) + i)
  have hx := hexV_lt (byteAt s ((j : Int) + i))
  conv => whnf
  repeat' ((first | with_reducible refine IF.tt ?_ | with_reducible refine IF.ff ?_ | with_reducible refine ADD.mk (fun _ _ => ?_) | with_reducible refine NEED.mk (Det.of rfl) ?_ | with_reducible refine FORK.mk ?_ ?_ | refine CALL.value (r4hex_does _ (byteAt_lt s _)) rfl rfl ?_ | refine CALL.value (ref04Scalar_does _) rfl rfl ?_ | ((with_reducible refine NEED.mk ?_ ?_); (first | with_reducible rfl | omega | (simp (disch := omega) only [lnB, wrap64, wrap32] <;> omega) | (intro h; (try simp (disch := omega) only [hsB, hsC, lnB, wrap64, wrap32, simprocAttr] at h); (first | omega | (simp (disch := omega) only [lnB, wrap64, wrap32] <;> omega))) | (exact needApp 256 rfl rfl (by simp) (by simp) (by omega)) | (simp <;> omega))) | ((with_reducible apply GET.at); rfl) | ((with_reducible apply GETG.at); rfl) | ((with_reducible refine IF.mk (fun h => ?_) (fun h => ?_)) <;> (try simp (disch := omega) only [hsB, hsC, lnB, wrap64, wrap32, simprocAttr] at h) <;> try (exfalso; omega))) <;> conv => whnf)
  · refine FIN.value h0 rfl (congrArg (SV.int _) ?_)
    unfold numM
    rw [hc, show k - i = (k - (i + 1)) + 1 by omega, numR_no (by omega)]
  · refine FIN.value h0 rfl (congrArg (SV.int _) ?_)
    unfold numM
    rw [hc, show k - i = (k - (i + 1)) + 1 by omega, numR_no (by rw [hcst]; omega)]
  · have hp7 : (16 : Nat) ^ i ≤ 268435456 := Nat.le_trans (pow16 (show i ≤ 7 by omega)) (by decide)
    refine ⟨(i + 1, n * 16 + hexV (byteAt s ((j : Int) + i))), ⟨by simp only; omega, ?_, ?_⟩, by simp only; omega, ?_⟩
    · simp only [Nat.pow_succ]; omega
    · simp only
      rw [hc, show k - i = (k - (i + 1)) + 1 by omega, numR_step (by omega) (by rw [hcst]; omega), hcst]; rfl
    · dsimp only
      rw [hw, wrap64 (a := n * 16) (by omega) (by omega), wrap64 (a := n * 16 + _) (by omega) (by omega)]
      conv => whnf
      (refine GOES.cutting h0 rfl rfl rfl (by first | rfl | simp [belowO, belowH, plainLL_below, plainLL_map, plainL, plain]) ?_ ?_ <;> (repeat' (first | (with_reducible rfl) | (exact congrArg (fun n => SV.sl _ _ _ n _) (by simp)) | (exact congrArg (Hp.rows _) (by simp)) | (exact congrArg (SV.int _) (by first | omega | (simp (disch := omega) only [lnB, wrap64, wrap32] <;> omega) | (simp; done) | (simp <;> omega))) | ((conv => whnf); refine ⟨?_, ?_⟩) | exact trivial | (simp; done) | rfl)))
  · have hz : numR s j k 0 = some n := by rw [hc, show k - i = 0 by omega, numR]
    refine FIN.value h0 rfl (congrArg (SV.int _) ?_)
    unfold numM
    rw [hz]; simp only
    rw [if_neg (fun hh => by rw [scalarM, decide_eq_true hh] at h; cases h)]
  · have hz : numR s j k 0 = some n := by rw [hc, show k - i = 0 by omega, numR]
    refine FIN.value h0 rfl (congrArg (SV.int _) ?_)
    unfold numM
    rw [hz]; simp only
    rw [if_pos (of_decide_eq_true h)]
theorem r4escape1_does (s : List UInt8) (way : Int) (i : Nat) (hs : Sm s) (hi : i ≤ s.length) : Does Tryz.prog tab 114 0 [.str s, .int .i64 (i : Int), .int .i64 way] [] [] (Val (.tup [.int .i64 (escapeM way s i).1, .int .i64 (escapeM way s i).2])) := by
  have hw1 : IntKind.i64.wrap ((i : Int) + 1) = ((i + 1 : Nat) : Int) := by rw [wrap64 (by omega) (by omega)]; omega
  have hw2 : IntKind.i64.wrap ((i : Int) + 2) = ((i + 2 : Nat) : Int) := by rw [wrap64 (by omega) (by omega)]; omega
  have hb := byteAt_lt s (i + 1 : Nat)
  have q4 := r4number_does s (i + 2) 4 (.inl rfl) hs (by omega)
  have q8 := r4number_does s (i + 2) 8 (.inr rfl) hs (by omega)
  have g4 := numM_ge s (i + 2) 4
  have g8 := numM_ge s (i + 2) 8
  refine Does.enter tabOK (g := 114) (fn := Tryz.f114) Tryz.call114 Tryz.func114 rfl 53 rfl rfl [.tmp 6, .tmp 7] rfl ?_
  intro w0 F η0 h0
  conv => whnf
  rw [hw1]
  repeat' ((first | with_reducible refine IF.tt ?_ | with_reducible refine IF.ff ?_ | with_reducible refine ADD.mk (fun _ _ => ?_) | with_reducible refine NEED.mk (Det.of rfl) ?_ | with_reducible refine FORK.mk ?_ ?_ | (rw [hw2]; refine CALL.value q4 rfl rfl ?_; conv => whnf) | (rw [hw2]; refine CALL.value q8 rfl rfl ?_; conv => whnf) | (refine LOOP.once tabOK ?_; conv => whnf) | ((with_reducible refine NEED.mk ?_ ?_); (first | with_reducible rfl | omega | (simp (disch := omega) only [lnB, wrap64, wrap32] <;> omega) | (intro h; (try simp (disch := omega) only [hsB, hsC, lnB, wrap64, wrap32, simprocAttr] at h); (first | omega | (simp (disch := omega) only [lnB, wrap64, wrap32] <;> omega))) | (exact needApp 256 rfl rfl (by simp) (by simp) (by omega)) | (simp <;> omega))) | ((with_reducible apply GET.at); rfl) | ((with_reducible apply GETG.at); rfl) | ((with_reducible refine IF.mk (fun h => ?_) (fun h => ?_)) <;> (try simp (disch := omega) only [hsB, hsC, lnB, wrap64, wrap32, simprocAttr] at h) <;> try (exfalso; omega))) <;> conv => whnf)
  all_goals try simp only [letAt] at *
  all_goals
    refine FIN.value h0 rfl ?_
    unfold escapeM
    rw [show (((i + 1 : Nat) : Nat) : Int) = (i : Int) + 1 by omega]
    first
      | (rw [if_pos (by omega)]; done)
      | (rw [if_neg (by omega), if_pos (by assumption), if_pos h]; rfl)
      | (rw [if_neg (by omega), if_pos (by assumption), if_neg (by omega)]; done)
      | (rw [if_neg (by omega), if_neg (by assumption), if_pos (by assumption), if_pos h]; rfl)
      | (rw [if_neg (by omega), if_neg (by assumption), if_pos (by assumption), if_neg (by omega)]; done)
      | (rw [← h, if_neg (by omega), if_neg (by decide), if_neg (by decide), if_pos ⟨by omega, by decide⟩]; rfl)
      | (rw [if_neg (by omega), if_neg (by assumption), if_neg (by assumption), if_neg (fun hh => by have := letM_no (c := byteAt s ((i : Int) + 1)) ⟨by omega, by omega, by omega, by omega, by omega, by omega, by omega, by omega⟩; omega)]; done)
      | (rw [if_neg (by omega), if_neg (by assumption), if_neg (by assumption), if_neg (by omega)]; done)
      | trace_state
def R4UnescQ (u : (Nat × Int) ⊕ List UInt8) : SV := match u with
  | .inl e => .tup [.str [], .agg [.int .i64 e.1, .int .i64 e.2]]
  | .inr l => .tup [.str l, .agg [.int .i64 0, .int .i64 0]]
theorem r4unescape_does (s : List UInt8) (way : Int) (hs : s.length ≤ 140737488351232) : Does Tryz.prog tab 77 0 [.str s, .int .i64 way] [] [] (Val (R4UnescQ (unescM way s 0))) := by
  have hsm : Sm s := by omega
  refine Does.enter tabOK (g := 77) (fn := Tryz.f77) Tryz.call77 Tryz.func77 rfl 47 rfl rfl [.tmp 4, .cell 5 72] rfl ?_
  intro w0 F η0 h0
  conv => whnf
  refine LOOP.nil 6 1 rfl ?_
  refine LOOP.go tabOK [0, 1, 5] (X := Nat × List UInt8) (fun x => x.1 ≤ s.length ∧ x.2.length ≤ x.1 ∧ unescM way s 0 = pre x.2 (unescM way s x.1)) (fun x => [(7, .int .i64 (x.1 : Int)), (6, .sl (.loc 1) 0 1 x.2.length none)]) (fun x => [(0, .box [.int .i64 0, .int .i64 0]), (1, .rows 1 (x.2.map Sx.bytesRow))]) 2 (fun x => s.length - x.1) (0, []) ⟨by simp, by simp, (pre_nil _).symm⟩ ?_
  conv => whnf
  refine ⟨by (refine GOES.cutting h0 rfl rfl rfl (by first | rfl | simp [belowO, belowH, plainLL_below, plainLL_map, plainL, plain]) ?_ ?_ <;> (repeat' (first | (with_reducible rfl) | (exact congrArg (fun n => SV.sl _ _ _ n _) (by simp)) | (exact congrArg (Hp.rows _) (by simp)) | (exact congrArg (SV.int _) (by first | omega | (simp (disch := omega) only [lnB, wrap64, wrap32] <;> omega) | (simp; done) | (simp <;> omega))) | ((conv => whnf); refine ⟨?_, ?_⟩) | exact trivial | (simp; done) | rfl))), ?_⟩
  rintro ⟨i, out⟩ ⟨hi, hol, hc⟩
  dsimp only at hi hol hc ⊢
  conv => whnf
  have hn := nextAt_n s i
  have hen := escapeM_n way s i
  refine IF.mk (fun h => ?_) (fun h => ?_)
  · have h : i < s.length := by simpa using h
    by_cases h92 : byteAt s i = 92
    · have hnx := next_92 h h92
      have hnd : Does Tryz.prog tab 68 0 [.str s, .int .i64 (i : Int)] [] [] (Val (.tup [.int .i64 92, .int .i64 1])) := by
        have := ref04Next_does s (i : Int) hsm
        rw [hnx] at this; exact this
      conv => whnf
      repeat' ((first | with_reducible refine IF.tt ?_ | with_reducible refine IF.ff ?_ | refine CALL.value (hnd) rfl rfl ?_ | refine CALL.value (r4escape1_does s way i hsm (by omega)) rfl rfl ?_ | ((with_reducible refine NEED.mk ?_ ?_); (first | with_reducible rfl | omega | (simp (disch := omega) only [lnB, wrap64, wrap32] <;> omega) | (intro h; (try simp (disch := omega) only [hsB, hsC, lnB, wrap64, wrap32, simprocAttr] at h); (first | omega | (simp (disch := omega) only [lnB, wrap64, wrap32] <;> omega))) | (exact needApp 256 rfl rfl (by simp) (by simp) (by omega)) | (simp <;> omega))) | ((with_reducible apply GET.at); rfl) | ((with_reducible apply GETG.at); rfl) | ((with_reducible refine IF.mk (fun h => ?_) (fun h => ?_)) <;> (try simp (disch := omega) only [hsB, hsC, lnB, wrap64, wrap32, simprocAttr] at h) <;> try (exfalso; omega))) <;> conv => whnf)
      · refine FIN.value h0 rfl ?_
        rw [hc, unesc_bad (by omega) h92 h]; rfl
      · have hb := unesc_esc (way := way) (by omega) h92 h
        rcases hen with hen | ⟨hen1, hen2, hsc⟩
        · exact absurd hen h
        have hel := esc_enc way s i h
        have hsc2 := hsc
        obtain ⟨hs0, hs1, _⟩ := hsc2
        have hne := enc_len hs0
        refine CALL.bytes (ref04Bytes_does _ ⟨hs0, hs1⟩) rfl ?_
        conv => whnf
        repeat' ((first | with_reducible refine IF.tt ?_ | with_reducible refine IF.ff ?_ | (refine NEED.mk (needApp 1 rfl rfl (by simp) (by simp) (by omega)) ?_; conv => whnf) | ((with_reducible refine NEED.mk ?_ ?_); (first | with_reducible rfl | omega | (simp (disch := omega) only [lnB, wrap64, wrap32] <;> omega) | (intro h; (try simp (disch := omega) only [hsB, hsC, lnB, wrap64, wrap32, simprocAttr] at h); (first | omega | (simp (disch := omega) only [lnB, wrap64, wrap32] <;> omega))) | (exact needApp 256 rfl rfl (by simp) (by simp) (by omega)) | (simp <;> omega))) | ((with_reducible apply GET.at); rfl) | ((with_reducible apply GETG.at); rfl) | ((with_reducible refine IF.mk (fun h => ?_) (fun h => ?_)) <;> (try simp (disch := omega) only [hsB, hsC, lnB, wrap64, wrap32, simprocAttr] at h) <;> try (exfalso; omega))) <;> conv => whnf)
        refine ⟨(i + (escapeM way s i).2.toNat, out ++ encM (escapeM way s i).1), ⟨by simp only; omega, ?_, ?_⟩, by simp only; omega, ?_⟩
        · simp only [List.length_append]; omega
        · simp only
          rw [hc, hb, pre_pre]
        · dsimp only
          conv => whnf
          (refine GOES.keeping h0 [0, 3] rfl rfl rfl (by first | rfl | (simp only [belowO, belowH, plainLL_below _ (plainBytes _), Bool.and_self, Bool.and_true] <;> rfl)) ?_ ?_ <;> (repeat' (first | (with_reducible rfl) | (exact rows_eq (plainBytes _) (renLL_plain _ (plainBytes _))) | (exact rows_eq (plainBytes _) (by simp [Sx.bytesRow, ofVal, List.take_of_length_le])) | (exact sl_eq rfl (by simp)) | (exact congrArg (SV.int _) (by first | omega | (simp (disch := omega) only [lnB, wrap64, wrap32] <;> omega) | (simp; done) | (simp <;> omega))) | ((conv => whnf); refine ⟨?_, ?_⟩) | exact trivial | (simp only [ren, renB]; done) | rfl)))
    · have hne := next_not92 h h92
      conv => whnf
      repeat' ((first | with_reducible refine IF.tt ?_ | with_reducible refine IF.ff ?_ | refine CALL.value (ref04Next_does s _ hsm) rfl rfl ?_ | ((with_reducible refine NEED.mk ?_ ?_); (first | with_reducible rfl | omega | (simp (disch := omega) only [lnB, wrap64, wrap32] <;> omega) | (intro h; (try simp (disch := omega) only [hsB, hsC, lnB, wrap64, wrap32, simprocAttr] at h); (first | omega | (simp (disch := omega) only [lnB, wrap64, wrap32] <;> omega))) | (exact needApp 256 rfl rfl (by simp) (by simp) (by omega)) | (simp <;> omega))) | ((with_reducible apply GET.at); rfl) | ((with_reducible apply GETG.at); rfl) | ((with_reducible refine IF.mk (fun h => ?_) (fun h => ?_)) <;> (try simp (disch := omega) only [hsB, hsC, lnB, wrap64, wrap32, simprocAttr] at h) <;> try (exfalso; omega))) <;> conv => whnf)
      · refine FIN.value h0 rfl ?_
        rw [hc, unesc_wrong (by omega) h92 h]; rfl
      · rename_i h9
        have hb := unesc_next (way := way) (by omega) h92 h9
        have hsc := nextAt_scalar (s := s) (i := i) (by omega) h9
        have hel := next_enc (s := s) (i := i) (by omega) h9
        obtain ⟨hs0, hs1, _⟩ := hsc
        have hne := enc_len hs0
        refine CALL.bytes (ref04Bytes_does _ ⟨hs0, hs1⟩) rfl ?_
        conv => whnf
        repeat' ((first | with_reducible refine IF.tt ?_ | with_reducible refine IF.ff ?_ | (refine NEED.mk (needApp 1 rfl rfl (by simp) (by simp) (by omega)) ?_; conv => whnf) | ((with_reducible refine NEED.mk ?_ ?_); (first | with_reducible rfl | omega | (simp (disch := omega) only [lnB, wrap64, wrap32] <;> omega) | (intro h; (try simp (disch := omega) only [hsB, hsC, lnB, wrap64, wrap32, simprocAttr] at h); (first | omega | (simp (disch := omega) only [lnB, wrap64, wrap32] <;> omega))) | (exact needApp 256 rfl rfl (by simp) (by simp) (by omega)) | (simp <;> omega))) | ((with_reducible apply GET.at); rfl) | ((with_reducible apply GETG.at); rfl) | ((with_reducible refine IF.mk (fun h => ?_) (fun h => ?_)) <;> (try simp (disch := omega) only [hsB, hsC, lnB, wrap64, wrap32, simprocAttr] at h) <;> try (exfalso; omega))) <;> conv => whnf)
        refine ⟨(i + (nextAt s i).2.toNat, out ++ encM (nextAt s i).1), ⟨by simp only; omega, ?_, ?_⟩, by simp only; omega, ?_⟩
        · simp only [List.length_append]; omega
        · simp only
          rw [hc, hb, pre_pre]
        · dsimp only
          conv => whnf
          (refine GOES.keeping h0 [0, 3] rfl rfl rfl (by first | rfl | (simp only [belowO, belowH, plainLL_below _ (plainBytes _), Bool.and_self, Bool.and_true] <;> rfl)) ?_ ?_ <;> (repeat' (first | (with_reducible rfl) | (exact rows_eq (plainBytes _) (renLL_plain _ (plainBytes _))) | (exact rows_eq (plainBytes _) (by simp [Sx.bytesRow, ofVal, List.take_of_length_le])) | (exact sl_eq rfl (by simp)) | (exact congrArg (SV.int _) (by first | omega | (simp (disch := omega) only [lnB, wrap64, wrap32] <;> omega) | (simp; done) | (simp <;> omega))) | ((conv => whnf); refine ⟨?_, ?_⟩) | exact trivial | (simp only [ren, renB]; done) | rfl)))
  · have hb := unesc_end (way := way) (s := s) (i := i) (by simp at h; omega)
    rw [hb] at hc
    conv => whnf
    repeat' ((first | with_reducible refine IF.tt ?_ | with_reducible refine IF.ff ?_ | (refine NEED.mk (needText (by simp)) ?_; conv => whnf) | ((with_reducible refine NEED.mk ?_ ?_); (first | with_reducible rfl | omega | (simp (disch := omega) only [lnB, wrap64, wrap32] <;> omega) | (intro h; (try simp (disch := omega) only [hsB, hsC, lnB, wrap64, wrap32, simprocAttr] at h); (first | omega | (simp (disch := omega) only [lnB, wrap64, wrap32] <;> omega))) | (exact needApp 256 rfl rfl (by simp) (by simp) (by omega)) | (simp <;> omega))) | ((with_reducible apply GET.at); rfl) | ((with_reducible apply GETG.at); rfl) | ((with_reducible refine IF.mk (fun h => ?_) (fun h => ?_)) <;> (try simp (disch := omega) only [hsB, hsC, lnB, wrap64, wrap32, simprocAttr] at h) <;> try (exfalso; omega))) <;> conv => whnf)
    refine FIN.value h0 rfl ?_
    rw [hc, textAll]
    simp [R4UnescQ, pre]
end Go.Proofs.YtpffclpheldabaaGreatDoor
/- The reference's names: labels, walked. Conditions: none. -/
set_option linter.unusedVariables false
set_option linter.unusedSimpArgs false
set_option maxRecDepth 20000
namespace Go.Proofs.YtpffclpheldabaaGreatDoor
open Go.Sx Go.Our
theorem r6Digit_does (r : Int) : Does Tryz.prog tab 81 0 [.int .i64 r] [] [] (Val (.bool (decide (DigitI r)))) := by
  refine Does.enter tabOK (g := 81) (fn := Tryz.f81) Tryz.call81 Tryz.func81 rfl 9 rfl rfl [.tmp 2] rfl ?_
  intro w0 F η0 h0
  conv => whnf
  repeat' ((first | with_reducible refine IF.tt ?_ | with_reducible refine IF.ff ?_ | ((with_reducible refine NEED.mk ?_ ?_); (first | with_reducible rfl | omega | (simp (disch := omega) only [lnB, wrap64, wrap32] <;> omega) | (intro h; (try simp (disch := omega) only [hsB, hsC, lnB, wrap64, wrap32, simprocAttr] at h); (first | omega | (simp (disch := omega) only [lnB, wrap64, wrap32] <;> omega))) | (exact needApp 256 rfl rfl (by simp) (by simp) (by omega)) | (simp <;> omega))) | ((with_reducible apply GET.at); rfl) | ((with_reducible apply GETG.at); rfl) | ((with_reducible refine IF.mk (fun h => ?_) (fun h => ?_)) <;> (try simp (disch := omega) only [hsB, hsC, lnB, wrap64, wrap32, simprocAttr] at h) <;> try (exfalso; omega))) <;> conv => whnf)
  refine FIN.value h0 rfl (congrArg SV.bool ?_)
  rw [Bool.eq_iff_iff]
  simp only [Bool.cond_eq_ite, decide_eq_true_eq, Bool.if_false_right, Bool.if_true_left, Bool.and_eq_true, Bool.or_eq_true]
  rfl
def baseRows : List (List SV) := [65, 90, 97, 122, 192, 214, 216, 246, 248, 767, 880, 893, 895, 8191, 8204, 8205, 8304, 8591, 11264, 12271, 12289, 55295, 63744, 64975, 65008, 65533, 65536, 983039].map fun x => [SV.int .i64 x]
theorem r6bases_does : Does Tryz.prog tab 153 0 [] [] [] (Val (.arr 1 baseRows)) := by
  refine Does.enter tabOK (g := 153) (fn := Tryz.f153) Tryz.call153 Tryz.func153 rfl 2 rfl rfl [.cell 0 169] rfl ?_
  intro w0 F η0 h0
  conv => whnf
  repeat' ((first | with_reducible refine IF.tt ?_ | with_reducible refine IF.ff ?_ | ((with_reducible refine NEED.mk ?_ ?_); (first | with_reducible rfl | omega | (simp (disch := omega) only [lnB, wrap64, wrap32] <;> omega) | (intro h; (try simp (disch := omega) only [hsB, hsC, lnB, wrap64, wrap32, simprocAttr] at h); (first | omega | (simp (disch := omega) only [lnB, wrap64, wrap32] <;> omega))) | (exact needApp 256 rfl rfl (by simp) (by simp) (by omega)) | (simp <;> omega))) | ((with_reducible apply GET.at); rfl) | ((with_reducible apply GETG.at); rfl) | ((with_reducible refine IF.mk (fun h => ?_) (fun h => ?_)) <;> (try simp (disch := omega) only [hsB, hsC, lnB, wrap64, wrap32, simprocAttr] at h) <;> try (exfalso; omega))) <;> conv => whnf)
  exact FIN.value h0 rfl rfl
theorem r6Base_does (r : Int) : Does Tryz.prog tab 116 0 [.int .i64 r] [] [] (Val (.bool (decide (BaseI r)))) := by
  refine Does.enter tabOK (g := 116) (fn := Tryz.f116) Tryz.call116 Tryz.func116 rfl 23 rfl rfl [.tmp 2] rfl ?_
  intro w0 F η0 h0
  conv => whnf
  repeat' ((first | with_reducible refine IF.tt ?_ | with_reducible refine IF.ff ?_ | refine CALL.value (r6bases_does) rfl rfl ?_ | (refine LOOP.once tabOK ?_; conv => whnf) | (refine NEED.mk ⟨rfl, rfl, rfl, rfl, rfl⟩ ?_; conv => whnf) | ((with_reducible refine NEED.mk ?_ ?_); (first | with_reducible rfl | omega | (simp (disch := omega) only [lnB, wrap64, wrap32] <;> omega) | (intro h; (try simp (disch := omega) only [hsB, hsC, lnB, wrap64, wrap32, simprocAttr] at h); (first | omega | (simp (disch := omega) only [lnB, wrap64, wrap32] <;> omega))) | (exact needApp 256 rfl rfl (by simp) (by simp) (by omega)) | (simp <;> omega))) | ((with_reducible apply GET.at); rfl) | ((with_reducible apply GETG.at); rfl) | ((with_reducible refine IF.mk (fun h => ?_) (fun h => ?_)) <;> (try simp (disch := omega) only [hsB, hsC, lnB, wrap64, wrap32, simprocAttr] at h) <;> try (exfalso; omega))) <;> conv => whnf)
  all_goals
    refine FIN.value h0 rfl (congrArg SV.bool ?_)
    first
      | exact (decide_eq_true (by unfold BaseI; omega)).symm
      | exact (decide_eq_false (by unfold BaseI; omega)).symm
theorem r6Starter_does (r : Int) : Does Tryz.prog tab 80 0 [.int .i64 r] [] [] (Val (.bool (decide (StartI r)))) := by
  refine Does.enter tabOK (g := 80) (fn := Tryz.f80) Tryz.call80 Tryz.func80 rfl 9 rfl rfl [.tmp 2] rfl ?_
  intro w0 F η0 h0
  conv => whnf
  repeat' ((first | with_reducible refine IF.tt ?_ | with_reducible refine IF.ff ?_ | refine CALL.value (r6Base_does _) rfl rfl ?_ | ((with_reducible refine NEED.mk ?_ ?_); (first | with_reducible rfl | omega | (simp (disch := omega) only [lnB, wrap64, wrap32] <;> omega) | (intro h; (try simp (disch := omega) only [hsB, hsC, lnB, wrap64, wrap32, simprocAttr] at h); (first | omega | (simp (disch := omega) only [lnB, wrap64, wrap32] <;> omega))) | (exact needApp 256 rfl rfl (by simp) (by simp) (by omega)) | (simp <;> omega))) | ((with_reducible apply GET.at); rfl) | ((with_reducible apply GETG.at); rfl) | ((with_reducible refine IF.mk (fun h => ?_) (fun h => ?_)) <;> (try simp (disch := omega) only [hsB, hsC, lnB, wrap64, wrap32, simprocAttr] at h) <;> try (exfalso; omega))) <;> conv => whnf)
  all_goals
    refine FIN.value h0 rfl (congrArg SV.bool ?_)
    rw [Bool.eq_iff_iff, decide_eq_true_iff]
    unfold StartI
    simp
theorem r6Follower_does (r : Int) : Does Tryz.prog tab 82 0 [.int .i64 r] [] [] (Val (.bool (decide (FollowI r)))) := by
  refine Does.enter tabOK (g := 82) (fn := Tryz.f82) Tryz.call82 Tryz.func82 rfl 33 rfl rfl [.tmp 2] rfl ?_
  intro w0 F η0 h0
  conv => whnf
  repeat' ((first | with_reducible refine IF.tt ?_ | with_reducible refine IF.ff ?_ | refine CALL.value (r6Starter_does _) rfl rfl ?_ | refine CALL.value (r6Digit_does _) rfl rfl ?_ | ((with_reducible refine NEED.mk ?_ ?_); (first | with_reducible rfl | omega | (simp (disch := omega) only [lnB, wrap64, wrap32] <;> omega) | (intro h; (try simp (disch := omega) only [hsB, hsC, lnB, wrap64, wrap32, simprocAttr] at h); (first | omega | (simp (disch := omega) only [lnB, wrap64, wrap32] <;> omega))) | (exact needApp 256 rfl rfl (by simp) (by simp) (by omega)) | (simp <;> omega))) | ((with_reducible apply GET.at); rfl) | ((with_reducible apply GETG.at); rfl) | ((with_reducible refine IF.mk (fun h => ?_) (fun h => ?_)) <;> (try simp (disch := omega) only [hsB, hsC, lnB, wrap64, wrap32, simprocAttr] at h) <;> try (exfalso; omega))) <;> conv => whnf)
  all_goals
    refine FIN.value h0 rfl (congrArg SV.bool ?_)
    rw [Bool.eq_iff_iff]
    unfold FollowI
    simp_all
    try omega
/-- A row of a list of numbers. -/
def intRow (x : Int) : List SV := [.int .i64 x]
theorem plainInts (l : List Int) : plainLL (l.map intRow) = true := plainLL_map _ (fun _ => rfl) l
theorem shaped_drop {l : List Int} {i : Nat} (h : i < l.length) : shapedM (l.drop i) = if i + 1 = l.length then decide (FollowI l[i]) else (decide (FollowI l[i] ∨ l[i] = 46) && shapedM (l.drop (i + 1))) := by
  rw [List.drop_eq_getElem_cons h]
  cases hd : l.drop (i + 1) with
  | nil =>
    have := congrArg List.length hd
    simp at this
    rw [if_pos (by omega)]; rfl
  | cons q t =>
    have := congrArg List.length hd
    simp at this
    rw [if_neg (by omega)]; rfl
theorem r6shaped_does (l : List Int) (hl : l.length ≤ 1152921504606846976) : Does Tryz.prog tab 103 1 [.sl (.loc 0) 0 1 l.length none] [] [(0, .rows 1 (l.map intRow))] (ValK 1 (.bool (shapedM (l.drop 1)))) := by
  refine Does.enter tabOK (g := 103) (fn := Tryz.f103) Tryz.call103 Tryz.func103 rfl 30 rfl rfl [.tmp 2] rfl ?_
  intro w0 F η0 h0
  conv => whnf
  refine LOOP.go tabOK [0] (X := Nat) (fun i => 1 ≤ i ∧ shapedM (l.drop i) = shapedM (l.drop 1)) (fun i => [(3, .int .i64 (i : Int))]) (fun i => []) 1 (fun i => l.length - i) 1 ⟨by omega, rfl⟩ ?_
  conv => whnf
  refine ⟨by (refine GOES.cutting h0 rfl rfl rfl (by first | rfl | simp [belowO, belowH, plainLL_below, plainLL_map, plainL, plain]) ?_ ?_ <;> (repeat' (first | (with_reducible rfl) | (exact congrArg (fun n => SV.sl _ _ _ n _) (by simp)) | (exact congrArg (Hp.rows _) (by simp)) | (exact congrArg (SV.int _) (by first | omega | (simp (disch := omega) only [lnB, wrap64, wrap32] <;> omega) | (simp; done) | (simp <;> omega))) | ((conv => whnf); refine ⟨?_, ?_⟩) | exact trivial | (simp; done) | rfl))), ?_⟩
  rintro i ⟨hi, hc⟩
  conv => whnf
  repeat' ((first | with_reducible refine IF.tt ?_ | with_reducible refine IF.ff ?_ | refine CALL.value (r6Follower_does _) rfl rfl ?_ | (refine GET.map (by omega) ?_; conv => whnf) | (refine GETG.at (row := intRow (l[0 + (i : Int).toNat]'(by omega))) (by rw [List.getElem?_map, List.getElem?_eq_getElem (by omega)]; rfl) ?_; conv => whnf) | ((with_reducible refine NEED.mk ?_ ?_); (first | with_reducible rfl | omega | (simp (disch := omega) only [lnB, wrap64, wrap32] <;> omega) | (intro h; (try simp (disch := omega) only [hsB, hsC, lnB, wrap64, wrap32, simprocAttr] at h); (first | omega | (simp (disch := omega) only [lnB, wrap64, wrap32] <;> omega))) | (exact needApp 256 rfl rfl (by simp) (by simp) (by omega)) | (simp <;> omega))) | ((with_reducible apply GET.at); rfl) | ((with_reducible apply GETG.at); rfl) | ((with_reducible refine IF.mk (fun h => ?_) (fun h => ?_)) <;> (try simp (disch := omega) only [hsB, hsC, lnB, wrap64, wrap32, simprocAttr] at h) <;> try (exfalso; omega))) <;> conv => whnf)
  · rename_i h1
    have h1 : i < l.length := by omega
    have e : l[0 + (i : Int).toNat] = l[i] := by congr 1; omega
    rw [e] at h
    refine FIN.valueK h0 rfl (congrArg SV.bool ?_)
    rw [← hc, shaped_drop h1]
    split
    · simp [h.1]
    · rcases h.2 with h2 | h2
      · simp [h.1, h2]
      · omega
  · rename_i h1
    have h1 : i < l.length := by omega
    have e : l[0 + (i : Int).toNat] = l[i] := by congr 1; omega
    rw [e] at h
    refine ⟨i + 1, ⟨by omega, ?_⟩, by omega, ?_⟩
    · rw [← hc, shaped_drop h1]
      by_cases hf : FollowI l[i]
      · split
        · rename_i h2; rw [List.drop_eq_nil_of_le (by omega)]; simp [hf, shapedM]
        · simp [hf]
      · have := h hf
        rw [if_neg (by omega)]; simp [this.1]
    · conv => whnf
      (refine GOES.cutting h0 rfl rfl rfl (by first | rfl | simp [belowO, belowH, plainLL_below, plainLL_map, plainL, plain]) ?_ ?_ <;> (repeat' (first | (with_reducible rfl) | (exact congrArg (fun n => SV.sl _ _ _ n _) (by simp)) | (exact congrArg (Hp.rows _) (by simp)) | (exact congrArg (SV.int _) (by first | omega | (simp (disch := omega) only [lnB, wrap64, wrap32] <;> omega) | (simp; done) | (simp <;> omega))) | ((conv => whnf); refine ⟨?_, ?_⟩) | exact trivial | (simp; done) | rfl)))
  · refine FIN.valueK h0 rfl (congrArg SV.bool ?_)
    rw [← hc, List.drop_eq_nil_of_le (by omega)]; rfl
/-- What is left of the scalars, and whether all is UTF-8. -/
def ScalarsQ (o : Option (List Int)) : SV → Hps → Nat → Prop := fun r O nx => match o with
  | some l => r = .tup [.sl (.loc 0) 0 1 l.length none, .bool true] ∧ O = [(0, .rows 1 (l.map intRow))] ∧ nx = 1
  | none => r = .tup [.val (.slice none 0 0), .bool false] ∧ O = [] ∧ nx = 0
theorem r6scalars_does (s : List UInt8) (hs : s.length ≤ 68719476736) : Does Tryz.prog tab 102 0 [.str s] [] [] (ScalarsQ (scalarsM s 0)) := by
  refine Does.enter tabOK (g := 102) (fn := Tryz.f102) Tryz.call102 Tryz.func102 rfl 28 rfl rfl [.tmp 2, .tmp 3] rfl ?_
  intro w0 F η0 h0
  conv => whnf
  refine LOOP.nil 4 1 rfl ?_
  refine LOOP.go tabOK [0] (X := Nat × List Int) (fun x => x.1 ≤ s.length ∧ x.2.length ≤ x.1 ∧ scalarsM s 0 = (scalarsM s x.1).map (x.2 ++ ·)) (fun x => [(5, .int .i64 (x.1 : Int)), (4, .sl (.loc 0) 0 1 x.2.length none)]) (fun x => [(0, .rows 1 (x.2.map intRow))]) 1 (fun x => s.length - x.1) (0, []) ⟨by simp, by simp, by cases scalarsM s 0 <;> simp⟩ ?_
  conv => whnf
  refine ⟨by (refine GOES.cutting h0 rfl rfl rfl (by first | rfl | simp [belowO, belowH, plainLL_below, plainLL_map, plainL, plain]) ?_ ?_ <;> (repeat' (first | (with_reducible rfl) | (exact congrArg (fun n => SV.sl _ _ _ n _) (by simp)) | (exact congrArg (Hp.rows _) (by simp)) | (exact congrArg (SV.int _) (by first | omega | (simp (disch := omega) only [lnB, wrap64, wrap32] <;> omega) | (simp; done) | (simp <;> omega))) | ((conv => whnf); refine ⟨?_, ?_⟩) | exact trivial | (simp; done) | rfl))), ?_⟩
  rintro ⟨i, l⟩ ⟨hi, hl, hc⟩
  simp only at hi hl hc
  have hn := nextAt_n s i
  dsimp only
  conv => whnf
  repeat' ((first | with_reducible refine IF.tt ?_ | with_reducible refine IF.ff ?_ | refine CALL.value (ref04Next_does s _ (by omega)) rfl rfl ?_ | ((with_reducible refine NEED.mk ?_ ?_); (first | with_reducible rfl | omega | (simp (disch := omega) only [lnB, wrap64, wrap32] <;> omega) | (intro h; (try simp (disch := omega) only [hsB, hsC, lnB, wrap64, wrap32, simprocAttr] at h); (first | omega | (simp (disch := omega) only [lnB, wrap64, wrap32] <;> omega))) | (exact needApp 256 rfl rfl (by simp) (by simp) (by omega)) | (simp <;> omega))) | ((with_reducible apply GET.at); rfl) | ((with_reducible apply GETG.at); rfl) | ((with_reducible refine IF.mk (fun h => ?_) (fun h => ?_)) <;> (try simp (disch := omega) only [hsB, hsC, lnB, wrap64, wrap32, simprocAttr] at h) <;> try (exfalso; omega))) <;> conv => whnf)
  · rename_i h1
    refine FIN.val h0 rfl ?_
    have : scalarsM s i = none := by rw [scalarsM, dif_pos (by omega), dif_neg (by simpa using h)]
    rw [hc, this]
    exact ⟨rfl, rfl, rfl⟩
  · rename_i h1
    refine ⟨(i + (nextAt s i).2.toNat, l ++ [(nextAt s i).1]), ⟨by simp only; omega, by simp only [List.length_append, List.length_cons, List.length_nil]; omega, ?_⟩, by simp only; omega, ?_⟩
    · rw [hc]
      conv => lhs; rw [scalarsM, dif_pos (by omega), dif_pos (by simpa using h)]
      cases scalarsM s (i + (nextAt s i).2.toNat) <;> simp
    · dsimp only
      conv => whnf
      (refine GOES.keeping h0 [2] rfl rfl rfl (by first | rfl | (simp only [belowO, belowH, plainLL_below _ (plainInts _), Bool.and_self, Bool.and_true] <;> rfl)) ?_ ?_ <;> (repeat' (first | (with_reducible rfl) | (exact rows_eq (plainInts _) (renLL_plain _ (plainInts _))) | (exact rows_eq (plainInts _) (by simp [intRow, ofVal, List.take_of_length_le])) | (exact sl_eq rfl (by simp)) | (exact congrArg (SV.int _) (by first | omega | (simp (disch := omega) only [lnB, wrap64, wrap32] <;> omega) | (simp; done) | (simp <;> omega))) | ((conv => whnf); refine ⟨?_, ?_⟩) | exact trivial | (simp only [ren, renB]; done) | rfl)))
  · refine FIN.rowsT h0 0 1 _ rfl rfl rfl (plainInts _) rfl ?_
    have : scalarsM s i = some [] := by rw [scalarsM, dif_neg (by omega)]
    rw [hc, this]
    simp [ScalarsQ]
theorem scalars_len (s : List UInt8) (i : Nat) : ∀ l, scalarsM s i = some l → l.length ≤ s.length - i := by
  induction i using scalarsM.induct s with
  | case1 i h h0 ih =>
    intro l hl
    have hn := nextAt_n s i
    rw [scalarsM, dif_pos h, dif_pos h0] at hl
    cases hc : scalarsM s (i + (nextAt s i).2.toNat) with
    | none => rw [hc] at hl; cases hl
    | some t =>
      rw [hc] at hl
      simp only [Option.map_some, Option.some.injEq] at hl
      subst hl
      have := ih t hc
      simp only [List.length_cons]; omega
  | case2 i h h0 => intro l hl; rw [scalarsM, dif_pos h, dif_neg h0] at hl; cases hl
  | case3 i h => intro l hl; rw [scalarsM, dif_neg h] at hl; injection hl with hl; subst hl; simp
theorem r6Label_does (s : List UInt8) (hs : s.length ≤ 68719476736) : Does Tryz.prog tab 65 0 [.str s] [] [] (Val (.int .i64 (labelR s))) := by
  refine Does.enter tabOK (g := 65) (fn := Tryz.f65) Tryz.call65 Tryz.func65 rfl 36 rfl rfl [.tmp 2] rfl ?_
  intro w0 F η0 h0
  conv => whnf
  unfold labelR
  cases hc : scalarsM s 0 with
  | none =>
    have sp := (r6scalars_does s hs).mono (Q' := Val (.tup [.val (.slice none 0 0), .bool false])) (fun r O nx hq => by rw [hc] at hq; exact hq)
    refine CALL.value sp rfl rfl ?_
    conv => whnf
    repeat' ((first | with_reducible refine IF.tt ?_ | with_reducible refine IF.ff ?_ | ((with_reducible refine NEED.mk ?_ ?_); (first | with_reducible rfl | omega | (simp (disch := omega) only [lnB, wrap64, wrap32] <;> omega) | (intro h; (try simp (disch := omega) only [hsB, hsC, lnB, wrap64, wrap32, simprocAttr] at h); (first | omega | (simp (disch := omega) only [lnB, wrap64, wrap32] <;> omega))) | (exact needApp 256 rfl rfl (by simp) (by simp) (by omega)) | (simp <;> omega))) | ((with_reducible apply GET.at); rfl) | ((with_reducible apply GETG.at); rfl) | ((with_reducible refine IF.mk (fun h => ?_) (fun h => ?_)) <;> (try simp (disch := omega) only [hsB, hsC, lnB, wrap64, wrap32, simprocAttr] at h) <;> try (exfalso; omega))) <;> conv => whnf)
    exact FIN.value h0 rfl rfl
  | some l =>
    have sp := (r6scalars_does s hs).mono (Q' := NewT 1 (l.map intRow) [.bool true]) (fun r O nx hq => by rw [hc] at hq; simpa [NewT, ScalarsQ] using hq)
    refine CALL.newT sp rfl (plainInts l) rfl ?_
    have hlen : (l.map intRow).length = l.length := by simp
    rw [hlen]
    conv => whnf
    cases l with
    | nil =>
      repeat' ((first | with_reducible refine IF.tt ?_ | with_reducible refine IF.ff ?_ | ((with_reducible refine NEED.mk ?_ ?_); (first | with_reducible rfl | omega | (simp (disch := omega) only [lnB, wrap64, wrap32] <;> omega) | (intro h; (try simp (disch := omega) only [hsB, hsC, lnB, wrap64, wrap32, simprocAttr] at h); (first | omega | (simp (disch := omega) only [lnB, wrap64, wrap32] <;> omega))) | (exact needApp 256 rfl rfl (by simp) (by simp) (by omega)) | (simp <;> omega))) | ((with_reducible apply GET.at); rfl) | ((with_reducible apply GETG.at); rfl) | ((with_reducible refine IF.mk (fun h => ?_) (fun h => ?_)) <;> (try simp (disch := omega) only [hsB, hsC, lnB, wrap64, wrap32, simprocAttr] at h) <;> try (exfalso; omega))) <;> conv => whnf)
      exact FIN.value h0 rfl rfl
    | cons r l =>
      have hL : (r :: l).length ≤ 1152921504606846976 := by have := scalars_len s 0 _ hc; omega
      repeat' ((first | with_reducible refine IF.tt ?_ | with_reducible refine IF.ff ?_ | (refine GET.at (row := intRow r) rfl ?_; conv => whnf) | refine CALL.value (r6Starter_does _) rfl rfl ?_ | refine CALL.value (r6Digit_does _) rfl rfl ?_ | (refine CALL.look1 _ (r6shaped_does (r :: l) hL) rfl rfl rfl rfl (plainInts _) rfl ?_; conv => whnf) | ((with_reducible refine NEED.mk ?_ ?_); (first | with_reducible rfl | omega | (simp (disch := omega) only [lnB, wrap64, wrap32] <;> omega) | (intro h; (try simp (disch := omega) only [hsB, hsC, lnB, wrap64, wrap32, simprocAttr] at h); (first | omega | (simp (disch := omega) only [lnB, wrap64, wrap32] <;> omega))) | (exact needApp 256 rfl rfl (by simp) (by simp) (by omega)) | (simp <;> omega))) | ((with_reducible apply GET.at); rfl) | ((with_reducible apply GETG.at); rfl) | ((with_reducible refine IF.mk (fun h => ?_) (fun h => ?_)) <;> (try simp (disch := omega) only [hsB, hsC, lnB, wrap64, wrap32, simprocAttr] at h) <;> try (exfalso; omega))) <;> conv => whnf)
      all_goals
        refine FIN.value h0 rfl (congrArg (SV.int _) ?_)
        try simp only [List.drop_succ_cons, List.drop_zero] at h
        unfold LabelI
        simp [*]
end Go.Proofs.YtpffclpheldabaaGreatDoor
/- The reference's names: parts of tags, walked. Conditions: none. -/
set_option linter.unusedVariables false
set_option linter.unusedSimpArgs false
set_option maxRecDepth 20000
namespace Go.Proofs.YtpffclpheldabaaGreatDoor
open Go.Sx Go.Our
theorem r6letters_does (s : List UInt8) (hs : Sm s) : Does Tryz.prog tab 179 0 [.str s] [] [] (Val (.bool (allB letterB s 0))) := by
  refine Does.enter tabOK (g := 179) (fn := Tryz.f179) Tryz.call179 Tryz.func179 rfl 29 rfl rfl [.tmp 2] rfl ?_
  intro w0 F η0 h0
  conv => whnf
  refine LOOP.go tabOK [0] (X := Nat) (fun i => i ≤ s.length ∧ allB letterB s i = allB letterB s 0) (fun i => [(3, .int .i64 (i : Int))]) (fun i => []) 0 (fun i => s.length - i) 0 ⟨by omega, rfl⟩ ?_
  conv => whnf
  refine ⟨by (refine GOES.cutting h0 rfl rfl rfl (by first | rfl | simp [belowO, belowH, plainLL_below, plainLL_map, plainL, plain]) ?_ ?_ <;> (repeat' (first | (with_reducible rfl) | (exact congrArg (fun n => SV.sl _ _ _ n _) (by simp)) | (exact congrArg (Hp.rows _) (by simp)) | (exact congrArg (SV.int _) (by first | omega | (simp (disch := omega) only [lnB, wrap64, wrap32] <;> omega) | (simp; done) | (simp <;> omega))) | ((conv => whnf); refine ⟨?_, ?_⟩) | exact trivial | (simp; done) | rfl))), ?_⟩
  rintro i ⟨hi, hc⟩
  conv => whnf
  repeat' ((first | with_reducible refine IF.tt ?_ | with_reducible refine IF.ff ?_ | ((with_reducible refine NEED.mk ?_ ?_); (first | with_reducible rfl | omega | (simp (disch := omega) only [lnB, wrap64, wrap32] <;> omega) | (intro h; (try simp (disch := omega) only [hsB, hsC, lnB, wrap64, wrap32, simprocAttr] at h); (first | omega | (simp (disch := omega) only [lnB, wrap64, wrap32] <;> omega))) | (exact needApp 256 rfl rfl (by simp) (by simp) (by omega)) | (simp <;> omega))) | ((with_reducible apply GET.at); rfl) | ((with_reducible apply GETG.at); rfl) | ((with_reducible refine IF.mk (fun h => ?_) (fun h => ?_)) <;> (try simp (disch := omega) only [hsB, hsC, lnB, wrap64, wrap32, simprocAttr] at h) <;> try (exfalso; omega))) <;> conv => whnf)
  · refine FIN.value h0 rfl (congrArg SV.bool ?_)
    rw [← hc, allB_at (by omega), show letterB (byteAt s i) = false from decide_eq_false (by unfold LetterI; omega)]; rfl
  · refine ⟨i + 1, ⟨by omega, ?_⟩, by omega, ?_⟩
    · rw [← hc, allB_at (i := i) (by omega), show letterB (byteAt s i) = true from decide_eq_true (by unfold LetterI; omega), Bool.true_and]
    · conv => whnf
      (refine GOES.cutting h0 rfl rfl rfl (by first | rfl | simp [belowO, belowH, plainLL_below, plainLL_map, plainL, plain]) ?_ ?_ <;> (repeat' (first | (with_reducible rfl) | (exact congrArg (fun n => SV.sl _ _ _ n _) (by simp)) | (exact congrArg (Hp.rows _) (by simp)) | (exact congrArg (SV.int _) (by first | omega | (simp (disch := omega) only [lnB, wrap64, wrap32] <;> omega) | (simp; done) | (simp <;> omega))) | ((conv => whnf); refine ⟨?_, ?_⟩) | exact trivial | (simp; done) | rfl)))
  · refine FIN.value h0 rfl (congrArg SV.bool ?_)
    rw [← hc, allB_end (by omega)]
theorem r6numerals_does (s : List UInt8) (hs : Sm s) : Does Tryz.prog tab 178 0 [.str s] [] [] (Val (.bool (allB digitB s 0))) := by
  refine Does.enter tabOK (g := 178) (fn := Tryz.f178) Tryz.call178 Tryz.func178 rfl 20 rfl rfl [.tmp 2] rfl ?_
  intro w0 F η0 h0
  conv => whnf
  refine LOOP.go tabOK [0] (X := Nat) (fun i => i ≤ s.length ∧ allB digitB s i = allB digitB s 0) (fun i => [(3, .int .i64 (i : Int))]) (fun i => []) 0 (fun i => s.length - i) 0 ⟨by omega, rfl⟩ ?_
  conv => whnf
  refine ⟨by (refine GOES.cutting h0 rfl rfl rfl (by first | rfl | simp [belowO, belowH, plainLL_below, plainLL_map, plainL, plain]) ?_ ?_ <;> (repeat' (first | (with_reducible rfl) | (exact congrArg (fun n => SV.sl _ _ _ n _) (by simp)) | (exact congrArg (Hp.rows _) (by simp)) | (exact congrArg (SV.int _) (by first | omega | (simp (disch := omega) only [lnB, wrap64, wrap32] <;> omega) | (simp; done) | (simp <;> omega))) | ((conv => whnf); refine ⟨?_, ?_⟩) | exact trivial | (simp; done) | rfl))), ?_⟩
  rintro i ⟨hi, hc⟩
  conv => whnf
  repeat' ((first | with_reducible refine IF.tt ?_ | with_reducible refine IF.ff ?_ | ((with_reducible refine NEED.mk ?_ ?_); (first | with_reducible rfl | omega | (simp (disch := omega) only [lnB, wrap64, wrap32] <;> omega) | (intro h; (try simp (disch := omega) only [hsB, hsC, lnB, wrap64, wrap32, simprocAttr] at h); (first | omega | (simp (disch := omega) only [lnB, wrap64, wrap32] <;> omega))) | (exact needApp 256 rfl rfl (by simp) (by simp) (by omega)) | (simp <;> omega))) | ((with_reducible apply GET.at); rfl) | ((with_reducible apply GETG.at); rfl) | ((with_reducible refine IF.mk (fun h => ?_) (fun h => ?_)) <;> (try simp (disch := omega) only [hsB, hsC, lnB, wrap64, wrap32, simprocAttr] at h) <;> try (exfalso; omega))) <;> conv => whnf)
  · refine FIN.value h0 rfl (congrArg SV.bool ?_)
    rw [← hc, allB_at (by omega), show digitB (byteAt s i) = false from decide_eq_false (by unfold DigitI; omega)]; rfl
  · refine ⟨i + 1, ⟨by omega, ?_⟩, by omega, ?_⟩
    · rw [← hc, allB_at (i := i) (by omega), show digitB (byteAt s i) = true from decide_eq_true (by unfold DigitI; omega), Bool.true_and]
    · conv => whnf
      (refine GOES.cutting h0 rfl rfl rfl (by first | rfl | simp [belowO, belowH, plainLL_below, plainLL_map, plainL, plain]) ?_ ?_ <;> (repeat' (first | (with_reducible rfl) | (exact congrArg (fun n => SV.sl _ _ _ n _) (by simp)) | (exact congrArg (Hp.rows _) (by simp)) | (exact congrArg (SV.int _) (by first | omega | (simp (disch := omega) only [lnB, wrap64, wrap32] <;> omega) | (simp; done) | (simp <;> omega))) | ((conv => whnf); refine ⟨?_, ?_⟩) | exact trivial | (simp; done) | rfl)))
  · refine FIN.value h0 rfl (congrArg SV.bool ?_)
    rw [← hc, allB_end (by omega)]
theorem cutB {s : List UInt8} {i : Nat} (h : i < s.length) : (s.drop (i : Int).toNat).take (((i : Int) + 1).toNat - (i : Int).toNat) = [s.getD i 0] := by
  rw [show ((i : Int) + 1).toNat - (i : Int).toNat = 1 by omega, Int.toNat_natCast, drop_cons h]; rfl
theorem bn_get (s : List UInt8) (i : Nat) : bn (s.getD i 0) = byteAt s i := rfl
theorem r6both_does (s : List UInt8) (least most : Int) (hs : Sm s) : Does Tryz.prog tab 143 0 [.str s, .int .i64 least, .int .i64 most] [] [] (Val (.bool (madeM s least most false))) := by
  refine Does.enter tabOK (g := 143) (fn := Tryz.f143) Tryz.call143 Tryz.func143 rfl 40 rfl rfl [.tmp 6] rfl ?_
  intro w0 F η0 h0
  conv => whnf
  refine LOOP.go tabOK [0, 1, 2] (X := Nat) (fun i => i ≤ s.length ∧ allB (partB false) s i = allB (partB false) s 0) (fun i => [(7, .int .i64 (i : Int))]) (fun i => []) 0 (fun i => s.length - i) 0 ⟨by omega, rfl⟩ ?_
  conv => whnf
  refine ⟨by (refine GOES.cutting h0 rfl rfl rfl (by first | rfl | simp [belowO, belowH, plainLL_below, plainLL_map, plainL, plain]) ?_ ?_ <;> (repeat' (first | (with_reducible rfl) | (exact congrArg (fun n => SV.sl _ _ _ n _) (by simp)) | (exact congrArg (Hp.rows _) (by simp)) | (exact congrArg (SV.int _) (by first | omega | (simp (disch := omega) only [lnB, wrap64, wrap32] <;> omega) | (simp; done) | (simp <;> omega))) | ((conv => whnf); refine ⟨?_, ?_⟩) | exact trivial | (simp; done) | rfl))), ?_⟩
  rintro i ⟨hi, hc⟩
  conv => whnf
  have sm : ∀ n m, Sm ((s.drop n).take m) := fun n m => by simp; omega
  repeat' ((first | with_reducible refine IF.tt ?_ | with_reducible refine IF.ff ?_ | refine CALL.value (r6letters_does _ (sm _ _)) rfl rfl ?_ | refine CALL.value (r6numerals_does _ (sm _ _)) rfl rfl ?_ | ((with_reducible refine NEED.mk ?_ ?_); (first | with_reducible rfl | omega | (simp (disch := omega) only [lnB, wrap64, wrap32] <;> omega) | (intro h; (try simp (disch := omega) only [hsB, hsC, lnB, wrap64, wrap32, simprocAttr] at h); (first | omega | (simp (disch := omega) only [lnB, wrap64, wrap32] <;> omega))) | (exact needApp 256 rfl rfl (by simp) (by simp) (by omega)) | (simp <;> omega))) | ((with_reducible apply GET.at); rfl) | ((with_reducible apply GETG.at); rfl) | ((with_reducible refine IF.mk (fun h => ?_) (fun h => ?_)) <;> (try simp (disch := omega) only [hsB, hsC, lnB, wrap64, wrap32, simprocAttr] at h) <;> try (exfalso; omega))) <;> conv => whnf)
  all_goals first
    | (have hl : i < s.length := by omega
       simp only [cutB hl, allB_one, bn_get] at *
       first
         | (refine FIN.value h0 rfl (congrArg SV.bool ?_)
            have h1 : partB false (byteAt s i) = false := by unfold partB; simp [*]
            unfold madeM; rw [← hc, allB_at hl, h1]; rfl)
         | (have h1 : partB false (byteAt s i) = true := by unfold partB; simp [*]
            refine ⟨i + 1, ⟨by omega, ?_⟩, by omega, ?_⟩
            · rw [← hc, allB_at (i := i) hl, h1, Bool.true_and]
            · conv => whnf
              (refine GOES.cutting h0 rfl rfl rfl (by first | rfl | simp [belowO, belowH, plainLL_below, plainLL_map, plainL, plain]) ?_ ?_ <;> (repeat' (first | (with_reducible rfl) | (exact congrArg (fun n => SV.sl _ _ _ n _) (by simp)) | (exact congrArg (Hp.rows _) (by simp)) | (exact congrArg (SV.int _) (by first | omega | (simp (disch := omega) only [lnB, wrap64, wrap32] <;> omega) | (simp; done) | (simp <;> omega))) | ((conv => whnf); refine ⟨?_, ?_⟩) | exact trivial | (simp; done) | rfl)))))
    | (refine FIN.value h0 rfl (congrArg SV.bool ?_)
       unfold madeM; rw [← hc, allB_end (by omega), Bool.eq_iff_iff]
       simp [Bool.cond_eq_ite])
theorem take1 {s : List UInt8} (h : 0 < s.length) : s.take (1 : Int).toNat = [s.getD 0 0] := by
  cases s with
  | nil => simp at h
  | cons a t => rfl
theorem r6variant_does (s : List UInt8) (hs : Sm s) : Does Tryz.prog tab 142 0 [.str s] [] [] (Val (.bool (variantM s))) := by
  have hm : madeM s 4 4 false = true → s.length = 4 := by unfold madeM; simp; omega
  have sm : ∀ m, Sm (s.take m) := fun m => by simp; omega
  refine Does.enter tabOK (g := 142) (fn := Tryz.f142) Tryz.call142 Tryz.func142 rfl 14 rfl rfl [.tmp 2] rfl ?_
  intro w0 F η0 h0
  conv => whnf
  repeat' ((first | with_reducible refine IF.tt ?_ | with_reducible refine IF.ff ?_ | refine CALL.value (r6both_does _ _ _ hs) rfl rfl ?_ | refine CALL.value (r6numerals_does _ (sm _)) rfl rfl ?_ | (refine NEED.mk (by have := hm (by assumption); omega) ?_; conv => whnf) | ((with_reducible refine NEED.mk ?_ ?_); (first | with_reducible rfl | omega | (simp (disch := omega) only [lnB, wrap64, wrap32] <;> omega) | (intro h; (try simp (disch := omega) only [hsB, hsC, lnB, wrap64, wrap32, simprocAttr] at h); (first | omega | (simp (disch := omega) only [lnB, wrap64, wrap32] <;> omega))) | (exact needApp 256 rfl rfl (by simp) (by simp) (by omega)) | (simp <;> omega))) | ((with_reducible apply GET.at); rfl) | ((with_reducible apply GETG.at); rfl) | ((with_reducible refine IF.mk (fun h => ?_) (fun h => ?_)) <;> (try simp (disch := omega) only [hsB, hsC, lnB, wrap64, wrap32, simprocAttr] at h) <;> try (exfalso; omega))) <;> conv => whnf)
  all_goals
    refine FIN.value h0 rfl (congrArg SV.bool ?_)
    unfold variantM
    by_cases h4 : madeM s 4 4 false = true
    · have := hm h4
      cases s with
      | nil => simp at this
      | cons a t =>
        have ht : (a :: t).take (1 : Int).toNat = [a] := rfl
        have hb : bn a = byteAt (a :: t) 0 := rfl
        try simp only [ht, allB_one, hb] at *
        simp_all
    · simp_all
theorem r6lower_does (s : List UInt8) (hs : Sm s) : Does Tryz.prog tab 138 0 [.str s] [] [] (Val (.str (lowerM s))) := by
  refine Does.enter tabOK (g := 138) (fn := Tryz.f138) Tryz.call138 Tryz.func138 rfl 35 rfl rfl [.tmp 2] rfl ?_
  intro w0 F η0 h0
  conv => whnf
  repeat' ((first | with_reducible refine IF.tt ?_ | with_reducible refine IF.ff ?_ | ((with_reducible refine NEED.mk ?_ ?_); (first | with_reducible rfl | omega | (simp (disch := omega) only [lnB, wrap64, wrap32] <;> omega) | (intro h; (try simp (disch := omega) only [hsB, hsC, lnB, wrap64, wrap32, simprocAttr] at h); (first | omega | (simp (disch := omega) only [lnB, wrap64, wrap32] <;> omega))) | (exact needApp 256 rfl rfl (by simp) (by simp) (by omega)) | (simp <;> omega))) | ((with_reducible apply GET.at); rfl) | ((with_reducible apply GETG.at); rfl) | ((with_reducible refine IF.mk (fun h => ?_) (fun h => ?_)) <;> (try simp (disch := omega) only [hsB, hsC, lnB, wrap64, wrap32, simprocAttr] at h) <;> try (exfalso; omega))) <;> conv => whnf)
  refine LOOP.go tabOK [3] (X := Nat) (fun i => i ≤ s.length) (fun i => [(4, .int .i64 (i : Int))]) (fun i => [(0, .rows 1 ((curL s i).map Sx.bytesRow))]) 1 (fun i => s.length - i) 0 (by omega) ?_
  conv => whnf
  refine ⟨by (refine GOES.cutting h0 rfl rfl rfl (by first | rfl | (simp only [belowO, belowH, plainLL_below _ (plainBytes _), Bool.and_self, Bool.and_true] <;> rfl)) ?_ ?_ <;> (repeat' (first | (with_reducible rfl) | (exact congrArg (SV.int _) (by first | omega | (simp (disch := omega) only [lnB, wrap64, wrap32] <;> omega) | (simp; done) | (simp <;> omega))) | (exact congrArg (Hp.rows _) (by rw [curL_zero])) | ((conv => whnf); refine ⟨?_, ?_⟩) | exact trivial | rfl))), ?_⟩
  intro i hi
  have hlen := curL_len s i
  conv => whnf
  repeat' ((first | with_reducible refine IF.tt ?_ | with_reducible refine IF.ff ?_ | (refine GET.at (row := Sx.bytesRow (s[i]'(by omega))) (by rw [show 0 + (i : Int).toNat = i by omega]; exact rowL_get (by omega)) ?_; conv => whnf) | (refine GETG.at (row := Sx.bytesRow (s[i]'(by omega))) (by rw [show 0 + (i : Int).toNat = i by omega]; exact rowL_get (by omega)) ?_; conv => whnf) | ((with_reducible refine NEED.mk ?_ ?_); (first | with_reducible rfl | omega | (simp (disch := omega) only [lnB, wrap64, wrap32] <;> omega) | (intro h; (try simp (disch := omega) only [hsB, hsC, lnB, wrap64, wrap32, simprocAttr] at h); (first | omega | (simp (disch := omega) only [lnB, wrap64, wrap32] <;> omega))) | (exact needApp 256 rfl rfl (by simp) (by simp) (by omega)) | (simp <;> omega))) | ((with_reducible apply GET.at); rfl) | ((with_reducible apply GETG.at); rfl) | ((with_reducible refine IF.mk (fun h => ?_) (fun h => ?_)) <;> (try simp (disch := omega) only [hsB, hsC, lnB, wrap64, wrap32, simprocAttr] at h) <;> try (exfalso; omega))) <;> conv => whnf)
  · have hl : i < s.length := by omega
    refine ⟨i + 1, by omega, by omega, ?_⟩
    conv => whnf
    (refine GOES.cutting h0 rfl rfl rfl (by first | rfl | (simp only [belowO, belowH, plainLL_below _ (plainBytes _), Bool.and_self, Bool.and_true] <;> rfl)) ?_ ?_ <;> (repeat' (first | (with_reducible rfl) | (exact congrArg (SV.int _) (by first | omega | (simp (disch := omega) only [lnB, wrap64, wrap32] <;> omega) | (simp; done) | (simp <;> omega))) | (exact congrArg (Hp.rows _) (by rw [lowB_up h, show 0 + (i : Int).toNat = i by omega, rowL_set hl])) | ((conv => whnf); refine ⟨?_, ?_⟩) | exact trivial | rfl)))
  · have hl : i < s.length := by omega
    refine ⟨i + 1, by omega, by omega, ?_⟩
    conv => whnf
    (refine GOES.cutting h0 rfl rfl rfl (by first | rfl | (simp only [belowO, belowH, plainLL_below _ (plainBytes _), Bool.and_self, Bool.and_true] <;> rfl)) ?_ ?_ <;> (repeat' (first | (with_reducible rfl) | (exact congrArg (SV.int _) (by first | omega | (simp (disch := omega) only [lnB, wrap64, wrap32] <;> omega) | (simp; done) | (simp <;> omega))) | (exact congrArg (Hp.rows _) (by rw [curL_same hl (lowB_id (by omega))])) | ((conv => whnf); refine ⟨?_, ?_⟩) | exact trivial | rfl)))
  · refine NEED.mk (needText (by omega)) ?_
    conv => whnf
    refine FIN.value h0 rfl (congrArg SV.str ?_)
    have := textAll (curL s i)
    rw [hlen] at this
    rw [this, curL_all (by omega)]
end Go.Proofs.YtpffclpheldabaaGreatDoor
/- The reference's tags: parts, joined parts, the reader, walked. Conditions: none. -/
set_option linter.unusedVariables false
set_option linter.unusedSimpArgs false
set_option maxRecDepth 20000
namespace Go.Proofs.YtpffclpheldabaaGreatDoor
open Go.Sx Go.Our
theorem byte_is {s : List UInt8} {i : Nat} {c : UInt8} (h : i < s.length) : byteAt s i = (c.toNat : Int) ↔ s[i]? = some c := by
  unfold byteAt
  rw [Int.toNat_natCast, List.getD, List.getElem?_eq_getElem h]
  simp only [Option.getD_some, Option.some.injEq]
  constructor
  · intro h1; exact UInt8.toNat_inj.1 (by omega)
  · intro h1; rw [h1]
theorem r6parts_does (s : List UInt8) (hs : s.length ≤ 34359738368) : Does Tryz.prog tab 137 0 [.str s] [] [] (NewS 1 ((splitM s).map strRow)) := by
  have hlen := split_len s
  refine Does.enter tabOK (g := 137) (fn := Tryz.f137) Tryz.call137 Tryz.func137 rfl 31 rfl rfl [.tmp 2] rfl ?_
  intro w0 F η0 h0
  conv => whnf
  refine LOOP.nil 3 1 rfl ?_
  refine LOOP.go tabOK [0] (X := List (List UInt8) × Nat × Nat) (fun y => y.2.1 ≤ y.2.2 ∧ y.2.2 ≤ s.length ∧ splitM s = y.1 ++ splitM (s.drop y.2.1) ∧ ∀ c ∈ (s.drop y.2.1).take (y.2.2 - y.2.1), c ≠ 45) (fun y => [(3, .sl (.loc 0) 0 1 y.1.length none), (4, .int .i64 (y.2.1 : Int)), (5, .int .i64 (y.2.2 : Int))]) (fun y => [(0, .rows 1 (y.1.map strRow))]) 1 (fun y => s.length - y.2.2) ([], 0, 0) ⟨by simp, by simp, by simp, by simp⟩ ?_
  conv => whnf
  refine ⟨by (refine GOES.keeping h0 [0] rfl rfl rfl (by first | rfl | (simp only [belowO, belowH, plainLL_below _ (plainStrs _), Bool.and_self, Bool.and_true] <;> rfl)) ?_ ?_ <;> (repeat' (first | (with_reducible rfl) | (exact rows_eq (plainStrs _) (renLL_plain _ (plainStrs _))) | (exact rows_eq (plainStrs _) (by simp [strRow, ofVal, List.take_of_length_le])) | (exact sl_eq rfl (by simp)) | (exact congrArg (SV.int _) (by first | omega | (simp (disch := omega) only [lnB, wrap64, wrap32] <;> omega) | (simp; done) | (simp <;> omega))) | ((conv => whnf); refine ⟨?_, ?_⟩) | exact trivial | (simp only [ren, renB]; done) | rfl))), ?_⟩
  rintro ⟨l, f, i⟩ ⟨hf, hi, he, hn⟩
  dsimp only at hf hi he hn ⊢
  have hl : l.length + (splitM (s.drop f)).length = (splitM s).length := by rw [he, List.length_append]
  have hl1 : 1 ≤ (splitM (s.drop f)).length := by have := split_count (s.drop f); omega
  conv => whnf
  repeat' ((first | with_reducible refine IF.tt ?_ | with_reducible refine IF.ff ?_ | ((with_reducible refine NEED.mk ?_ ?_); (first | with_reducible rfl | omega | (simp (disch := omega) only [lnB, wrap64, wrap32] <;> omega) | (intro h; (try simp (disch := omega) only [hsB, hsC, lnB, wrap64, wrap32, simprocAttr] at h); (first | omega | (simp (disch := omega) only [lnB, wrap64, wrap32] <;> omega))) | (exact needApp 256 rfl rfl (by simp) (by simp) (by omega)) | (simp <;> omega))) | ((with_reducible apply GET.at); rfl) | ((with_reducible apply GETG.at); rfl) | ((with_reducible refine IF.mk (fun h => ?_) (fun h => ?_)) <;> (try simp (disch := omega) only [hsB, hsC, lnB, wrap64, wrap32, simprocAttr] at h) <;> try (exfalso; omega))) <;> conv => whnf)
  · have h45 : (s.drop f)[i - f]? = some 45 := by rw [List.getElem?_drop, show f + (i - f) = i by omega]; exact (byte_is (c := 45) (by omega)).1 h
    have hc := split_cut _ _ hn h45
    rw [List.drop_drop, show f + (i - f + 1) = i + 1 by omega] at hc
    refine ⟨(l ++ [(s.drop f).take (i - f)], i + 1, i + 1), ⟨by simp only; omega, by simp only; omega, by simp only; rw [he, hc]; simp, by simp⟩, by simp only; omega, ?_⟩
    dsimp only
    rw [show (l ++ [(s.drop f).take (i - f)]).length = l.length + 1 by simp]
    conv => whnf
    (refine GOES.keeping h0 [2] rfl rfl rfl (by first | rfl | (simp only [belowO, belowH, plainLL_below _ (plainStrs _), Bool.and_self, Bool.and_true] <;> rfl)) ?_ ?_ <;> (repeat' (first | (with_reducible rfl) | (exact rows_eq (plainStrs _) (renLL_plain _ (plainStrs _))) | (exact rows_eq (plainStrs _) (by simp [strRow, ofVal, List.take_of_length_le])) | (exact sl_eq rfl (by simp)) | (exact congrArg (SV.int _) (by first | omega | (simp (disch := omega) only [lnB, wrap64, wrap32] <;> omega) | (simp; done) | (simp <;> omega))) | ((conv => whnf); refine ⟨?_, ?_⟩) | exact trivial | (simp only [ren, renB]; done) | rfl)))
  · refine ⟨(l, f, i + 1), ⟨by simp only; omega, by simp only; omega, he, ?_⟩, by simp only; omega, ?_⟩
    · dsimp only
      intro c hc
      have hlt : i - f < (s.drop f).length := by rw [List.length_drop]; omega
      rw [show i + 1 - f = (i - f) + 1 by omega, List.take_succ_eq_append_getElem hlt] at hc
      rcases List.mem_append.1 hc with hc | hc
      · exact hn c hc
      · have hc := List.mem_singleton.1 hc
        rintro rfl
        refine h ((byte_is (c := 45) (by omega)).2 ?_)
        have h1 : (s.drop f)[i - f]? = some 45 := by rw [List.getElem?_eq_getElem hlt, ← hc]
        rwa [List.getElem?_drop, show f + (i - f) = i by omega] at h1
    · dsimp only
      conv => whnf
      (refine GOES.keeping h0 [0] rfl rfl rfl (by first | rfl | (simp only [belowO, belowH, plainLL_below _ (plainStrs _), Bool.and_self, Bool.and_true] <;> rfl)) ?_ ?_ <;> (repeat' (first | (with_reducible rfl) | (exact rows_eq (plainStrs _) (renLL_plain _ (plainStrs _))) | (exact rows_eq (plainStrs _) (by simp [strRow, ofVal, List.take_of_length_le])) | (exact sl_eq rfl (by simp)) | (exact congrArg (SV.int _) (by first | omega | (simp (disch := omega) only [lnB, wrap64, wrap32] <;> omega) | (simp; done) | (simp <;> omega))) | ((conv => whnf); refine ⟨?_, ?_⟩) | exact trivial | (simp only [ren, renB]; done) | rfl)))
  · have hc : splitM (s.drop f) = [s.drop f] := by
      refine split_all _ fun c hc => hn c ?_
      rwa [List.take_of_length_le (by rw [List.length_drop]; omega)]
    rw [he, hc] at *
    refine FIN.rows h0 2 1 (l.length + 1) rfl rfl rfl (by simp [plainLL_append, plainLL_map, plainStrs, plainLL, plainL, plain, List.take_of_length_le]) ⟨by simp, ?_, rfl⟩
    simp [strRow, List.take_of_length_le]
/-- Parts with hyphens between: what we need of them. -/
theorem r6joined_does (ps : List (List UInt8)) (hb : bulkM ps + ps.length ≤ 68719476736) (a m : Nat) (ham : a + m = ps.length) : Does Tryz.prog tab 177 1 [.sl (.loc 0) a 1 m none] [] [(0, .rows 1 (ps.map strRow))]
    (fun r O nx => ∃ s, s.length ≤ bulkM ps + ps.length ∧ (∀ p, ps[a]? = some p → ∃ t, s = p ++ t) ∧ r = .str s ∧ O = [] ∧ nx = 1) := by
  refine Does.enter tabOK (g := 177) (fn := Tryz.f177) Tryz.call177 Tryz.func177 rfl 24 rfl rfl [.tmp 2] rfl ?_
  intro w0 F η0 h0
  conv => whnf
  refine LOOP.nil 3 1 rfl ?_
  refine LOOP.go tabOK [0] (X := Nat × List UInt8) (fun y => y.1 ≤ m ∧ y.2.length ≤ ((ps.take (a + y.1)).map List.length).sum + y.1 ∧ (y.1 ≠ 0 → ∀ p, ps[a]? = some p → ∃ t, y.2 = p ++ t) ∧ (y.1 = 0 → y.2 = [])) (fun y => [(3, .sl (.loc 1) 0 1 y.2.length none), (4, .int .i64 (y.1 : Int))]) (fun y => [(1, .rows 1 (y.2.map Sx.bytesRow))]) 2 (fun y => m - y.1) (0, []) ⟨by simp, by simp, by simp, by simp⟩ ?_
  conv => whnf
  refine ⟨by (refine GOES.keeping h0 [1] rfl rfl rfl (by first | rfl | (simp only [belowO, belowH, plainLL_below _ (plainBytes _), Bool.and_self, Bool.and_true] <;> rfl)) ?_ ?_ <;> (repeat' (first | (with_reducible rfl) | (exact rows_eq (plainBytes _) (renLL_plain _ (plainBytes _))) | (exact rows_eq (plainBytes _) (by simp [Sx.bytesRow, ofVal, List.take_of_length_le])) | (exact sl_eq rfl (by simp)) | (exact congrArg (SV.int _) (by first | omega | (simp (disch := omega) only [lnB, wrap64, wrap32] <;> omega) | (simp; done) | (simp <;> omega))) | ((conv => whnf); refine ⟨?_, ?_⟩) | exact trivial | (simp only [ren, renB]; done) | rfl))), ?_⟩
  rintro ⟨c, b⟩ ⟨hc, hl, hp, h00⟩
  dsimp only at hc hl hp h00 ⊢
  have hbt := bulk_take ps (a + c)
  rcases Nat.lt_or_ge c m with hcm | hcm
  · have hlt : a + c < ps.length := by omega
    have hs1 := sum_le (List.getElem?_eq_getElem hlt)
    have hs2 := bulk_take ps (a + c + 1)
    have key : ∀ b' : List UInt8, (c = 0 → b' = []) → (c ≠ 0 → ∃ t, b' = b ++ t) → ∀ p, ps[a]? = some p → ∃ t, b' ++ ps[a + c] = p ++ t := by
      intro b' h1 h2 p hpa
      by_cases h : c = 0
      · subst h
        obtain ⟨h3, h4⟩ := List.getElem?_eq_some_iff.1 hpa
        exact ⟨[], by rw [h1 rfl, ← h4]; simp⟩
      · obtain ⟨t, ht⟩ := hp h p hpa
        obtain ⟨t', ht'⟩ := h2 h
        exact ⟨t ++ t' ++ ps[a + c], by rw [ht', ht]; simp⟩
    conv => whnf
    repeat' ((first | with_reducible refine IF.tt ?_ | with_reducible refine IF.ff ?_ | (refine GET.at (row := strRow (ps[a + c]'(by omega))) (by rw [List.getElem?_map, show a + (c : Int).toNat = a + c by omega, List.getElem?_eq_getElem (by omega)]; rfl) ?_; conv => whnf) | ((with_reducible refine NEED.mk ?_ ?_); (first | with_reducible rfl | omega | (simp (disch := omega) only [lnB, wrap64, wrap32] <;> omega) | (intro h; (try simp (disch := omega) only [hsB, hsC, lnB, wrap64, wrap32, simprocAttr] at h); (first | omega | (simp (disch := omega) only [lnB, wrap64, wrap32] <;> omega))) | (exact needApp 256 rfl rfl (by simp) (by simp) (by omega)) | (simp <;> omega))) | ((with_reducible apply GET.at); rfl) | ((with_reducible apply GETG.at); rfl) | ((with_reducible refine IF.mk (fun h => ?_) (fun h => ?_)) <;> (try simp (disch := omega) only [hsB, hsC, lnB, wrap64, wrap32, simprocAttr] at h) <;> try (exfalso; omega))) <;> conv => whnf)
    · refine ⟨(c + 1, b ++ [45] ++ ps[a + c]), ⟨by simp only; omega, ?_, fun _ => key _ (fun h1 => by omega) (fun _ => ⟨[45], rfl⟩), by simp⟩, by simp only; omega, ?_⟩
      · simp only [List.length_append, List.length_cons, List.length_nil]
        rw [show a + (c + 1) = a + c + 1 by omega, hs1]; omega
      · dsimp only
        have e : (b ++ [45] ++ ps[a + c]).length = b.length + 1 + ps[a + c].length := by simp; omega
        rw [e]
        conv => whnf
        (refine GOES.keeping h0 [4] rfl rfl rfl (by first | rfl | (simp only [belowO, belowH, plainLL_below _ (plainBytes _), Bool.and_self, Bool.and_true] <;> rfl)) ?_ ?_ <;> (repeat' (first | (with_reducible rfl) | (exact rows_eq (plainBytes _) (renLL_plain _ (plainBytes _))) | (exact rows_eq (plainBytes _) (by simp [Sx.bytesRow, ofVal, List.take_of_length_le])) | (exact sl_eq rfl (by simp)) | (exact congrArg (SV.int _) (by first | omega | (simp (disch := omega) only [lnB, wrap64, wrap32] <;> omega) | (simp; done) | (simp <;> omega))) | ((conv => whnf); refine ⟨?_, ?_⟩) | exact trivial | (simp only [ren, renB]; done) | rfl)))
    · refine ⟨(c + 1, b ++ ps[a + c]), ⟨by simp only; omega, ?_, fun _ => key _ (fun h1 => h00 h1) (fun h1 => by omega), by simp⟩, by simp only; omega, ?_⟩
      · simp only [List.length_append]
        rw [show a + (c + 1) = a + c + 1 by omega, hs1]; omega
      · dsimp only
        have e : (b ++ ps[a + c]).length = b.length + ps[a + c].length := by simp
        rw [e]
        conv => whnf
        (refine GOES.keeping h0 [2] rfl rfl rfl (by first | rfl | (simp only [belowO, belowH, plainLL_below _ (plainBytes _), Bool.and_self, Bool.and_true] <;> rfl)) ?_ ?_ <;> (repeat' (first | (with_reducible rfl) | (exact rows_eq (plainBytes _) (renLL_plain _ (plainBytes _))) | (exact rows_eq (plainBytes _) (by simp [Sx.bytesRow, ofVal, List.take_of_length_le])) | (exact sl_eq rfl (by simp)) | (exact congrArg (SV.int _) (by first | omega | (simp (disch := omega) only [lnB, wrap64, wrap32] <;> omega) | (simp; done) | (simp <;> omega))) | ((conv => whnf); refine ⟨?_, ?_⟩) | exact trivial | (simp only [ren, renB]; done) | rfl)))
  · conv => whnf
    repeat' ((first | with_reducible refine IF.tt ?_ | with_reducible refine IF.ff ?_ | ((with_reducible refine NEED.mk ?_ ?_); (first | with_reducible rfl | omega | (simp (disch := omega) only [lnB, wrap64, wrap32] <;> omega) | (intro h; (try simp (disch := omega) only [hsB, hsC, lnB, wrap64, wrap32, simprocAttr] at h); (first | omega | (simp (disch := omega) only [lnB, wrap64, wrap32] <;> omega))) | (exact needApp 256 rfl rfl (by simp) (by simp) (by omega)) | (simp <;> omega))) | ((with_reducible apply GET.at); rfl) | ((with_reducible apply GETG.at); rfl) | ((with_reducible refine IF.mk (fun h => ?_) (fun h => ?_)) <;> (try simp (disch := omega) only [hsB, hsC, lnB, wrap64, wrap32, simprocAttr] at h) <;> try (exfalso; omega))) <;> conv => whnf)
    refine NEED.mk (needText (by simp)) ?_
    conv => whnf
    refine FIN.val h0 rfl ⟨b, by omega, fun p hpa => ?_, by rw [textAll], rfl, rfl⟩
    have := (List.getElem?_eq_some_iff.1 hpa).1
    exact hp (by omega) p hpa
end Go.Proofs.YtpffclpheldabaaGreatDoor
/- The reference's tags: the reader, walked. Conditions: none. -/
set_option linter.unusedVariables false
set_option linter.unusedSimpArgs false
set_option maxRecDepth 20000
namespace Go.Proofs.YtpffclpheldabaaGreatDoor
open Go.Sx Go.Our
def rd6 (i m : Nat) : Hp := .box [.sl (.loc 1) i 1 m none]
def tg6 (L E S R : List UInt8) (jv v jx x : Nat) (P : List UInt8) : Hp := .box [.str L, .str E, .str S, .str R, .sl (.loc jv) 0 1 v none, .sl (.loc jx) 0 1 x none, .str P]
theorem more_does (least most : Int) (digits : Bool) (ps : List (List UInt8)) (hsm : ∀ s ∈ ps, Sm s) (i m : Nat) (him : i + m = ps.length) :
    Does Tryz.prog tab 140 2 [.ptr (.loc 0) 0 0 0, .int .i64 least, .int .i64 most, .bool digits] [] [(0, rd6 i m), (1, .rows 1 (ps.map strRow))] (ValK 2 (.bool (seesM (moreM least most digits) ps i))) := by
  refine Does.enter tabOK (g := 140) (fn := Tryz.f140) Tryz.call140 Tryz.func140 rfl 52 rfl rfl [.tmp 8] rfl ?_
  intro w0 F η0 h0
  conv => whnf
  rcases Nat.eq_zero_or_pos m with hm | hm
  · subst hm
    repeat' ((first | with_reducible refine IF.tt ?_ | with_reducible refine IF.ff ?_ | (refine GETG.mk ⟨strRow [], fun h => (by simp at h), ?_⟩; conv => whnf) | ((with_reducible refine NEED.mk ?_ ?_); (first | with_reducible rfl | omega | (simp (disch := omega) only [lnB, wrap64, wrap32] <;> omega) | (intro h; (try simp (disch := omega) only [hsB, hsC, lnB, wrap64, wrap32, simprocAttr] at h); (first | omega | (simp (disch := omega) only [lnB, wrap64, wrap32] <;> omega))) | (exact needApp 256 rfl rfl (by simp) (by simp) (by omega)) | (simp <;> omega))) | ((with_reducible apply GET.at); rfl) | ((with_reducible apply GETG.at); rfl) | ((with_reducible refine IF.mk (fun h => ?_) (fun h => ?_)) <;> (try simp (disch := omega) only [hsB, hsC, lnB, wrap64, wrap32, simprocAttr] at h) <;> try (exfalso; omega))) <;> conv => whnf)
    all_goals first
      | (refine FIN.valueK h0 rfl (congrArg SV.bool ?_)
         unfold seesM; rw [List.getElem?_eq_none (by omega)])
      | (exfalso; simp_all; done)
  · have hlt : i < ps.length := by omega
    have hse : seesM (moreM least most digits) ps i = moreM least most digits ps[i] := by unfold seesM; rw [List.getElem?_eq_getElem hlt]
    have hs := hsm _ (List.getElem_mem hlt)
    repeat' ((first | with_reducible refine IF.tt ?_ | with_reducible refine IF.ff ?_ | (refine GET.at (row := strRow (ps[i]'(by omega))) (by rw [List.getElem?_map, show i + (0 : Int).toNat = i by simp, List.getElem?_eq_getElem (by omega)]; rfl) ?_; conv => whnf) | (refine GETG.at (row := strRow (ps[i]'(by omega))) (by rw [List.getElem?_map, show i + (0 : Int).toNat = i by simp, List.getElem?_eq_getElem (by omega)]; rfl) ?_; conv => whnf) | refine CALL.value (r6letters_does _ hs) rfl rfl ?_ | refine CALL.value (r6numerals_does _ hs) rfl rfl ?_ | ((with_reducible refine NEED.mk ?_ ?_); (first | with_reducible rfl | omega | (simp (disch := omega) only [lnB, wrap64, wrap32] <;> omega) | (intro h; (try simp (disch := omega) only [hsB, hsC, lnB, wrap64, wrap32, simprocAttr] at h); (first | omega | (simp (disch := omega) only [lnB, wrap64, wrap32] <;> omega))) | (exact needApp 256 rfl rfl (by simp) (by simp) (by omega)) | (simp <;> omega))) | ((with_reducible apply GET.at); rfl) | ((with_reducible apply GETG.at); rfl) | ((with_reducible refine IF.mk (fun h => ?_) (fun h => ?_)) <;> (try simp (disch := omega) only [hsB, hsC, lnB, wrap64, wrap32, simprocAttr] at h) <;> try (exfalso; omega))) <;> conv => whnf)
    all_goals
      refine FIN.valueK h0 rfl (congrArg SV.bool ?_)
      rw [hse]; unfold moreM
    · rw [show decide (least ≤ (ps[i].length : Int) ∧ (ps[i].length : Int) ≤ most) = false from decide_eq_false (by omega)]; rfl
    · rw [show decide (least ≤ (ps[i].length : Int) ∧ (ps[i].length : Int) ≤ most) = true from decide_eq_true (by omega)]; simp [h]
    · rw [show decide (least ≤ (ps[i].length : Int) ∧ (ps[i].length : Int) ≤ most) = true from decide_eq_true (by omega)]; simp [h]
theorem next6_does (ps : List (List UInt8)) (i m : Nat) (him : i + (m + 1) = ps.length) (p : List UInt8) (hp : ps[i]? = some p) :
    Does Tryz.prog tab 141 2 [.ptr (.loc 0) 0 0 0] [(0, rd6 i (m + 1))] [(1, .rows 1 (ps.map strRow))] (fun r O nx => r = .str p ∧ O = [(0, rd6 (i + 1) m)] ∧ nx = 2) := by
  refine Does.enter tabOK (g := 141) (fn := Tryz.f141) Tryz.call141 Tryz.func141 rfl 19 rfl rfl [.tmp 2] rfl ?_
  intro w0 F η0 h0
  conv => whnf
  repeat' ((first | with_reducible refine IF.tt ?_ | with_reducible refine IF.ff ?_ | (refine GET.at (row := strRow p) (by rw [List.getElem?_map, show i + (0 : Int).toNat = i by simp, hp]; rfl) ?_; conv => whnf) | ((with_reducible refine NEED.mk ?_ ?_); (first | with_reducible rfl | omega | (simp (disch := omega) only [lnB, wrap64, wrap32] <;> omega) | (intro h; (try simp (disch := omega) only [hsB, hsC, lnB, wrap64, wrap32, simprocAttr] at h); (first | omega | (simp (disch := omega) only [lnB, wrap64, wrap32] <;> omega))) | (exact needApp 256 rfl rfl (by simp) (by simp) (by omega)) | (simp <;> omega))) | ((with_reducible apply GET.at); rfl) | ((with_reducible apply GETG.at); rfl) | ((with_reducible refine IF.mk (fun h => ?_) (fun h => ?_)) <;> (try simp (disch := omega) only [hsB, hsC, lnB, wrap64, wrap32, simprocAttr] at h) <;> try (exfalso; omega))) <;> conv => whnf)
  exact FIN.here h0 (Oc := [(0, rd6 (i + 1) m)]) rfl rfl rfl ⟨rfl, trivial⟩ ⟨rfl, rfl, rfl⟩
theorem bulk_le {b : Nat} : ∀ {l : List (List UInt8)}, (∀ s ∈ l, s.length ≤ b) → bulkM l ≤ b * l.length
  | [], _ => by simp [bulkM]
  | s :: l, h => by
    have h1 := h s (by simp)
    have h2 := bulk_le (l := l) fun x hx => h x (by simp [hx])
    unfold bulkM at *
    simp only [List.map_cons, List.sum_cons, List.length_cons, Nat.mul_add]; omega
theorem more33 : moreM 3 3 false = fun s => madeM s 3 3 true := funext (more_made 3 3)
theorem language6_does (ps : List (List UInt8)) (hb : bulkM ps + ps.length ≤ 68719476736) (i m : Nat) (him : i + m = ps.length) :
    Does Tryz.prog tab 139 5 [.ptr (.loc 0) 0 0 0, .ptr (.loc 2) 0 0 0] [(0, rd6 i m), (2, tg6 [] [] [] [] 3 0 4 0 [])] [(1, .rows 1 (ps.map strRow))]
      (fun r O nx => ∃ (i' m' : Nat) (L E : List UInt8), i' + m' = ps.length ∧ r = .bool (langP (ps.drop i)).isSome ∧ (∀ l, langP (ps.drop i) = some l → l = ps.drop i' ∧ L ≠ []) ∧ O = [(0, rd6 i' m'), (2, tg6 L E [] [] 3 0 4 0 [])] ∧ nx = 5) := by
  have hsm := bulk_sm (ps := ps) (by omega)
  refine Does.enter tabOK (g := 139) (fn := Tryz.f139) Tryz.call139 Tryz.func139 rfl 41 rfl rfl [.tmp 4] rfl ?_
  intro w0 F η0 h0
  conv => whnf
  refine CALL.at [0, 1] (more_does 2 3 false ps hsm i m him) rfl rfl rfl rfl (by first | rfl | (simp only [belowO, belowH, plainLL_below _ (plainStrs _), Bool.and_self, Bool.and_true] <;> rfl)) (by first | rfl | (simp only [belowO, belowH, plainLL_below _ (plainStrs _), Bool.and_self, Bool.and_true] <;> rfl)) (by repeat' (first | exact trivial | exact (renH_plain _ (h := .rows _ _) (plainStrs _)).symm | exact rfl | exact (renH_plain _ (h := .rows _ _) (plainStrs _)).trans (renH_plain _ (h := .rows _ _) (plainStrs _)).symm | ((conv => whnf); refine ⟨?_, ?_⟩))) (by repeat' (first | exact trivial | exact (renH_plain _ (h := .rows _ _) (plainStrs _)).symm | exact rfl | exact (renH_plain _ (h := .rows _ _) (plainStrs _)).trans (renH_plain _ (h := .rows _ _) (plainStrs _)).symm | ((conv => whnf); refine ⟨?_, ?_⟩))) rfl rfl ?_
  rintro r O' nx' ⟨rfl, rfl, rfl⟩
  conv => whnf
  refine IF.mk (fun h1 => ?_) (fun h1 => ?_)
  · obtain ⟨w, hw, hwm⟩ := sees_yes h1
    rw [more_made] at hwm
    have hwl := made_len hwm
    have hlt := (List.getElem?_eq_some_iff.1 hw).1
    obtain ⟨k, rfl⟩ : ∃ k, m = k + 1 := ⟨m - 1, by omega⟩
    have hne : w ≠ [] := by rintro rfl; simp at hwl
    have hL : langP (ps.drop i) = some (extP 3 (ps.drop (i + 1))) := by
      rw [drop_at hw]; simp only [langP]
      rw [if_pos (by rw [lang_more, more_made, hwm]; rfl), if_neg (by omega)]
    conv => whnf
    refine CALL.at [0, 1] (next6_does ps i k him w hw) rfl rfl rfl rfl (by first | rfl | (simp only [belowO, belowH, plainLL_below _ (plainStrs _), Bool.and_self, Bool.and_true] <;> rfl)) (by first | rfl | (simp only [belowO, belowH, plainLL_below _ (plainStrs _), Bool.and_self, Bool.and_true] <;> rfl)) (by repeat' (first | exact trivial | exact (renH_plain _ (h := .rows _ _) (plainStrs _)).symm | exact rfl | exact (renH_plain _ (h := .rows _ _) (plainStrs _)).trans (renH_plain _ (h := .rows _ _) (plainStrs _)).symm | ((conv => whnf); refine ⟨?_, ?_⟩))) (by repeat' (first | exact trivial | exact (renH_plain _ (h := .rows _ _) (plainStrs _)).symm | exact rfl | exact (renH_plain _ (h := .rows _ _) (plainStrs _)).trans (renH_plain _ (h := .rows _ _) (plainStrs _)).symm | ((conv => whnf); refine ⟨?_, ?_⟩))) rfl rfl ?_
    rintro r O' nx' ⟨rfl, rfl, rfl⟩
    conv => whnf
    refine LOOP.nil 5 1 rfl ?_
    refine LOOP.go tabOK [0, 1] (X := List (List UInt8) × Nat) (fun y => y.1.length ≤ 3 ∧ (∀ s ∈ y.1, s.length ≤ 3) ∧ y.2 + (ps.length - y.2) = ps.length ∧ extP 3 (ps.drop (i + 1)) = extP (3 - y.1.length) (ps.drop y.2)) (fun y => [(5, .sl (.loc 5) 0 1 y.1.length none)]) (fun y => [(0, rd6 y.2 (ps.length - y.2)), (2, tg6 w [] [] [] 3 0 4 0 []), (5, .rows 1 (y.1.map strRow))]) 6 (fun y => 3 - y.1.length) ([], i + 1) ⟨by simp, by simp, by simp only; omega, rfl⟩ ?_
    conv => whnf
    rw [show ps.length - (i + 1) = k by omega]
    refine ⟨by (refine GOES.keeping h0 [5] rfl rfl rfl (by first | rfl | (simp only [belowO, belowH, plainLL_below _ (plainStrs _), Bool.and_self, Bool.and_true] <;> rfl)) ?_ ?_ <;> (repeat' (first | (with_reducible rfl) | (exact rows_eq (plainStrs _) (renLL_plain _ (plainStrs _))) | (exact rows_eq (plainStrs _) (by simp [strRow, ofVal, List.take_of_length_le])) | (exact sl_eq rfl (by simp)) | (exact congrArg (SV.int _) (by first | omega | (simp (disch := omega) only [lnB, wrap64, wrap32] <;> omega) | (simp; done) | (simp <;> omega))) | ((conv => whnf); refine ⟨?_, ?_⟩) | exact trivial | (simp only [ren, renB]; done) | rfl))), ?_⟩
    rintro ⟨l, a⟩ ⟨hl, hls, ha, hx⟩
    dsimp only at hl hls ha hx ⊢
    have fin : seesM (fun s => madeM s 3 3 true) ps a = false ∨ l.length = 3 → extP 3 (ps.drop (i + 1)) = ps.drop a := by
      rintro (h | h)
      · rw [hx, ext_no h]
      · rw [hx, h]; rfl
    have hbl := bulk_le hls
    conv => whnf
    refine IF.mk (fun h => ?_) (fun h => ?_)
    · have h : l.length < 3 := by simp at h; omega
      conv => whnf
      repeat' ((first | with_reducible refine IF.tt ?_ | with_reducible refine IF.ff ?_ | ((with_reducible refine NEED.mk ?_ ?_); (first | with_reducible rfl | omega | (simp (disch := omega) only [lnB, wrap64, wrap32] <;> omega) | (intro h; (try simp (disch := omega) only [hsB, hsC, lnB, wrap64, wrap32, simprocAttr] at h); (first | omega | (simp (disch := omega) only [lnB, wrap64, wrap32] <;> omega))) | (exact needApp 256 rfl rfl (by simp) (by simp) (by omega)) | (simp <;> omega))) | ((with_reducible apply GET.at); rfl) | ((with_reducible apply GETG.at); rfl) | ((with_reducible refine IF.mk (fun h => ?_) (fun h => ?_)) <;> (try simp (disch := omega) only [hsB, hsC, lnB, wrap64, wrap32, simprocAttr] at h) <;> try (exfalso; omega))) <;> conv => whnf)
      refine CALL.at [0, 1] (more_does 3 3 false ps hsm a (ps.length - a) ha) rfl rfl rfl rfl (by first | rfl | (simp only [belowO, belowH, plainLL_below _ (plainStrs _), Bool.and_self, Bool.and_true] <;> rfl)) (by first | rfl | (simp only [belowO, belowH, plainLL_below _ (plainStrs _), Bool.and_self, Bool.and_true] <;> rfl)) (by repeat' (first | exact trivial | exact (renH_plain _ (h := .rows _ _) (plainStrs _)).symm | exact rfl | exact (renH_plain _ (h := .rows _ _) (plainStrs _)).trans (renH_plain _ (h := .rows _ _) (plainStrs _)).symm | ((conv => whnf); refine ⟨?_, ?_⟩))) (by repeat' (first | exact trivial | exact (renH_plain _ (h := .rows _ _) (plainStrs _)).symm | exact rfl | exact (renH_plain _ (h := .rows _ _) (plainStrs _)).trans (renH_plain _ (h := .rows _ _) (plainStrs _)).symm | ((conv => whnf); refine ⟨?_, ?_⟩))) rfl rfl ?_
      rintro r O' nx' ⟨rfl, rfl, rfl⟩
      conv => whnf
      repeat' ((first | with_reducible refine IF.tt ?_ | with_reducible refine IF.ff ?_ | ((with_reducible refine NEED.mk ?_ ?_); (first | with_reducible rfl | omega | (simp (disch := omega) only [lnB, wrap64, wrap32] <;> omega) | (intro h; (try simp (disch := omega) only [hsB, hsC, lnB, wrap64, wrap32, simprocAttr] at h); (first | omega | (simp (disch := omega) only [lnB, wrap64, wrap32] <;> omega))) | (exact needApp 256 rfl rfl (by simp) (by simp) (by omega)) | (simp <;> omega))) | ((with_reducible apply GET.at); rfl) | ((with_reducible apply GETG.at); rfl) | ((with_reducible refine IF.mk (fun h => ?_) (fun h => ?_)) <;> (try simp (disch := omega) only [hsB, hsC, lnB, wrap64, wrap32, simprocAttr] at h) <;> try (exfalso; omega))) <;> conv => whnf)
      · obtain ⟨u, hu, hum⟩ := sees_yes h
        rw [more_made] at hum
        have hul := made_len hum
        have hlt2 := (List.getElem?_eq_some_iff.1 hu).1
        obtain ⟨k', hk'⟩ : ∃ k', ps.length - a = k' + 1 := ⟨ps.length - a - 1, by omega⟩
        rw [hk']
        refine CALL.at [0, 1] (next6_does ps a k' (by omega) u hu) rfl rfl rfl rfl (by first | rfl | (simp only [belowO, belowH, plainLL_below _ (plainStrs _), Bool.and_self, Bool.and_true] <;> rfl)) (by first | rfl | (simp only [belowO, belowH, plainLL_below _ (plainStrs _), Bool.and_self, Bool.and_true] <;> rfl)) (by repeat' (first | exact trivial | exact (renH_plain _ (h := .rows _ _) (plainStrs _)).symm | exact rfl | exact (renH_plain _ (h := .rows _ _) (plainStrs _)).trans (renH_plain _ (h := .rows _ _) (plainStrs _)).symm | ((conv => whnf); refine ⟨?_, ?_⟩))) (by repeat' (first | exact trivial | exact (renH_plain _ (h := .rows _ _) (plainStrs _)).symm | exact rfl | exact (renH_plain _ (h := .rows _ _) (plainStrs _)).trans (renH_plain _ (h := .rows _ _) (plainStrs _)).symm | ((conv => whnf); refine ⟨?_, ?_⟩))) rfl rfl ?_
        rintro r O' nx' ⟨rfl, rfl, rfl⟩
        conv => whnf
        repeat' ((first | with_reducible refine IF.tt ?_ | with_reducible refine IF.ff ?_ | ((with_reducible refine NEED.mk ?_ ?_); (first | with_reducible rfl | omega | (simp (disch := omega) only [lnB, wrap64, wrap32] <;> omega) | (intro h; (try simp (disch := omega) only [hsB, hsC, lnB, wrap64, wrap32, simprocAttr] at h); (first | omega | (simp (disch := omega) only [lnB, wrap64, wrap32] <;> omega))) | (exact needApp 256 rfl rfl (by simp) (by simp) (by omega)) | (simp <;> omega))) | ((with_reducible apply GET.at); rfl) | ((with_reducible apply GETG.at); rfl) | ((with_reducible refine IF.mk (fun h => ?_) (fun h => ?_)) <;> (try simp (disch := omega) only [hsB, hsC, lnB, wrap64, wrap32, simprocAttr] at h) <;> try (exfalso; omega))) <;> conv => whnf)
        refine ⟨(l ++ [u], a + 1), ⟨by simp; omega, ?_, by simp only; omega, ?_⟩, by simp; omega, ?_⟩
        · intro x hx'
          rcases List.mem_append.1 hx' with h | h
          · exact hls x h
          · rw [List.mem_singleton.1 h]; omega
        · dsimp only
          rw [hx, drop_at hu, show 3 - l.length = (3 - (l ++ [u]).length) + 1 by simp; omega]
          simp only [extP]; rw [if_pos hum]
        · dsimp only
          rw [show ps.length - (a + 1) = k' by omega, show (l ++ [u]).length = l.length + 1 by simp]
          conv => whnf
          (refine GOES.keeping h0 [7] rfl rfl rfl (by first | rfl | (simp only [belowO, belowH, plainLL_below _ (plainStrs _), Bool.and_self, Bool.and_true] <;> rfl)) ?_ ?_ <;> (repeat' (first | (with_reducible rfl) | (exact rows_eq (plainStrs _) (renLL_plain _ (plainStrs _))) | (exact rows_eq (plainStrs _) (by simp [strRow, ofVal, List.take_of_length_le])) | (exact sl_eq rfl (by simp)) | (exact congrArg (SV.int _) (by first | omega | (simp (disch := omega) only [lnB, wrap64, wrap32] <;> omega) | (simp; done) | (simp <;> omega))) | ((conv => whnf); refine ⟨?_, ?_⟩) | exact trivial | (simp only [ren, renB]; done) | rfl)))
      · rw [more33] at h
        refine CALL.at [5] (r6joined_does l (by omega) 0 l.length (by omega)) rfl rfl rfl rfl (by first | rfl | (simp only [belowO, belowH, plainLL_below _ (plainStrs _), Bool.and_self, Bool.and_true] <;> rfl)) (by first | rfl | (simp only [belowO, belowH, plainLL_below _ (plainStrs _), Bool.and_self, Bool.and_true] <;> rfl)) (by repeat' (first | exact trivial | exact (renH_plain _ (h := .rows _ _) (plainStrs _)).symm | exact rfl | exact (renH_plain _ (h := .rows _ _) (plainStrs _)).trans (renH_plain _ (h := .rows _ _) (plainStrs _)).symm | ((conv => whnf); refine ⟨?_, ?_⟩))) (by repeat' (first | exact trivial | exact (renH_plain _ (h := .rows _ _) (plainStrs _)).symm | exact rfl | exact (renH_plain _ (h := .rows _ _) (plainStrs _)).trans (renH_plain _ (h := .rows _ _) (plainStrs _)).symm | ((conv => whnf); refine ⟨?_, ?_⟩))) rfl rfl ?_
        rintro r O' nx' ⟨E, hE, _, rfl, rfl, rfl⟩
        conv => whnf
        exact FIN.here h0 (Oc := [(0, rd6 (a) (ps.length - a)), (2, tg6 (w) (E) [] [] 3 0 4 0 [])]) rfl rfl rfl ⟨rfl, rfl, trivial⟩ ⟨a, ps.length - a, w, E, by omega, by rw [hL]; rfl, by rw [hL]; rintro x ⟨⟩; exact ⟨fin (.inl h), hne⟩, rfl, rfl⟩
    · have h : l.length = 3 := by simp at h; omega
      conv => whnf
      repeat' ((first | with_reducible refine IF.tt ?_ | with_reducible refine IF.ff ?_ | ((with_reducible refine NEED.mk ?_ ?_); (first | with_reducible rfl | omega | (simp (disch := omega) only [lnB, wrap64, wrap32] <;> omega) | (intro h; (try simp (disch := omega) only [hsB, hsC, lnB, wrap64, wrap32, simprocAttr] at h); (first | omega | (simp (disch := omega) only [lnB, wrap64, wrap32] <;> omega))) | (exact needApp 256 rfl rfl (by simp) (by simp) (by omega)) | (simp <;> omega))) | ((with_reducible apply GET.at); rfl) | ((with_reducible apply GETG.at); rfl) | ((with_reducible refine IF.mk (fun h => ?_) (fun h => ?_)) <;> (try simp (disch := omega) only [hsB, hsC, lnB, wrap64, wrap32, simprocAttr] at h) <;> try (exfalso; omega))) <;> conv => whnf)
      refine CALL.at [5] (r6joined_does l (by omega) 0 l.length (by omega)) rfl rfl rfl rfl (by first | rfl | (simp only [belowO, belowH, plainLL_below _ (plainStrs _), Bool.and_self, Bool.and_true] <;> rfl)) (by first | rfl | (simp only [belowO, belowH, plainLL_below _ (plainStrs _), Bool.and_self, Bool.and_true] <;> rfl)) (by repeat' (first | exact trivial | exact (renH_plain _ (h := .rows _ _) (plainStrs _)).symm | exact rfl | exact (renH_plain _ (h := .rows _ _) (plainStrs _)).trans (renH_plain _ (h := .rows _ _) (plainStrs _)).symm | ((conv => whnf); refine ⟨?_, ?_⟩))) (by repeat' (first | exact trivial | exact (renH_plain _ (h := .rows _ _) (plainStrs _)).symm | exact rfl | exact (renH_plain _ (h := .rows _ _) (plainStrs _)).trans (renH_plain _ (h := .rows _ _) (plainStrs _)).symm | ((conv => whnf); refine ⟨?_, ?_⟩))) rfl rfl ?_
      rintro r O' nx' ⟨E, hE, _, rfl, rfl, rfl⟩
      conv => whnf
      exact FIN.here h0 (Oc := [(0, rd6 (a) (ps.length - a)), (2, tg6 (w) (E) [] [] 3 0 4 0 [])]) rfl rfl rfl ⟨rfl, rfl, trivial⟩ ⟨a, ps.length - a, w, E, by omega, by rw [hL]; rfl, by rw [hL]; rintro x ⟨⟩; exact ⟨fin (.inr h), hne⟩, rfl, rfl⟩
  · conv => whnf
    refine CALL.at [0, 1] (more_does 4 8 false ps hsm i m him) rfl rfl rfl rfl (by first | rfl | (simp only [belowO, belowH, plainLL_below _ (plainStrs _), Bool.and_self, Bool.and_true] <;> rfl)) (by first | rfl | (simp only [belowO, belowH, plainLL_below _ (plainStrs _), Bool.and_self, Bool.and_true] <;> rfl)) (by repeat' (first | exact trivial | exact (renH_plain _ (h := .rows _ _) (plainStrs _)).symm | exact rfl | exact (renH_plain _ (h := .rows _ _) (plainStrs _)).trans (renH_plain _ (h := .rows _ _) (plainStrs _)).symm | ((conv => whnf); refine ⟨?_, ?_⟩))) (by repeat' (first | exact trivial | exact (renH_plain _ (h := .rows _ _) (plainStrs _)).symm | exact rfl | exact (renH_plain _ (h := .rows _ _) (plainStrs _)).trans (renH_plain _ (h := .rows _ _) (plainStrs _)).symm | ((conv => whnf); refine ⟨?_, ?_⟩))) rfl rfl ?_
    rintro r O' nx' ⟨rfl, rfl, rfl⟩
    conv => whnf
    refine IF.mk (fun h2 => ?_) (fun h2 => ?_)
    · obtain ⟨w, hw, hwm⟩ := sees_yes h2
      have hwm' := hwm
      rw [more_made] at hwm
      have hwl := made_len hwm
      have hlt := (List.getElem?_eq_some_iff.1 hw).1
      obtain ⟨k, rfl⟩ : ∃ k, m = k + 1 := ⟨m - 1, by omega⟩
      have hne : w ≠ [] := by rintro rfl; simp at hwl
      have hL : langP (ps.drop i) = some (ps.drop (i + 1)) := by
        rw [drop_at hw]; simp only [langP]
        rw [if_pos (by rw [lang_more, hwm', Bool.or_true]), if_pos (by omega)]
      conv => whnf
      refine CALL.at [0, 1] (next6_does ps i k him w hw) rfl rfl rfl rfl (by first | rfl | (simp only [belowO, belowH, plainLL_below _ (plainStrs _), Bool.and_self, Bool.and_true] <;> rfl)) (by first | rfl | (simp only [belowO, belowH, plainLL_below _ (plainStrs _), Bool.and_self, Bool.and_true] <;> rfl)) (by repeat' (first | exact trivial | exact (renH_plain _ (h := .rows _ _) (plainStrs _)).symm | exact rfl | exact (renH_plain _ (h := .rows _ _) (plainStrs _)).trans (renH_plain _ (h := .rows _ _) (plainStrs _)).symm | ((conv => whnf); refine ⟨?_, ?_⟩))) (by repeat' (first | exact trivial | exact (renH_plain _ (h := .rows _ _) (plainStrs _)).symm | exact rfl | exact (renH_plain _ (h := .rows _ _) (plainStrs _)).trans (renH_plain _ (h := .rows _ _) (plainStrs _)).symm | ((conv => whnf); refine ⟨?_, ?_⟩))) rfl rfl ?_
      rintro r O' nx' ⟨rfl, rfl, rfl⟩
      conv => whnf
      exact FIN.here h0 (Oc := [(0, rd6 (i + 1) (k)), (2, tg6 (w) ([]) [] [] 3 0 4 0 [])]) rfl rfl rfl ⟨rfl, rfl, trivial⟩ ⟨i + 1, k, w, [], by omega, by rw [hL]; rfl, by rw [hL]; rintro x ⟨⟩; exact ⟨rfl, hne⟩, rfl, rfl⟩
    · have hL : langP (ps.drop i) = none := by
        rcases sees_no h1 with h | ⟨s, hs, h3, h4⟩
        · rw [h]; rfl
        · rcases sees_no h2 with h | ⟨s', hs', h5, h6⟩
          · rw [h] at h3; cases h3
          · rw [hs] at hs'; cases hs'
            rw [h3]; simp only [langP]; rw [if_neg (by rw [lang_more, h4, h6]; simp)]
      conv => whnf
      exact FIN.here h0 (Oc := [(0, rd6 (i) (m)), (2, tg6 ([]) ([]) [] [] 3 0 4 0 [])]) rfl rfl rfl ⟨rfl, rfl, trivial⟩ ⟨i, m, [], [], by omega, by rw [hL]; rfl, by simp [hL], rfl, rfl⟩
end Go.Proofs.YtpffclpheldabaaGreatDoor
/- The reference's tags: extensions, the private part, walked. Conditions: none. -/
set_option linter.unusedVariables false
set_option linter.unusedSimpArgs false
set_option maxRecDepth 20000
namespace Go.Proofs.YtpffclpheldabaaGreatDoor
open Go.Sx Go.Our
def plTag70 : Plan := (planOf [(0, 1), (1, 1), (2, 1), (4, 1), (9, 1), (10, 1), (3, 2), (5, 1), (6, 2), (7, 1), (11, 2), (8, 3), (12, 3), (13, 1)])
def plTag71 : Plan := (planOf [(0, 1), (1, 1), (2, 1), (3, 1), (5, 1), (4, 2), (6, 3), (7, 3), (8, 0), (9, 1), (10, 1), (11, 0)])
/-- Has one of these extensions that letter? -/
def dupM (xs : List (List UInt8)) (w : List UInt8) : Bool := xs.any fun x => lowerM (x.take 1) == lowerM w
theorem dup_at {xs : List (List UInt8)} {w : List UInt8} {i : Nat} (h : i < xs.length) : dupM (xs.drop i) w = (lowerM (xs[i].take 1) == lowerM w || dupM (xs.drop (i + 1)) w) := by
  unfold dupM; rw [List.drop_eq_getElem_cons h]; rfl
theorem extension6_does (ps : List (List UInt8)) (hb : bulkM ps + ps.length ≤ 34359738368) (a m : Nat) (ham : a + (m + 1) = ps.length) (w : List UInt8) (hw : ps[a]? = some w) (hw1 : w.length = 1)
    (L E S R : List UInt8) (v : Nat) (P : List UInt8) (xs : List (List UInt8)) (hxs : ∀ x ∈ xs, 1 ≤ x.length ∧ Sm x) (hxl : xs.length ≤ 34359738368) :
    Does Tryz.prog tab 144 5 [.ptr (.loc 0) 0 0 0, .ptr (.loc 2) 0 0 0] [(0, rd6 a (m + 1)), (2, tg6 L E S R 3 v 4 xs.length P), (4, .rows 1 (xs.map strRow))] [(1, .rows 1 (ps.map strRow))]
      (fun r O nx => ∃ (n : Nat) (xs' : List (List UInt8)), n = spanM (partOK 2) (ps.drop (a + 1)) ∧ r = .bool (!dupM xs w && decide (n ≠ 0)) ∧ (dupM xs w = false → ∃ z, xs' = xs ++ [z] ∧ z.take 1 = w ∧ Sm z) ∧
        O = [(0, rd6 (a + 1 + n) (m - n)), (2, tg6 L E S R 3 v 5 xs'.length P), (5, .rows 1 (xs'.map strRow))] ∧ nx = 6) := by
  have hsm := bulk_sm (ps := ps) (by omega)
  have hwl : Sm w := hsm w (List.mem_of_getElem? hw)
  refine Does.enter tabOK (g := 144) (fn := Tryz.f144) Tryz.call144 Tryz.func144 rfl 69 rfl rfl [.tmp 4] rfl ?_
  intro w0 F η0 h0
  conv => whnf
  refine CALL.at [0, 1] (next6_does ps a m ham w hw) rfl rfl rfl rfl (by first | rfl | (simp only [belowO, belowH, plainLL_below _ (plainStrs _), Bool.and_self, Bool.and_true] <;> rfl)) (by first | rfl | (simp only [belowO, belowH, plainLL_below _ (plainStrs _), Bool.and_self, Bool.and_true] <;> rfl)) (by repeat' (first | exact trivial | exact (renH_plain _ (h := .rows _ _) (plainStrs _)).symm | exact rfl | exact (renH_plain _ (h := .rows _ _) (plainStrs _)).trans (renH_plain _ (h := .rows _ _) (plainStrs _)).symm | ((conv => whnf); refine ⟨?_, ?_⟩))) (by repeat' (first | exact trivial | exact (renH_plain _ (h := .rows _ _) (plainStrs _)).symm | exact rfl | exact (renH_plain _ (h := .rows _ _) (plainStrs _)).trans (renH_plain _ (h := .rows _ _) (plainStrs _)).symm | ((conv => whnf); refine ⟨?_, ?_⟩))) rfl rfl ?_
  rintro r O' nx' ⟨rfl, rfl, rfl⟩
  conv => whnf
  refine LOOP.go tabOK [0, 1] (X := Nat × List (List UInt8)) (fun y => y.1 ≤ m ∧ y.2.length = y.1 + 1 ∧ y.2[0]? = some w ∧ bulkM y.2 ≤ ((ps.take (a + 1 + y.1)).map List.length).sum ∧ spanM (partOK 2) (ps.drop (a + 1)) = y.1 + spanM (partOK 2) (ps.drop (a + 1 + y.1))) (fun y => [(5, .sl (.loc 5) 0 1 y.2.length none)]) (fun y => [(0, rd6 (a + 1 + y.1) (m - y.1)), (2, tg6 L E S R 3 v 4 xs.length P), (4, .rows 1 (xs.map strRow)), (5, .rows 1 (y.2.map strRow))]) 6 (fun y => m - y.1) (0, [w]) ⟨by simp, by simp, by simp, ?_, by simp⟩ ?_
  · simp only [Nat.add_zero]
    rw [sum_le hw]; simp [bulkM]
  conv => whnf
  refine ⟨by (refine GOES.keeping h0 [5] rfl rfl rfl (by first | rfl | (simp only [belowO, belowH, plainLL_below _ (plainStrs _), Bool.and_self, Bool.and_true] <;> rfl)) ?_ ?_ <;> (repeat' (first | (with_reducible rfl) | (exact rows_eq (plainStrs _) (renLL_plain _ (plainStrs _))) | (exact rows_eq (plainStrs _) (by simp [strRow, ofVal, List.take_of_length_le])) | (exact sl_eq rfl (by simp)) | (exact congrArg (SV.int _) (by first | omega | (simp (disch := omega) only [lnB, wrap64, wrap32] <;> omega) | (simp; done) | (simp <;> omega))) | ((conv => whnf); refine ⟨?_, ?_⟩) | exact trivial | (simp only [ren, renB]; done) | rfl))), ?_⟩
  rintro ⟨c, l⟩ ⟨hc, hl, hl0, hlb, hx⟩
  dsimp only at hc hl hl0 hlb hx ⊢
  have hlt0 := bulk_take ps (a + 1 + c)
  have out : ∀ (n : Nat), spanM (partOK 2) (ps.drop (a + 1 + c)) = 0 → spanM (partOK 2) (ps.drop (a + 1)) = c := by intro n h; omega
  conv => whnf
  rcases Nat.lt_or_ge c m with hcm | hcm
  · have hlt : a + 1 + c < ps.length := by omega
    have hs := hsm _ (List.getElem_mem hlt)
    have hs1 := sum_le (List.getElem?_eq_getElem hlt)
    repeat' ((first | with_reducible refine IF.tt ?_ | with_reducible refine IF.ff ?_ | (refine GET.at (row := strRow (ps[a + 1 + c]'(by omega))) (by rw [List.getElem?_map, show a + 1 + c + (0 : Int).toNat = a + 1 + c by simp, List.getElem?_eq_getElem (by omega)]; rfl) ?_; conv => whnf) | refine CALL.value (r6both_does _ _ _ hs) rfl rfl ?_ | ((with_reducible refine NEED.mk ?_ ?_); (first | with_reducible rfl | omega | (simp (disch := omega) only [lnB, wrap64, wrap32] <;> omega) | (intro h; (try simp (disch := omega) only [hsB, hsC, lnB, wrap64, wrap32, simprocAttr] at h); (first | omega | (simp (disch := omega) only [lnB, wrap64, wrap32] <;> omega))) | (exact needApp 256 rfl rfl (by simp) (by simp) (by omega)) | (simp <;> omega))) | ((with_reducible apply GET.at); rfl) | ((with_reducible apply GETG.at); rfl) | ((with_reducible refine IF.mk (fun h => ?_) (fun h => ?_)) <;> (try simp (disch := omega) only [hsB, hsC, lnB, wrap64, wrap32, simprocAttr] at h) <;> try (exfalso; omega))) <;> conv => whnf)
    · obtain ⟨k', hk'⟩ : ∃ k', m - c = k' + 1 := ⟨m - c - 1, by omega⟩
      rw [hk']
      refine CALL.at [0, 1] (next6_does ps (a + 1 + c) k' (by omega) _ (List.getElem?_eq_getElem hlt)) rfl rfl rfl rfl (by first | rfl | (simp only [belowO, belowH, plainLL_below _ (plainStrs _), Bool.and_self, Bool.and_true] <;> rfl)) (by first | rfl | (simp only [belowO, belowH, plainLL_below _ (plainStrs _), Bool.and_self, Bool.and_true] <;> rfl)) (by repeat' (first | exact trivial | exact (renH_plain _ (h := .rows _ _) (plainStrs _)).symm | exact rfl | exact (renH_plain _ (h := .rows _ _) (plainStrs _)).trans (renH_plain _ (h := .rows _ _) (plainStrs _)).symm | ((conv => whnf); refine ⟨?_, ?_⟩))) (by repeat' (first | exact trivial | exact (renH_plain _ (h := .rows _ _) (plainStrs _)).symm | exact rfl | exact (renH_plain _ (h := .rows _ _) (plainStrs _)).trans (renH_plain _ (h := .rows _ _) (plainStrs _)).symm | ((conv => whnf); refine ⟨?_, ?_⟩))) rfl rfl ?_
      rintro r O' nx' ⟨rfl, rfl, rfl⟩
      conv => whnf
      repeat' ((first | with_reducible refine IF.tt ?_ | with_reducible refine IF.ff ?_ | ((with_reducible refine NEED.mk ?_ ?_); (first | with_reducible rfl | omega | (simp (disch := omega) only [lnB, wrap64, wrap32] <;> omega) | (intro h; (try simp (disch := omega) only [hsB, hsC, lnB, wrap64, wrap32, simprocAttr] at h); (first | omega | (simp (disch := omega) only [lnB, wrap64, wrap32] <;> omega))) | (exact needApp 256 rfl rfl (by simp) (by simp) (by omega)) | (simp <;> omega))) | ((with_reducible apply GET.at); rfl) | ((with_reducible apply GETG.at); rfl) | ((with_reducible refine IF.mk (fun h => ?_) (fun h => ?_)) <;> (try simp (disch := omega) only [hsB, hsC, lnB, wrap64, wrap32, simprocAttr] at h) <;> try (exfalso; omega))) <;> conv => whnf)
      have e : (l ++ [ps[a + 1 + c]]).length = l.length + 1 := by simp
      refine ⟨(c + 1, l ++ [ps[a + 1 + c]]), ⟨by simp only; omega, by simp; omega, by simp only; rw [List.getElem?_append_left (by omega), hl0], ?_, ?_⟩, by simp only; omega, ?_⟩
      · simp only
        rw [show a + 1 + (c + 1) = a + 1 + c + 1 by omega, hs1]
        simp [bulkM] at hlb ⊢; omega
      · simp only
        rw [hx, List.drop_eq_getElem_cons hlt]
        simp only [spanM]
        rw [if_pos h]
        show c + (spanM _ _ + 1) = _
        rw [show a + 1 + (c + 1) = a + 1 + c + 1 by omega]; omega
      · dsimp only
        rw [e, show a + 1 + (c + 1) = a + 1 + c + 1 by omega, show m - (c + 1) = k' by omega]
        conv => whnf
        (refine GOES.keeping h0 [7] rfl rfl rfl (by first | rfl | (simp only [belowO, belowH, plainLL_below _ (plainStrs _), Bool.and_self, Bool.and_true] <;> rfl)) ?_ ?_ <;> (repeat' (first | (with_reducible rfl) | (exact rows_eq (plainStrs _) (renLL_plain _ (plainStrs _))) | (exact rows_eq (plainStrs _) (by simp [strRow, ofVal, List.take_of_length_le])) | (exact sl_eq rfl (by simp)) | (exact congrArg (SV.int _) (by first | omega | (simp (disch := omega) only [lnB, wrap64, wrap32] <;> omega) | (simp; done) | (simp <;> omega))) | ((conv => whnf); refine ⟨?_, ?_⟩) | exact trivial | (simp only [ren, renB]; done) | rfl)))
    · have hn : spanM (partOK 2) (ps.drop (a + 1)) = c := by
        rw [hx, List.drop_eq_getElem_cons hlt]; simp only [spanM]; rw [if_neg (by simp [h])]; rfl
      refine LOOP.go tabOK [1, 5] (X := Nat) (fun i => i ≤ xs.length ∧ dupM xs w = dupM (xs.drop i) w) (fun i => [(7, .int .i64 (i : Int))]) (fun i => [(0, rd6 (a + 1 + c) (m - c)), (2, tg6 L E S R 3 v 4 xs.length P), (4, .rows 1 (xs.map strRow)), (5, .rows 1 (l.map strRow))]) 6 (fun i => xs.length - i) 0 ⟨by omega, rfl⟩ ?_
      conv => whnf
      refine ⟨by (refine GOES.keeping h0 [5] rfl rfl rfl (by first | rfl | (simp only [belowO, belowH, plainLL_below _ (plainStrs _), Bool.and_self, Bool.and_true] <;> rfl)) ?_ ?_ <;> (repeat' (first | (with_reducible rfl) | (exact rows_eq (plainStrs _) (renLL_plain _ (plainStrs _))) | (exact rows_eq (plainStrs _) (by simp [strRow, ofVal, List.take_of_length_le])) | (exact sl_eq rfl (by simp)) | (exact congrArg (SV.int _) (by first | omega | (simp (disch := omega) only [lnB, wrap64, wrap32] <;> omega) | (simp; done) | (simp <;> omega))) | ((conv => whnf); refine ⟨?_, ?_⟩) | exact trivial | (simp only [ren, renB]; done) | rfl))), ?_⟩
      rintro i ⟨hi, hd⟩
      dsimp only at hi hd ⊢
      conv => whnf
      rcases Nat.lt_or_ge i xs.length with him | him
      · obtain ⟨hx1, hx2⟩ := hxs _ (List.getElem_mem him)
        have hsub : Sm (xs[i].take (1 : Int).toNat) := by simp; omega
        repeat' ((first | with_reducible refine IF.tt ?_ | with_reducible refine IF.ff ?_ | refine DRAWN.of (id := 8) tabOK mixed plTag70 (by kernel_rfl) ?_ | refine DRAWN.of (id := 10) tabOK mixed plTag71 (by kernel_rfl) ?_ | with_reducible refine ADD.mk (fun _ _ => ?_) | with_reducible refine NEED.mk (Det.of rfl) ?_ | with_reducible refine FORK.mk ?_ ?_ | (refine GET.at (row := strRow (xs[i]'(by omega))) (by rw [List.getElem?_map, show 0 + (i : Int).toNat = i by simp, List.getElem?_eq_getElem (by omega)]; rfl) ?_; conv => whnf) | (refine GET.at (row := strRow w) (by rw [List.getElem?_map, show 0 + (0 : Int).toNat = 0 by simp, hl0]; rfl) ?_; conv => whnf) | refine CALL.value (r6lower_does _ hsub) rfl rfl ?_ | refine CALL.value (r6lower_does _ hwl) rfl rfl ?_ | ((with_reducible refine NEED.mk ?_ ?_); (first | with_reducible rfl | omega | (simp (disch := omega) only [lnB, wrap64, wrap32] <;> omega) | (intro h; (try simp (disch := omega) only [hsB, hsC, lnB, wrap64, wrap32, simprocAttr] at h); (first | omega | (simp (disch := omega) only [lnB, wrap64, wrap32] <;> omega))) | (exact needApp 256 rfl rfl (by simp) (by simp) (by omega)) | (simp <;> omega))) | ((with_reducible apply GET.at); rfl) | ((with_reducible apply GETG.at); rfl) | ((with_reducible refine IF.mk (fun h => ?_) (fun h => ?_)) <;> (try simp (disch := omega) only [hsB, hsC, lnB, wrap64, wrap32, simprocAttr] at h) <;> try (exfalso; omega))) <;> conv => whnf)
        · have hdup : dupM xs w = true := by rw [hd, dup_at him, beq_iff_eq.2 h]; rfl
          refine FIN.at h0 [4] (.bool false) [(0, rd6 (a + 1 + c) (m - c)), (2, tg6 L E S R 3 v 5 xs.length P), (5, .rows 1 (xs.map strRow))] rfl rfl rfl (by first | rfl | (simp only [belowO, belowH, plainLL_below _ (plainStrs _), Bool.and_self, Bool.and_true] <;> rfl)) (by repeat' (first | exact trivial | exact (renH_plain _ (h := .rows _ _) (plainStrs _)).symm | (with_reducible rfl) | (exact rows_eq (plainStrs _) (by simp [strRow, ofVal, List.take_of_length_le])) | exact rfl | ((conv => whnf); refine ⟨?_, ?_⟩))) rfl ?_
          exact ⟨c, xs, hn.symm, by rw [hdup]; rfl, by simp [hdup], rfl, rfl⟩
        · refine ⟨i + 1, ⟨by omega, ?_⟩, by omega, ?_⟩
          · rw [hd, dup_at him]
            have : (lowerM (xs[i].take 1) == lowerM w) = false := by simpa using h
            rw [this, Bool.false_or]
          · conv => whnf
            (refine GOES.keeping h0 [5] rfl rfl rfl (by first | rfl | (simp only [belowO, belowH, plainLL_below _ (plainStrs _), Bool.and_self, Bool.and_true] <;> rfl)) ?_ ?_ <;> (repeat' (first | (with_reducible rfl) | (exact rows_eq (plainStrs _) (renLL_plain _ (plainStrs _))) | (exact rows_eq (plainStrs _) (by simp [strRow, ofVal, List.take_of_length_le])) | (exact sl_eq rfl (by simp)) | (exact congrArg (SV.int _) (by first | omega | (simp (disch := omega) only [lnB, wrap64, wrap32] <;> omega) | (simp; done) | (simp <;> omega))) | ((conv => whnf); refine ⟨?_, ?_⟩) | exact trivial | (simp only [ren, renB]; done) | rfl)))
      · have hdup : dupM xs w = false := by rw [hd, List.drop_eq_nil_of_le (by omega)]; rfl
        repeat' ((first | with_reducible refine IF.tt ?_ | with_reducible refine IF.ff ?_ | refine DRAWN.of (id := 8) tabOK mixed plTag70 (by kernel_rfl) ?_ | refine DRAWN.of (id := 10) tabOK mixed plTag71 (by kernel_rfl) ?_ | with_reducible refine ADD.mk (fun _ _ => ?_) | with_reducible refine NEED.mk (Det.of rfl) ?_ | with_reducible refine FORK.mk ?_ ?_ | ((with_reducible refine NEED.mk ?_ ?_); (first | with_reducible rfl | omega | (simp (disch := omega) only [lnB, wrap64, wrap32] <;> omega) | (intro h; (try simp (disch := omega) only [hsB, hsC, lnB, wrap64, wrap32, simprocAttr] at h); (first | omega | (simp (disch := omega) only [lnB, wrap64, wrap32] <;> omega))) | (exact needApp 256 rfl rfl (by simp) (by simp) (by omega)) | (simp <;> omega))) | ((with_reducible apply GET.at); rfl) | ((with_reducible apply GETG.at); rfl) | ((with_reducible refine IF.mk (fun h => ?_) (fun h => ?_)) <;> (try simp (disch := omega) only [hsB, hsC, lnB, wrap64, wrap32, simprocAttr] at h) <;> try (exfalso; omega))) <;> conv => whnf)
        refine CALL.at [5] (r6joined_does l (by omega) 0 l.length (by omega)) rfl rfl rfl rfl (by first | rfl | (simp only [belowO, belowH, plainLL_below _ (plainStrs _), Bool.and_self, Bool.and_true] <;> rfl)) (by first | rfl | (simp only [belowO, belowH, plainLL_below _ (plainStrs _), Bool.and_self, Bool.and_true] <;> rfl)) (by repeat' (first | exact trivial | exact (renH_plain _ (h := .rows _ _) (plainStrs _)).symm | exact rfl | exact (renH_plain _ (h := .rows _ _) (plainStrs _)).trans (renH_plain _ (h := .rows _ _) (plainStrs _)).symm | ((conv => whnf); refine ⟨?_, ?_⟩))) (by repeat' (first | exact trivial | exact (renH_plain _ (h := .rows _ _) (plainStrs _)).symm | exact rfl | exact (renH_plain _ (h := .rows _ _) (plainStrs _)).trans (renH_plain _ (h := .rows _ _) (plainStrs _)).symm | ((conv => whnf); refine ⟨?_, ?_⟩))) rfl rfl ?_
        rintro r O' nx' ⟨z, hz, hzw, rfl, rfl, rfl⟩
        conv => whnf
        repeat' ((first | with_reducible refine IF.tt ?_ | with_reducible refine IF.ff ?_ | refine DRAWN.of (id := 8) tabOK mixed plTag70 (by kernel_rfl) ?_ | refine DRAWN.of (id := 10) tabOK mixed plTag71 (by kernel_rfl) ?_ | with_reducible refine ADD.mk (fun _ _ => ?_) | with_reducible refine NEED.mk (Det.of rfl) ?_ | with_reducible refine FORK.mk ?_ ?_ | ((with_reducible refine NEED.mk ?_ ?_); (first | with_reducible rfl | omega | (simp (disch := omega) only [lnB, wrap64, wrap32] <;> omega) | (intro h; (try simp (disch := omega) only [hsB, hsC, lnB, wrap64, wrap32, simprocAttr] at h); (first | omega | (simp (disch := omega) only [lnB, wrap64, wrap32] <;> omega))) | (exact needApp 256 rfl rfl (by simp) (by simp) (by omega)) | (simp <;> omega))) | ((with_reducible apply GET.at); rfl) | ((with_reducible apply GETG.at); rfl) | ((with_reducible refine IF.mk (fun h => ?_) (fun h => ?_)) <;> (try simp (disch := omega) only [hsB, hsC, lnB, wrap64, wrap32, simprocAttr] at h) <;> try (exfalso; omega))) <;> conv => whnf)
        obtain ⟨t, rfl⟩ := hzw w hl0
        have e : (xs ++ [w ++ t]).length = xs.length + 1 := by simp
        have ec : decide ((1 : Int) < (l.length : Int)) = decide (c ≠ 0) := decide_eq_decide.2 (by omega)
        rw [ec]
        refine FIN.at h0 [7] (.bool (decide (c ≠ 0))) [(0, rd6 (a + 1 + c) (m - c)), (2, tg6 L E S R 3 v 5 (xs.length + 1) P), (5, .rows 1 ((xs ++ [w ++ t]).map strRow))] rfl rfl rfl (by first | rfl | (simp only [belowO, belowH, plainLL_below _ (plainStrs _), Bool.and_self, Bool.and_true] <;> rfl)) (by repeat' (first | exact trivial | exact (renH_plain _ (h := .rows _ _) (plainStrs _)).symm | (with_reducible rfl) | (exact rows_eq (plainStrs _) (by simp [strRow, ofVal, List.take_of_length_le])) | exact rfl | ((conv => whnf); refine ⟨?_, ?_⟩))) rfl ?_
        exact ⟨c, xs ++ [w ++ t], hn.symm, by rw [hdup]; rfl, fun _ => ⟨_, rfl, by rw [List.take_append_of_le_length (by omega), List.take_of_length_le (by omega)], by omega⟩, by rw [e], rfl⟩
  · repeat' ((first | with_reducible refine IF.tt ?_ | with_reducible refine IF.ff ?_ | ((with_reducible refine NEED.mk ?_ ?_); (first | with_reducible rfl | omega | (simp (disch := omega) only [lnB, wrap64, wrap32] <;> omega) | (intro h; (try simp (disch := omega) only [hsB, hsC, lnB, wrap64, wrap32, simprocAttr] at h); (first | omega | (simp (disch := omega) only [lnB, wrap64, wrap32] <;> omega))) | (exact needApp 256 rfl rfl (by simp) (by simp) (by omega)) | (simp <;> omega))) | ((with_reducible apply GET.at); rfl) | ((with_reducible apply GETG.at); rfl) | ((with_reducible refine IF.mk (fun h => ?_) (fun h => ?_)) <;> (try simp (disch := omega) only [hsB, hsC, lnB, wrap64, wrap32, simprocAttr] at h) <;> try (exfalso; omega))) <;> conv => whnf)
    have hn : spanM (partOK 2) (ps.drop (a + 1)) = c := by
      rw [hx, List.drop_eq_nil_of_le (by omega)]; rfl
    refine LOOP.go tabOK [1, 5] (X := Nat) (fun i => i ≤ xs.length ∧ dupM xs w = dupM (xs.drop i) w) (fun i => [(7, .int .i64 (i : Int))]) (fun i => [(0, rd6 (a + 1 + c) (m - c)), (2, tg6 L E S R 3 v 4 xs.length P), (4, .rows 1 (xs.map strRow)), (5, .rows 1 (l.map strRow))]) 6 (fun i => xs.length - i) 0 ⟨by omega, rfl⟩ ?_
    conv => whnf
    refine ⟨by (refine GOES.keeping h0 [5] rfl rfl rfl (by first | rfl | (simp only [belowO, belowH, plainLL_below _ (plainStrs _), Bool.and_self, Bool.and_true] <;> rfl)) ?_ ?_ <;> (repeat' (first | (with_reducible rfl) | (exact rows_eq (plainStrs _) (renLL_plain _ (plainStrs _))) | (exact rows_eq (plainStrs _) (by simp [strRow, ofVal, List.take_of_length_le])) | (exact sl_eq rfl (by simp)) | (exact congrArg (SV.int _) (by first | omega | (simp (disch := omega) only [lnB, wrap64, wrap32] <;> omega) | (simp; done) | (simp <;> omega))) | ((conv => whnf); refine ⟨?_, ?_⟩) | exact trivial | (simp only [ren, renB]; done) | rfl))), ?_⟩
    rintro i ⟨hi, hd⟩
    dsimp only at hi hd ⊢
    conv => whnf
    rcases Nat.lt_or_ge i xs.length with him | him
    · obtain ⟨hx1, hx2⟩ := hxs _ (List.getElem_mem him)
      have hsub : Sm (xs[i].take (1 : Int).toNat) := by simp; omega
      repeat' ((first | with_reducible refine IF.tt ?_ | with_reducible refine IF.ff ?_ | refine DRAWN.of (id := 8) tabOK mixed plTag70 (by kernel_rfl) ?_ | refine DRAWN.of (id := 10) tabOK mixed plTag71 (by kernel_rfl) ?_ | with_reducible refine ADD.mk (fun _ _ => ?_) | with_reducible refine NEED.mk (Det.of rfl) ?_ | with_reducible refine FORK.mk ?_ ?_ | (refine GET.at (row := strRow (xs[i]'(by omega))) (by rw [List.getElem?_map, show 0 + (i : Int).toNat = i by simp, List.getElem?_eq_getElem (by omega)]; rfl) ?_; conv => whnf) | (refine GET.at (row := strRow w) (by rw [List.getElem?_map, show 0 + (0 : Int).toNat = 0 by simp, hl0]; rfl) ?_; conv => whnf) | refine CALL.value (r6lower_does _ hsub) rfl rfl ?_ | refine CALL.value (r6lower_does _ hwl) rfl rfl ?_ | ((with_reducible refine NEED.mk ?_ ?_); (first | with_reducible rfl | omega | (simp (disch := omega) only [lnB, wrap64, wrap32] <;> omega) | (intro h; (try simp (disch := omega) only [hsB, hsC, lnB, wrap64, wrap32, simprocAttr] at h); (first | omega | (simp (disch := omega) only [lnB, wrap64, wrap32] <;> omega))) | (exact needApp 256 rfl rfl (by simp) (by simp) (by omega)) | (simp <;> omega))) | ((with_reducible apply GET.at); rfl) | ((with_reducible apply GETG.at); rfl) | ((with_reducible refine IF.mk (fun h => ?_) (fun h => ?_)) <;> (try simp (disch := omega) only [hsB, hsC, lnB, wrap64, wrap32, simprocAttr] at h) <;> try (exfalso; omega))) <;> conv => whnf)
      · have hdup : dupM xs w = true := by rw [hd, dup_at him, beq_iff_eq.2 h]; rfl
        refine FIN.at h0 [4] (.bool false) [(0, rd6 (a + 1 + c) (m - c)), (2, tg6 L E S R 3 v 5 xs.length P), (5, .rows 1 (xs.map strRow))] rfl rfl rfl (by first | rfl | (simp only [belowO, belowH, plainLL_below _ (plainStrs _), Bool.and_self, Bool.and_true] <;> rfl)) (by repeat' (first | exact trivial | exact (renH_plain _ (h := .rows _ _) (plainStrs _)).symm | (with_reducible rfl) | (exact rows_eq (plainStrs _) (by simp [strRow, ofVal, List.take_of_length_le])) | exact rfl | ((conv => whnf); refine ⟨?_, ?_⟩))) rfl ?_
        exact ⟨c, xs, hn.symm, by rw [hdup]; rfl, by simp [hdup], rfl, rfl⟩
      · refine ⟨i + 1, ⟨by omega, ?_⟩, by omega, ?_⟩
        · rw [hd, dup_at him]
          have : (lowerM (xs[i].take 1) == lowerM w) = false := by simpa using h
          rw [this, Bool.false_or]
        · conv => whnf
          (refine GOES.keeping h0 [5] rfl rfl rfl (by first | rfl | (simp only [belowO, belowH, plainLL_below _ (plainStrs _), Bool.and_self, Bool.and_true] <;> rfl)) ?_ ?_ <;> (repeat' (first | (with_reducible rfl) | (exact rows_eq (plainStrs _) (renLL_plain _ (plainStrs _))) | (exact rows_eq (plainStrs _) (by simp [strRow, ofVal, List.take_of_length_le])) | (exact sl_eq rfl (by simp)) | (exact congrArg (SV.int _) (by first | omega | (simp (disch := omega) only [lnB, wrap64, wrap32] <;> omega) | (simp; done) | (simp <;> omega))) | ((conv => whnf); refine ⟨?_, ?_⟩) | exact trivial | (simp only [ren, renB]; done) | rfl)))
    · have hdup : dupM xs w = false := by rw [hd, List.drop_eq_nil_of_le (by omega)]; rfl
      repeat' ((first | with_reducible refine IF.tt ?_ | with_reducible refine IF.ff ?_ | refine DRAWN.of (id := 8) tabOK mixed plTag70 (by kernel_rfl) ?_ | refine DRAWN.of (id := 10) tabOK mixed plTag71 (by kernel_rfl) ?_ | with_reducible refine ADD.mk (fun _ _ => ?_) | with_reducible refine NEED.mk (Det.of rfl) ?_ | with_reducible refine FORK.mk ?_ ?_ | ((with_reducible refine NEED.mk ?_ ?_); (first | with_reducible rfl | omega | (simp (disch := omega) only [lnB, wrap64, wrap32] <;> omega) | (intro h; (try simp (disch := omega) only [hsB, hsC, lnB, wrap64, wrap32, simprocAttr] at h); (first | omega | (simp (disch := omega) only [lnB, wrap64, wrap32] <;> omega))) | (exact needApp 256 rfl rfl (by simp) (by simp) (by omega)) | (simp <;> omega))) | ((with_reducible apply GET.at); rfl) | ((with_reducible apply GETG.at); rfl) | ((with_reducible refine IF.mk (fun h => ?_) (fun h => ?_)) <;> (try simp (disch := omega) only [hsB, hsC, lnB, wrap64, wrap32, simprocAttr] at h) <;> try (exfalso; omega))) <;> conv => whnf)
      refine CALL.at [5] (r6joined_does l (by omega) 0 l.length (by omega)) rfl rfl rfl rfl (by first | rfl | (simp only [belowO, belowH, plainLL_below _ (plainStrs _), Bool.and_self, Bool.and_true] <;> rfl)) (by first | rfl | (simp only [belowO, belowH, plainLL_below _ (plainStrs _), Bool.and_self, Bool.and_true] <;> rfl)) (by repeat' (first | exact trivial | exact (renH_plain _ (h := .rows _ _) (plainStrs _)).symm | exact rfl | exact (renH_plain _ (h := .rows _ _) (plainStrs _)).trans (renH_plain _ (h := .rows _ _) (plainStrs _)).symm | ((conv => whnf); refine ⟨?_, ?_⟩))) (by repeat' (first | exact trivial | exact (renH_plain _ (h := .rows _ _) (plainStrs _)).symm | exact rfl | exact (renH_plain _ (h := .rows _ _) (plainStrs _)).trans (renH_plain _ (h := .rows _ _) (plainStrs _)).symm | ((conv => whnf); refine ⟨?_, ?_⟩))) rfl rfl ?_
      rintro r O' nx' ⟨z, hz, hzw, rfl, rfl, rfl⟩
      conv => whnf
      repeat' ((first | with_reducible refine IF.tt ?_ | with_reducible refine IF.ff ?_ | refine DRAWN.of (id := 8) tabOK mixed plTag70 (by kernel_rfl) ?_ | refine DRAWN.of (id := 10) tabOK mixed plTag71 (by kernel_rfl) ?_ | with_reducible refine ADD.mk (fun _ _ => ?_) | with_reducible refine NEED.mk (Det.of rfl) ?_ | with_reducible refine FORK.mk ?_ ?_ | ((with_reducible refine NEED.mk ?_ ?_); (first | with_reducible rfl | omega | (simp (disch := omega) only [lnB, wrap64, wrap32] <;> omega) | (intro h; (try simp (disch := omega) only [hsB, hsC, lnB, wrap64, wrap32, simprocAttr] at h); (first | omega | (simp (disch := omega) only [lnB, wrap64, wrap32] <;> omega))) | (exact needApp 256 rfl rfl (by simp) (by simp) (by omega)) | (simp <;> omega))) | ((with_reducible apply GET.at); rfl) | ((with_reducible apply GETG.at); rfl) | ((with_reducible refine IF.mk (fun h => ?_) (fun h => ?_)) <;> (try simp (disch := omega) only [hsB, hsC, lnB, wrap64, wrap32, simprocAttr] at h) <;> try (exfalso; omega))) <;> conv => whnf)
      obtain ⟨t, rfl⟩ := hzw w hl0
      have e : (xs ++ [w ++ t]).length = xs.length + 1 := by simp
      have ec : decide ((1 : Int) < (l.length : Int)) = decide (c ≠ 0) := decide_eq_decide.2 (by omega)
      rw [ec]
      refine FIN.at h0 [7] (.bool (decide (c ≠ 0))) [(0, rd6 (a + 1 + c) (m - c)), (2, tg6 L E S R 3 v 5 (xs.length + 1) P), (5, .rows 1 ((xs ++ [w ++ t]).map strRow))] rfl rfl rfl (by first | rfl | (simp only [belowO, belowH, plainLL_below _ (plainStrs _), Bool.and_self, Bool.and_true] <;> rfl)) (by repeat' (first | exact trivial | exact (renH_plain _ (h := .rows _ _) (plainStrs _)).symm | (with_reducible rfl) | (exact rows_eq (plainStrs _) (by simp [strRow, ofVal, List.take_of_length_le])) | exact rfl | ((conv => whnf); refine ⟨?_, ?_⟩))) rfl ?_
      exact ⟨c, xs ++ [w ++ t], hn.symm, by rw [hdup]; rfl, fun _ => ⟨_, rfl, by rw [List.take_append_of_le_length (by omega), List.take_of_length_le (by omega)], by omega⟩, by rw [e], rfl⟩
theorem private6_does (ps : List (List UInt8)) (hb : bulkM ps + ps.length ≤ 34359738368) (a m : Nat) (ham : a + m = ps.length) (ha : a < ps.length)
    (L E S R : List UInt8) (v x : Nat) (P : List UInt8) :
    Does Tryz.prog tab 145 5 [.ptr (.loc 0) 0 0 0, .ptr (.loc 2) 0 0 0] [(2, tg6 L E S R 3 v 4 x P)] [(0, rd6 a m), (1, .rows 1 (ps.map strRow))]
      (fun r O nx => ∃ P', r = .bool (decide (spanM (partOK 1) (ps.drop (a + 1)) ≠ 0 ∧ spanM (partOK 1) (ps.drop (a + 1)) = (ps.drop (a + 1)).length)) ∧ O = [(2, tg6 L E S R 3 v 4 x P')] ∧ nx = 5) := by
  have hsm := bulk_sm (ps := ps) (by omega)
  have hspan := span_le (partOK 1) (ps.drop (a + 1))
  rw [List.length_drop] at hspan ⊢
  refine Does.enter tabOK (g := 145) (fn := Tryz.f145) Tryz.call145 Tryz.func145 rfl 40 rfl rfl [.tmp 4] rfl ?_
  intro w0 F η0 h0
  conv => whnf
  refine CALL.at [1] (r6joined_does ps (by omega) a m ham) rfl rfl rfl rfl (by first | rfl | (simp only [belowO, belowH, plainLL_below _ (plainStrs _), Bool.and_self, Bool.and_true] <;> rfl)) (by first | rfl | (simp only [belowO, belowH, plainLL_below _ (plainStrs _), Bool.and_self, Bool.and_true] <;> rfl)) (by repeat' (first | exact trivial | exact (renH_plain _ (h := .rows _ _) (plainStrs _)).symm | exact rfl | exact (renH_plain _ (h := .rows _ _) (plainStrs _)).trans (renH_plain _ (h := .rows _ _) (plainStrs _)).symm | ((conv => whnf); refine ⟨?_, ?_⟩))) (by repeat' (first | exact trivial | exact (renH_plain _ (h := .rows _ _) (plainStrs _)).symm | exact rfl | exact (renH_plain _ (h := .rows _ _) (plainStrs _)).trans (renH_plain _ (h := .rows _ _) (plainStrs _)).symm | ((conv => whnf); refine ⟨?_, ?_⟩))) rfl rfl ?_
  rintro r O' nx' ⟨z, hz, _, rfl, rfl, rfl⟩
  conv => whnf
  refine IF.mk (fun h => ?_) (fun h => ?_)
  · have h : m < 2 := by simp at h; omega
    conv => whnf
    exact FIN.here h0 (rc := .bool _) (Oc := [(2, tg6 L E S R 3 v 4 x z)]) rfl rfl rfl ⟨rfl, trivial⟩ ⟨z, congrArg SV.bool (decide_eq_false (by omega)).symm, rfl, rfl⟩
  have h : 2 ≤ m := by simp at h; omega
  conv => whnf
  refine LOOP.go tabOK [0] (X := Nat) (fun i => 1 ≤ i ∧ i ≤ m ∧ spanM (partOK 1) (ps.drop (a + 1)) = (i - 1) + spanM (partOK 1) (ps.drop (a + i))) (fun i => [(5, .int .i64 (i : Int))]) (fun i => [(2, tg6 L E S R 3 v 4 x z)]) 5 (fun i => m - i) 1 ⟨by omega, by omega, by simp⟩ ?_
  conv => whnf
  refine ⟨by (refine GOES.cutting h0 rfl rfl rfl (by first | rfl | simp [belowO, belowH, plainLL_below, plainLL_map, plainL, plain]) ?_ ?_ <;> (repeat' (first | (with_reducible rfl) | (exact congrArg (fun n => SV.sl _ _ _ n _) (by simp)) | (exact congrArg (Hp.rows _) (by simp)) | (exact congrArg (SV.int _) (by first | omega | (simp (disch := omega) only [lnB, wrap64, wrap32] <;> omega) | (simp; done) | (simp <;> omega))) | ((conv => whnf); refine ⟨?_, ?_⟩) | exact trivial | (simp; done) | rfl))), ?_⟩
  rintro i ⟨hi1, hi, hx⟩
  dsimp only at hi1 hi hx ⊢
  conv => whnf
  rcases Nat.lt_or_ge i m with him | him
  · have hlt : a + i < ps.length := by omega
    have hs := hsm _ (List.getElem_mem hlt)
    rw [List.drop_eq_getElem_cons hlt] at hx
    simp only [spanM] at hx
    repeat' ((first | with_reducible refine IF.tt ?_ | with_reducible refine IF.ff ?_ | (refine GET.at (row := strRow (ps[a + i]'(by omega))) (by rw [List.getElem?_map, show a + (i : Int).toNat = a + i by simp, List.getElem?_eq_getElem (by omega)]; rfl) ?_; conv => whnf) | refine CALL.value (r6both_does _ _ _ hs) rfl rfl ?_ | ((with_reducible refine NEED.mk ?_ ?_); (first | with_reducible rfl | omega | (simp (disch := omega) only [lnB, wrap64, wrap32] <;> omega) | (intro h; (try simp (disch := omega) only [hsB, hsC, lnB, wrap64, wrap32, simprocAttr] at h); (first | omega | (simp (disch := omega) only [lnB, wrap64, wrap32] <;> omega))) | (exact needApp 256 rfl rfl (by simp) (by simp) (by omega)) | (simp <;> omega))) | ((with_reducible apply GET.at); rfl) | ((with_reducible apply GETG.at); rfl) | ((with_reducible refine IF.mk (fun h => ?_) (fun h => ?_)) <;> (try simp (disch := omega) only [hsB, hsC, lnB, wrap64, wrap32, simprocAttr] at h) <;> try (exfalso; omega))) <;> conv => whnf)
    · rw [if_neg (by simp [partOK, h])] at hx
      exact FIN.here h0 (rc := .bool _) (Oc := [(2, tg6 L E S R 3 v 4 x z)]) rfl rfl rfl ⟨rfl, trivial⟩ ⟨z, congrArg SV.bool (decide_eq_false (by omega)).symm, rfl, rfl⟩
    · rw [if_pos (by simp [partOK, h])] at hx
      refine ⟨i + 1, ⟨by omega, by omega, by rw [hx, show a + (i + 1) = a + i + 1 by omega]; omega⟩, by omega, ?_⟩
      conv => whnf
      (refine GOES.cutting h0 rfl rfl rfl (by first | rfl | simp [belowO, belowH, plainLL_below, plainLL_map, plainL, plain]) ?_ ?_ <;> (repeat' (first | (with_reducible rfl) | (exact congrArg (fun n => SV.sl _ _ _ n _) (by simp)) | (exact congrArg (Hp.rows _) (by simp)) | (exact congrArg (SV.int _) (by first | omega | (simp (disch := omega) only [lnB, wrap64, wrap32] <;> omega) | (simp; done) | (simp <;> omega))) | ((conv => whnf); refine ⟨?_, ?_⟩) | exact trivial | (simp; done) | rfl)))
  · rw [show ps.drop (a + i) = [] from List.drop_eq_nil_of_le (by omega)] at hx
    simp only [spanM] at hx
    repeat' ((first | with_reducible refine IF.tt ?_ | with_reducible refine IF.ff ?_ | ((with_reducible refine NEED.mk ?_ ?_); (first | with_reducible rfl | omega | (simp (disch := omega) only [lnB, wrap64, wrap32] <;> omega) | (intro h; (try simp (disch := omega) only [hsB, hsC, lnB, wrap64, wrap32, simprocAttr] at h); (first | omega | (simp (disch := omega) only [lnB, wrap64, wrap32] <;> omega))) | (exact needApp 256 rfl rfl (by simp) (by simp) (by omega)) | (simp <;> omega))) | ((with_reducible apply GET.at); rfl) | ((with_reducible apply GETG.at); rfl) | ((with_reducible refine IF.mk (fun h => ?_) (fun h => ?_)) <;> (try simp (disch := omega) only [hsB, hsC, lnB, wrap64, wrap32, simprocAttr] at h) <;> try (exfalso; omega))) <;> conv => whnf)
    exact FIN.here h0 (rc := .bool _) (Oc := [(2, tg6 L E S R 3 v 4 x z)]) rfl rfl rfl ⟨rfl, trivial⟩ ⟨z, congrArg SV.bool (decide_eq_true (by omega)).symm, rfl, rfl⟩
end Go.Proofs.YtpffclpheldabaaGreatDoor
/- The reference's tags, walked: whether it is one. Conditions: none. -/
set_option linter.unusedVariables false
set_option linter.unusedSimpArgs false
set_option maxRecDepth 20000
namespace Go.Proofs.YtpffclpheldabaaGreatDoor
open Go.Sx Go.Our
theorem low_x (s : List UInt8) : (lowerM s != [120]) = !privateM s := by rw [private_lower]; rfl
theorem low_x' (s : List UInt8) : (lowerM s == [120]) = privateM s := by rw [private_lower]
def rd6' (i m : Nat) : Hp := .box [.sl (.loc 2) i 1 m none]
def tz6 : Hp := .box [.str [], .str [], .str [], .str [], .val (.slice none 0 0), .val (.slice none 0 0), .str []]
def frT : Fr := [(2, .ptr (.loc 0) 0 0 0), (4, .ptr (.loc 1) 0 0 0), (5, .ptr (.loc 3) 0 0 0)]
def OT (ps : List (List UInt8)) (a : Nat) (L E S R : List UInt8) : Hps := [(0, tz6), (1, tg6 L E S R 4 0 5 0 []), (2, .rows 1 (ps.map strRow)), (3, rd6' a (ps.length - a)), (4, .rows 1 []), (5, .rows 1 [])]
def contP (l : List (List UInt8)) : Bool := match varsP [] l with
  | none => false
  | some (l, seen) => match extsP seen l with
    | none => false
    | some l => lastP l
theorem more44 : moreM 4 4 false = fun s => madeM s 4 4 true := funext (more_made 4 4)
theorem variant_len {s : List UInt8} (h : variantM s = true) : 4 ≤ s.length := by
  unfold variantM at h
  simp only [Bool.or_eq_true, Bool.and_eq_true] at h
  rcases h with h | h
  · have := made_len h; omega
  · have := made_len h.1; omega
set_option maxHeartbeats 8000000 in
theorem tag6_does (s : List UInt8) (hs : s.length ≤ 8589934592) : Does Tryz.prog tab 104 0 [.str s] [] [] (Val (.tup [.agg (anyN 7), .int .i64 (if tagP (splitM s) = true then 0 else 61)])) := by
  have hbulk := split_bulk s
  have hlen := split_len s
  have hne := split_ne s
  generalize hps : splitM s = ps at *
  have hb : bulkM ps + ps.length ≤ 34359738368 := by unfold bulkM; omega
  have hsm := bulk_sm (ps := ps) (by omega)
  obtain ⟨p0, hp0⟩ : ∃ p0, ps[0]? = some p0 := by
    cases ps with
    | nil => exact (hne rfl).elim
    | cons a t => exact ⟨a, rfl⟩
  have hp0l := hsm p0 (List.mem_of_getElem? hp0)
  have hhead : headIs privateM ps = privateM p0 := by
    cases ps with
    | nil => cases hp0
    | cons a t => have : a = p0 := by simpa using hp0
                  subst this; rfl
  refine Does.enter tabOK (g := 104) (fn := Tryz.f104) Tryz.call104 Tryz.func104 rfl 152 rfl rfl [.cell 2 118, .tmp 3] rfl ?_
  intro w0 F η0 h0
  conv => whnf
  apply loopOnce (X := Nat × List UInt8 × List UInt8 × List UInt8 × List UInt8) (n := 6) (fun x => tagP ps = contP (ps.drop x.1) ∧ x.1 ≤ ps.length) (fun _ => frT) (fun x => OT ps x.1 x.2.1 x.2.2.1 x.2.2.2.1 x.2.2.2.2)
  intro K
  refine CALL.newS (r6parts_does s (by omega)) rfl (plainStrs _) ?_
  rw [hps, List.length_map]
  have hpos : 0 < ps.length := (List.getElem?_eq_some_iff.1 hp0).1
  conv => whnf
  repeat' ((first | with_reducible refine IF.tt ?_ | with_reducible refine IF.ff ?_ | (refine GET.at (row := strRow p0) (by rw [List.getElem?_map, show 0 + (0 : Int).toNat = 0 by simp, hp0]; rfl) ?_; conv => whnf) | ((with_reducible refine NEED.mk ?_ ?_); (first | with_reducible rfl | omega | (simp (disch := omega) only [lnB, wrap64, wrap32] <;> omega) | (intro h; (try simp (disch := omega) only [hsB, hsC, lnB, wrap64, wrap32, simprocAttr] at h); (first | omega | (simp (disch := omega) only [lnB, wrap64, wrap32] <;> omega))) | (exact needApp 256 rfl rfl (by simp) (by simp) (by omega)) | (simp <;> omega))) | ((with_reducible apply GET.at); rfl) | ((with_reducible apply GETG.at); rfl) | ((with_reducible refine IF.mk (fun h => ?_) (fun h => ?_)) <;> (try simp (disch := omega) only [hsB, hsC, lnB, wrap64, wrap32, simprocAttr] at h) <;> try (exfalso; omega))) <;> conv => whnf)
  refine CALL.nilCell 1 4 1 rfl rfl ?_
  refine CALL.nilCell 1 5 1 rfl rfl ?_
  refine CALL.value (r6lower_does _ hp0l) rfl rfl ?_
  conv => whnf
  refine IF.mk (fun h => ?_) (fun h => ?_)
  · rw [low_x] at h
    have hpr : headIs privateM ps = false := by rw [hhead]; simpa using h
    have hcont : ∀ l, langP (ps.drop 0) = some l → tagP ps = contP (skipIf regionM (skipIf (fun s => madeM s 4 4 true) l)) := by
      intro l hl
      have hl : langP ps = some l := hl
      unfold tagP contP
      rw [if_neg (by simp [hpr]), hl]
      simp only [restP]
      cases varsP [] (skipIf regionM (skipIf (fun s => madeM s 4 4 true) l)) with
      | none => rfl
      | some x => obtain ⟨l', seen⟩ := x; rfl
    conv => whnf
    refine CALL.at [3, 2, 1, 4, 5] (language6_does ps (by omega) 0 ps.length (by omega)) rfl rfl rfl rfl (by first | rfl | (simp only [belowO, belowH, plainLL_below _ (plainStrs _), Bool.and_self, Bool.and_true] <;> rfl)) (by first | rfl | (simp only [belowO, belowH, plainLL_below _ (plainStrs _), Bool.and_self, Bool.and_true] <;> rfl)) (by repeat' (first | exact trivial | exact (renH_plain _ (h := .rows _ _) (plainStrs _)).symm | exact rfl | exact (renH_plain _ (h := .rows _ _) (plainStrs _)).trans (renH_plain _ (h := .rows _ _) (plainStrs _)).symm | ((conv => whnf); refine ⟨?_, ?_⟩))) (by repeat' (first | exact trivial | exact (renH_plain _ (h := .rows _ _) (plainStrs _)).symm | exact rfl | exact (renH_plain _ (h := .rows _ _) (plainStrs _)).trans (renH_plain _ (h := .rows _ _) (plainStrs _)).symm | ((conv => whnf); refine ⟨?_, ?_⟩))) rfl rfl ?_
    rintro r O' nx' ⟨i1, m1, L, E, him1, rfl, hL, rfl, rfl⟩
    cases h2 : langP (ps.drop 0) with
    | none =>
      have htag : tagP ps = false := by
        have h2 : langP ps = none := h2
        unfold tagP; rw [if_neg (by simp [hpr]), h2]
      rw [Option.isSome_none]
      conv => whnf
      repeat' ((first | with_reducible refine IF.tt ?_ | with_reducible refine IF.ff ?_ | ((with_reducible refine NEED.mk ?_ ?_); (first | with_reducible rfl | omega | (simp (disch := omega) only [lnB, wrap64, wrap32] <;> omega) | (intro h; (try simp (disch := omega) only [hsB, hsC, lnB, wrap64, wrap32, simprocAttr] at h); (first | omega | (simp (disch := omega) only [lnB, wrap64, wrap32] <;> omega))) | (exact needApp 256 rfl rfl (by simp) (by simp) (by omega)) | (simp <;> omega))) | ((with_reducible apply GET.at); rfl) | ((with_reducible apply GETG.at); rfl) | ((with_reducible refine IF.mk (fun h => ?_) (fun h => ?_)) <;> (try simp (disch := omega) only [hsB, hsC, lnB, wrap64, wrap32, simprocAttr] at h) <;> try (exfalso; omega))) <;> conv => whnf)
      refine FIN.anyA 7 h0 rfl rfl rfl ⟨?_, rfl, rfl⟩
      rw [htag]; rfl
    | some l1 =>
      obtain ⟨hl1, hLne⟩ := hL l1 h2
      subst hl1
      have hc1 := hcont _ h2
      rw [Option.isSome_some]
      conv => whnf
      repeat' ((first | with_reducible refine IF.tt ?_ | with_reducible refine IF.ff ?_ | (refine IF.yes (b := L != []) (by simpa using hLne) ?_; conv => whnf) | ((with_reducible refine NEED.mk ?_ ?_); (first | with_reducible rfl | omega | (simp (disch := omega) only [lnB, wrap64, wrap32] <;> omega) | (intro h; (try simp (disch := omega) only [hsB, hsC, lnB, wrap64, wrap32, simprocAttr] at h); (first | omega | (simp (disch := omega) only [lnB, wrap64, wrap32] <;> omega))) | (exact needApp 256 rfl rfl (by simp) (by simp) (by omega)) | (simp <;> omega))) | ((with_reducible apply GET.at); rfl) | ((with_reducible apply GETG.at); rfl) | ((with_reducible refine IF.mk (fun h => ?_) (fun h => ?_)) <;> (try simp (disch := omega) only [hsB, hsC, lnB, wrap64, wrap32, simprocAttr] at h) <;> try (exfalso; omega))) <;> conv => whnf)
      refine CALL.at [3, 2] (more_does 4 4 false ps hsm i1 m1 him1) rfl rfl rfl rfl (by first | rfl | (simp only [belowO, belowH, plainLL_below _ (plainStrs _), Bool.and_self, Bool.and_true] <;> rfl)) (by first | rfl | (simp only [belowO, belowH, plainLL_below _ (plainStrs _), Bool.and_self, Bool.and_true] <;> rfl)) (by repeat' (first | exact trivial | exact (renH_plain _ (h := .rows _ _) (plainStrs _)).symm | exact rfl | exact (renH_plain _ (h := .rows _ _) (plainStrs _)).trans (renH_plain _ (h := .rows _ _) (plainStrs _)).symm | ((conv => whnf); refine ⟨?_, ?_⟩))) (by repeat' (first | exact trivial | exact (renH_plain _ (h := .rows _ _) (plainStrs _)).symm | exact rfl | exact (renH_plain _ (h := .rows _ _) (plainStrs _)).trans (renH_plain _ (h := .rows _ _) (plainStrs _)).symm | ((conv => whnf); refine ⟨?_, ?_⟩))) rfl rfl ?_
      rintro r O' nx' ⟨rfl, rfl, rfl⟩
      rw [more44]
      conv => whnf
      (repeat (first | ((with_reducible refine IF.tt ?_); conv => whnf) | ((with_reducible refine IF.ff ?_); conv => whnf)))
      refine IF.mk (fun h4 => ?_) (fun h4 => ?_)
      · obtain ⟨w1, hw1, hwm1⟩ := sees_yes h4
        have hlt1 := (List.getElem?_eq_some_iff.1 hw1).1
        obtain ⟨k1, rfl⟩ : ∃ k1, m1 = k1 + 1 := ⟨m1 - 1, by omega⟩
        rw [skip_yes hw1 hwm1] at hc1
        conv => whnf
        refine CALL.at [3, 2] (next6_does ps i1 k1 him1 w1 hw1) rfl rfl rfl rfl (by first | rfl | (simp only [belowO, belowH, plainLL_below _ (plainStrs _), Bool.and_self, Bool.and_true] <;> rfl)) (by first | rfl | (simp only [belowO, belowH, plainLL_below _ (plainStrs _), Bool.and_self, Bool.and_true] <;> rfl)) (by repeat' (first | exact trivial | exact (renH_plain _ (h := .rows _ _) (plainStrs _)).symm | exact rfl | exact (renH_plain _ (h := .rows _ _) (plainStrs _)).trans (renH_plain _ (h := .rows _ _) (plainStrs _)).symm | ((conv => whnf); refine ⟨?_, ?_⟩))) (by repeat' (first | exact trivial | exact (renH_plain _ (h := .rows _ _) (plainStrs _)).symm | exact rfl | exact (renH_plain _ (h := .rows _ _) (plainStrs _)).trans (renH_plain _ (h := .rows _ _) (plainStrs _)).symm | ((conv => whnf); refine ⟨?_, ?_⟩))) rfl rfl ?_
        rintro r O' nx' ⟨rfl, rfl, rfl⟩
        conv => whnf
        repeat' ((first | with_reducible refine IF.tt ?_ | with_reducible refine IF.ff ?_ | (refine IF.yes (b := L != []) (by simpa using hLne) ?_; conv => whnf) | ((with_reducible refine NEED.mk ?_ ?_); (first | with_reducible rfl | omega | (simp (disch := omega) only [lnB, wrap64, wrap32] <;> omega) | (intro h; (try simp (disch := omega) only [hsB, hsC, lnB, wrap64, wrap32, simprocAttr] at h); (first | omega | (simp (disch := omega) only [lnB, wrap64, wrap32] <;> omega))) | (exact needApp 256 rfl rfl (by simp) (by simp) (by omega)) | (simp <;> omega))) | ((with_reducible apply GET.at); rfl) | ((with_reducible apply GETG.at); rfl) | ((with_reducible refine IF.mk (fun h => ?_) (fun h => ?_)) <;> (try simp (disch := omega) only [hsB, hsC, lnB, wrap64, wrap32, simprocAttr] at h) <;> try (exfalso; omega))) <;> conv => whnf)
        refine CALL.at [3, 2] (more_does 2 2 false ps hsm (i1 + 1) (k1) (by omega)) rfl rfl rfl rfl (by first | rfl | (simp only [belowO, belowH, plainLL_below _ (plainStrs _), Bool.and_self, Bool.and_true] <;> rfl)) (by first | rfl | (simp only [belowO, belowH, plainLL_below _ (plainStrs _), Bool.and_self, Bool.and_true] <;> rfl)) (by repeat' (first | exact trivial | exact (renH_plain _ (h := .rows _ _) (plainStrs _)).symm | exact rfl | exact (renH_plain _ (h := .rows _ _) (plainStrs _)).trans (renH_plain _ (h := .rows _ _) (plainStrs _)).symm | ((conv => whnf); refine ⟨?_, ?_⟩))) (by repeat' (first | exact trivial | exact (renH_plain _ (h := .rows _ _) (plainStrs _)).symm | exact rfl | exact (renH_plain _ (h := .rows _ _) (plainStrs _)).trans (renH_plain _ (h := .rows _ _) (plainStrs _)).symm | ((conv => whnf); refine ⟨?_, ?_⟩))) rfl rfl ?_
        rintro r O' nx' ⟨rfl, rfl, rfl⟩
        conv => whnf
        (repeat (first | ((with_reducible refine IF.tt ?_); conv => whnf) | ((with_reducible refine IF.ff ?_); conv => whnf)))
        refine IF.mk (fun h5 => ?_) (fun h5 => ?_)
        · have hsee : ∃ q, ps[i1 + 1]? = some q ∧ regionM q = true := by
            obtain ⟨q, hq, hqm⟩ := sees_yes h5
            exact ⟨q, hq, by rw [region_more, hqm]; rfl⟩
          conv => whnf
          repeat' ((first | with_reducible refine IF.tt ?_ | with_reducible refine IF.ff ?_ | ((with_reducible refine NEED.mk ?_ ?_); (first | with_reducible rfl | omega | (simp (disch := omega) only [lnB, wrap64, wrap32] <;> omega) | (intro h; (try simp (disch := omega) only [hsB, hsC, lnB, wrap64, wrap32, simprocAttr] at h); (first | omega | (simp (disch := omega) only [lnB, wrap64, wrap32] <;> omega))) | (exact needApp 256 rfl rfl (by simp) (by simp) (by omega)) | (simp <;> omega))) | ((with_reducible apply GET.at); rfl) | ((with_reducible apply GETG.at); rfl) | ((with_reducible refine IF.mk (fun h => ?_) (fun h => ?_)) <;> (try simp (disch := omega) only [hsB, hsC, lnB, wrap64, wrap32, simprocAttr] at h) <;> try (exfalso; omega))) <;> conv => whnf)
          obtain ⟨q, hq, hqm⟩ := hsee
          have hlt2 := (List.getElem?_eq_some_iff.1 hq).1
          obtain ⟨k2, hk2⟩ : ∃ k2, k1 = k2 + 1 := ⟨k1 - 1, by omega⟩
          have htag : tagP ps = contP (ps.drop (i1 + 1 + 1)) := by rw [hc1, skip_yes hq hqm]
          rw [hk2]
          conv => whnf
          refine CALL.at [3, 2] (next6_does ps (i1 + 1) k2 (by omega) q hq) rfl rfl rfl rfl (by first | rfl | (simp only [belowO, belowH, plainLL_below _ (plainStrs _), Bool.and_self, Bool.and_true] <;> rfl)) (by first | rfl | (simp only [belowO, belowH, plainLL_below _ (plainStrs _), Bool.and_self, Bool.and_true] <;> rfl)) (by repeat' (first | exact trivial | exact (renH_plain _ (h := .rows _ _) (plainStrs _)).symm | exact rfl | exact (renH_plain _ (h := .rows _ _) (plainStrs _)).trans (renH_plain _ (h := .rows _ _) (plainStrs _)).symm | ((conv => whnf); refine ⟨?_, ?_⟩))) (by repeat' (first | exact trivial | exact (renH_plain _ (h := .rows _ _) (plainStrs _)).symm | exact rfl | exact (renH_plain _ (h := .rows _ _) (plainStrs _)).trans (renH_plain _ (h := .rows _ _) (plainStrs _)).symm | ((conv => whnf); refine ⟨?_, ?_⟩))) rfl rfl ?_
          rintro r O' nx' ⟨rfl, rfl, rfl⟩
          conv => whnf
          refine LOOP.goes (fr' := frT) (O' := OT ps (i1 + 1 + 1) L E w1 q) (n1 := 6) ?_ (K (i1 + 1 + 1, L, E, w1, q) ⟨htag, by simp only; omega⟩)
          unfold frT OT
          rw [show ps.length - (i1 + 1 + 1) = k2 by omega]
          (refine GOES.keeping h0 [0, 1, 2, 3, 4, 5] rfl rfl rfl (by first | rfl | (simp only [belowO, belowH, plainLL_below _ (plainStrs _), Bool.and_self, Bool.and_true] <;> rfl)) ?_ ?_ <;> (repeat' (first | (with_reducible rfl) | (exact rows_eq (plainStrs _) (renLL_plain _ (plainStrs _))) | (exact rows_eq (plainStrs _) (by simp [strRow, ofVal, List.take_of_length_le])) | (exact sl_eq rfl (by simp)) | (exact congrArg (SV.int _) (by first | omega | (simp (disch := omega) only [lnB, wrap64, wrap32] <;> omega) | (simp; done) | (simp <;> omega))) | ((conv => whnf); refine ⟨?_, ?_⟩) | exact trivial | (simp only [ren, renB]; done) | rfl)))
        · conv => whnf
          repeat' ((first | with_reducible refine IF.tt ?_ | with_reducible refine IF.ff ?_ | ((with_reducible refine NEED.mk ?_ ?_); (first | with_reducible rfl | omega | (simp (disch := omega) only [lnB, wrap64, wrap32] <;> omega) | (intro h; (try simp (disch := omega) only [hsB, hsC, lnB, wrap64, wrap32, simprocAttr] at h); (first | omega | (simp (disch := omega) only [lnB, wrap64, wrap32] <;> omega))) | (exact needApp 256 rfl rfl (by simp) (by simp) (by omega)) | (simp <;> omega))) | ((with_reducible apply GET.at); rfl) | ((with_reducible apply GETG.at); rfl) | ((with_reducible refine IF.mk (fun h => ?_) (fun h => ?_)) <;> (try simp (disch := omega) only [hsB, hsC, lnB, wrap64, wrap32, simprocAttr] at h) <;> try (exfalso; omega))) <;> conv => whnf)
          refine CALL.at [3, 2] (more_does 3 3 true ps hsm (i1 + 1) (k1) (by omega)) rfl rfl rfl rfl (by first | rfl | (simp only [belowO, belowH, plainLL_below _ (plainStrs _), Bool.and_self, Bool.and_true] <;> rfl)) (by first | rfl | (simp only [belowO, belowH, plainLL_below _ (plainStrs _), Bool.and_self, Bool.and_true] <;> rfl)) (by repeat' (first | exact trivial | exact (renH_plain _ (h := .rows _ _) (plainStrs _)).symm | exact rfl | exact (renH_plain _ (h := .rows _ _) (plainStrs _)).trans (renH_plain _ (h := .rows _ _) (plainStrs _)).symm | ((conv => whnf); refine ⟨?_, ?_⟩))) (by repeat' (first | exact trivial | exact (renH_plain _ (h := .rows _ _) (plainStrs _)).symm | exact rfl | exact (renH_plain _ (h := .rows _ _) (plainStrs _)).trans (renH_plain _ (h := .rows _ _) (plainStrs _)).symm | ((conv => whnf); refine ⟨?_, ?_⟩))) rfl rfl ?_
          rintro r O' nx' ⟨rfl, rfl, rfl⟩
          conv => whnf
          (repeat (first | ((with_reducible refine IF.tt ?_); conv => whnf) | ((with_reducible refine IF.ff ?_); conv => whnf)))
          refine IF.mk (fun h6 => ?_) (fun h6 => ?_)
          · have hsee : ∃ q, ps[i1 + 1]? = some q ∧ regionM q = true := by
              obtain ⟨q, hq, hqm⟩ := sees_yes h6
              exact ⟨q, hq, by rw [region_more, hqm, Bool.or_true]⟩
            conv => whnf
            repeat' ((first | with_reducible refine IF.tt ?_ | with_reducible refine IF.ff ?_ | ((with_reducible refine NEED.mk ?_ ?_); (first | with_reducible rfl | omega | (simp (disch := omega) only [lnB, wrap64, wrap32] <;> omega) | (intro h; (try simp (disch := omega) only [hsB, hsC, lnB, wrap64, wrap32, simprocAttr] at h); (first | omega | (simp (disch := omega) only [lnB, wrap64, wrap32] <;> omega))) | (exact needApp 256 rfl rfl (by simp) (by simp) (by omega)) | (simp <;> omega))) | ((with_reducible apply GET.at); rfl) | ((with_reducible apply GETG.at); rfl) | ((with_reducible refine IF.mk (fun h => ?_) (fun h => ?_)) <;> (try simp (disch := omega) only [hsB, hsC, lnB, wrap64, wrap32, simprocAttr] at h) <;> try (exfalso; omega))) <;> conv => whnf)
            obtain ⟨q, hq, hqm⟩ := hsee
            have hlt2 := (List.getElem?_eq_some_iff.1 hq).1
            obtain ⟨k2, hk2⟩ : ∃ k2, k1 = k2 + 1 := ⟨k1 - 1, by omega⟩
            have htag : tagP ps = contP (ps.drop (i1 + 1 + 1)) := by rw [hc1, skip_yes hq hqm]
            rw [hk2]
            conv => whnf
            refine CALL.at [3, 2] (next6_does ps (i1 + 1) k2 (by omega) q hq) rfl rfl rfl rfl (by first | rfl | (simp only [belowO, belowH, plainLL_below _ (plainStrs _), Bool.and_self, Bool.and_true] <;> rfl)) (by first | rfl | (simp only [belowO, belowH, plainLL_below _ (plainStrs _), Bool.and_self, Bool.and_true] <;> rfl)) (by repeat' (first | exact trivial | exact (renH_plain _ (h := .rows _ _) (plainStrs _)).symm | exact rfl | exact (renH_plain _ (h := .rows _ _) (plainStrs _)).trans (renH_plain _ (h := .rows _ _) (plainStrs _)).symm | ((conv => whnf); refine ⟨?_, ?_⟩))) (by repeat' (first | exact trivial | exact (renH_plain _ (h := .rows _ _) (plainStrs _)).symm | exact rfl | exact (renH_plain _ (h := .rows _ _) (plainStrs _)).trans (renH_plain _ (h := .rows _ _) (plainStrs _)).symm | ((conv => whnf); refine ⟨?_, ?_⟩))) rfl rfl ?_
            rintro r O' nx' ⟨rfl, rfl, rfl⟩
            conv => whnf
            refine LOOP.goes (fr' := frT) (O' := OT ps (i1 + 1 + 1) L E w1 q) (n1 := 6) ?_ (K (i1 + 1 + 1, L, E, w1, q) ⟨htag, by simp only; omega⟩)
            unfold frT OT
            rw [show ps.length - (i1 + 1 + 1) = k2 by omega]
            (refine GOES.keeping h0 [0, 1, 2, 3, 4, 5] rfl rfl rfl (by first | rfl | (simp only [belowO, belowH, plainLL_below _ (plainStrs _), Bool.and_self, Bool.and_true] <;> rfl)) ?_ ?_ <;> (repeat' (first | (with_reducible rfl) | (exact rows_eq (plainStrs _) (renLL_plain _ (plainStrs _))) | (exact rows_eq (plainStrs _) (by simp [strRow, ofVal, List.take_of_length_le])) | (exact sl_eq rfl (by simp)) | (exact congrArg (SV.int _) (by first | omega | (simp (disch := omega) only [lnB, wrap64, wrap32] <;> omega) | (simp; done) | (simp <;> omega))) | ((conv => whnf); refine ⟨?_, ?_⟩) | exact trivial | (simp only [ren, renB]; done) | rfl)))
          · have hsee : seesM regionM ps (i1 + 1) = false := by
              unfold seesM at *
              cases hq : ps[i1 + 1]? with
              | none => rfl
              | some q => rw [hq] at h5 h6; simp only at h5 h6 ⊢; rw [region_more, h5]; exact h6
            have htag : tagP ps = contP (ps.drop (i1 + 1)) := by rw [hc1, skip_no hsee]
            conv => whnf
            repeat' ((first | with_reducible refine IF.tt ?_ | with_reducible refine IF.ff ?_ | ((with_reducible refine NEED.mk ?_ ?_); (first | with_reducible rfl | omega | (simp (disch := omega) only [lnB, wrap64, wrap32] <;> omega) | (intro h; (try simp (disch := omega) only [hsB, hsC, lnB, wrap64, wrap32, simprocAttr] at h); (first | omega | (simp (disch := omega) only [lnB, wrap64, wrap32] <;> omega))) | (exact needApp 256 rfl rfl (by simp) (by simp) (by omega)) | (simp <;> omega))) | ((with_reducible apply GET.at); rfl) | ((with_reducible apply GETG.at); rfl) | ((with_reducible refine IF.mk (fun h => ?_) (fun h => ?_)) <;> (try simp (disch := omega) only [hsB, hsC, lnB, wrap64, wrap32, simprocAttr] at h) <;> try (exfalso; omega))) <;> conv => whnf)
            refine LOOP.goes (fr' := frT) (O' := OT ps (i1 + 1) L E w1 []) (n1 := 6) ?_ (K (i1 + 1, L, E, w1, []) ⟨htag, by simp only; omega⟩)
            unfold frT OT
            rw [show ps.length - (i1 + 1) = k1 by omega]
            (refine GOES.keeping h0 [0, 1, 2, 3, 4, 5] rfl rfl rfl (by first | rfl | (simp only [belowO, belowH, plainLL_below _ (plainStrs _), Bool.and_self, Bool.and_true] <;> rfl)) ?_ ?_ <;> (repeat' (first | (with_reducible rfl) | (exact rows_eq (plainStrs _) (renLL_plain _ (plainStrs _))) | (exact rows_eq (plainStrs _) (by simp [strRow, ofVal, List.take_of_length_le])) | (exact sl_eq rfl (by simp)) | (exact congrArg (SV.int _) (by first | omega | (simp (disch := omega) only [lnB, wrap64, wrap32] <;> omega) | (simp; done) | (simp <;> omega))) | ((conv => whnf); refine ⟨?_, ?_⟩) | exact trivial | (simp only [ren, renB]; done) | rfl)))
      · rw [skip_no h4] at hc1
        conv => whnf
        repeat' ((first | with_reducible refine IF.tt ?_ | with_reducible refine IF.ff ?_ | (refine IF.yes (b := L != []) (by simpa using hLne) ?_; conv => whnf) | ((with_reducible refine NEED.mk ?_ ?_); (first | with_reducible rfl | omega | (simp (disch := omega) only [lnB, wrap64, wrap32] <;> omega) | (intro h; (try simp (disch := omega) only [hsB, hsC, lnB, wrap64, wrap32, simprocAttr] at h); (first | omega | (simp (disch := omega) only [lnB, wrap64, wrap32] <;> omega))) | (exact needApp 256 rfl rfl (by simp) (by simp) (by omega)) | (simp <;> omega))) | ((with_reducible apply GET.at); rfl) | ((with_reducible apply GETG.at); rfl) | ((with_reducible refine IF.mk (fun h => ?_) (fun h => ?_)) <;> (try simp (disch := omega) only [hsB, hsC, lnB, wrap64, wrap32, simprocAttr] at h) <;> try (exfalso; omega))) <;> conv => whnf)
        refine CALL.at [3, 2] (more_does 2 2 false ps hsm (i1) (m1) (by omega)) rfl rfl rfl rfl (by first | rfl | (simp only [belowO, belowH, plainLL_below _ (plainStrs _), Bool.and_self, Bool.and_true] <;> rfl)) (by first | rfl | (simp only [belowO, belowH, plainLL_below _ (plainStrs _), Bool.and_self, Bool.and_true] <;> rfl)) (by repeat' (first | exact trivial | exact (renH_plain _ (h := .rows _ _) (plainStrs _)).symm | exact rfl | exact (renH_plain _ (h := .rows _ _) (plainStrs _)).trans (renH_plain _ (h := .rows _ _) (plainStrs _)).symm | ((conv => whnf); refine ⟨?_, ?_⟩))) (by repeat' (first | exact trivial | exact (renH_plain _ (h := .rows _ _) (plainStrs _)).symm | exact rfl | exact (renH_plain _ (h := .rows _ _) (plainStrs _)).trans (renH_plain _ (h := .rows _ _) (plainStrs _)).symm | ((conv => whnf); refine ⟨?_, ?_⟩))) rfl rfl ?_
        rintro r O' nx' ⟨rfl, rfl, rfl⟩
        conv => whnf
        (repeat (first | ((with_reducible refine IF.tt ?_); conv => whnf) | ((with_reducible refine IF.ff ?_); conv => whnf)))
        refine IF.mk (fun h5 => ?_) (fun h5 => ?_)
        · have hsee : ∃ q, ps[i1]? = some q ∧ regionM q = true := by
            obtain ⟨q, hq, hqm⟩ := sees_yes h5
            exact ⟨q, hq, by rw [region_more, hqm]; rfl⟩
          conv => whnf
          repeat' ((first | with_reducible refine IF.tt ?_ | with_reducible refine IF.ff ?_ | ((with_reducible refine NEED.mk ?_ ?_); (first | with_reducible rfl | omega | (simp (disch := omega) only [lnB, wrap64, wrap32] <;> omega) | (intro h; (try simp (disch := omega) only [hsB, hsC, lnB, wrap64, wrap32, simprocAttr] at h); (first | omega | (simp (disch := omega) only [lnB, wrap64, wrap32] <;> omega))) | (exact needApp 256 rfl rfl (by simp) (by simp) (by omega)) | (simp <;> omega))) | ((with_reducible apply GET.at); rfl) | ((with_reducible apply GETG.at); rfl) | ((with_reducible refine IF.mk (fun h => ?_) (fun h => ?_)) <;> (try simp (disch := omega) only [hsB, hsC, lnB, wrap64, wrap32, simprocAttr] at h) <;> try (exfalso; omega))) <;> conv => whnf)
          obtain ⟨q, hq, hqm⟩ := hsee
          have hlt2 := (List.getElem?_eq_some_iff.1 hq).1
          obtain ⟨k2, hk2⟩ : ∃ k2, m1 = k2 + 1 := ⟨m1 - 1, by omega⟩
          have htag : tagP ps = contP (ps.drop (i1 + 1)) := by rw [hc1, skip_yes hq hqm]
          rw [hk2]
          conv => whnf
          refine CALL.at [3, 2] (next6_does ps (i1) k2 (by omega) q hq) rfl rfl rfl rfl (by first | rfl | (simp only [belowO, belowH, plainLL_below _ (plainStrs _), Bool.and_self, Bool.and_true] <;> rfl)) (by first | rfl | (simp only [belowO, belowH, plainLL_below _ (plainStrs _), Bool.and_self, Bool.and_true] <;> rfl)) (by repeat' (first | exact trivial | exact (renH_plain _ (h := .rows _ _) (plainStrs _)).symm | exact rfl | exact (renH_plain _ (h := .rows _ _) (plainStrs _)).trans (renH_plain _ (h := .rows _ _) (plainStrs _)).symm | ((conv => whnf); refine ⟨?_, ?_⟩))) (by repeat' (first | exact trivial | exact (renH_plain _ (h := .rows _ _) (plainStrs _)).symm | exact rfl | exact (renH_plain _ (h := .rows _ _) (plainStrs _)).trans (renH_plain _ (h := .rows _ _) (plainStrs _)).symm | ((conv => whnf); refine ⟨?_, ?_⟩))) rfl rfl ?_
          rintro r O' nx' ⟨rfl, rfl, rfl⟩
          conv => whnf
          refine LOOP.goes (fr' := frT) (O' := OT ps (i1 + 1) L E [] q) (n1 := 6) ?_ (K (i1 + 1, L, E, [], q) ⟨htag, by simp only; omega⟩)
          unfold frT OT
          rw [show ps.length - (i1 + 1) = k2 by omega]
          (refine GOES.keeping h0 [0, 1, 2, 3, 4, 5] rfl rfl rfl (by first | rfl | (simp only [belowO, belowH, plainLL_below _ (plainStrs _), Bool.and_self, Bool.and_true] <;> rfl)) ?_ ?_ <;> (repeat' (first | (with_reducible rfl) | (exact rows_eq (plainStrs _) (renLL_plain _ (plainStrs _))) | (exact rows_eq (plainStrs _) (by simp [strRow, ofVal, List.take_of_length_le])) | (exact sl_eq rfl (by simp)) | (exact congrArg (SV.int _) (by first | omega | (simp (disch := omega) only [lnB, wrap64, wrap32] <;> omega) | (simp; done) | (simp <;> omega))) | ((conv => whnf); refine ⟨?_, ?_⟩) | exact trivial | (simp only [ren, renB]; done) | rfl)))
        · conv => whnf
          repeat' ((first | with_reducible refine IF.tt ?_ | with_reducible refine IF.ff ?_ | ((with_reducible refine NEED.mk ?_ ?_); (first | with_reducible rfl | omega | (simp (disch := omega) only [lnB, wrap64, wrap32] <;> omega) | (intro h; (try simp (disch := omega) only [hsB, hsC, lnB, wrap64, wrap32, simprocAttr] at h); (first | omega | (simp (disch := omega) only [lnB, wrap64, wrap32] <;> omega))) | (exact needApp 256 rfl rfl (by simp) (by simp) (by omega)) | (simp <;> omega))) | ((with_reducible apply GET.at); rfl) | ((with_reducible apply GETG.at); rfl) | ((with_reducible refine IF.mk (fun h => ?_) (fun h => ?_)) <;> (try simp (disch := omega) only [hsB, hsC, lnB, wrap64, wrap32, simprocAttr] at h) <;> try (exfalso; omega))) <;> conv => whnf)
          refine CALL.at [3, 2] (more_does 3 3 true ps hsm (i1) (m1) (by omega)) rfl rfl rfl rfl (by first | rfl | (simp only [belowO, belowH, plainLL_below _ (plainStrs _), Bool.and_self, Bool.and_true] <;> rfl)) (by first | rfl | (simp only [belowO, belowH, plainLL_below _ (plainStrs _), Bool.and_self, Bool.and_true] <;> rfl)) (by repeat' (first | exact trivial | exact (renH_plain _ (h := .rows _ _) (plainStrs _)).symm | exact rfl | exact (renH_plain _ (h := .rows _ _) (plainStrs _)).trans (renH_plain _ (h := .rows _ _) (plainStrs _)).symm | ((conv => whnf); refine ⟨?_, ?_⟩))) (by repeat' (first | exact trivial | exact (renH_plain _ (h := .rows _ _) (plainStrs _)).symm | exact rfl | exact (renH_plain _ (h := .rows _ _) (plainStrs _)).trans (renH_plain _ (h := .rows _ _) (plainStrs _)).symm | ((conv => whnf); refine ⟨?_, ?_⟩))) rfl rfl ?_
          rintro r O' nx' ⟨rfl, rfl, rfl⟩
          conv => whnf
          (repeat (first | ((with_reducible refine IF.tt ?_); conv => whnf) | ((with_reducible refine IF.ff ?_); conv => whnf)))
          refine IF.mk (fun h6 => ?_) (fun h6 => ?_)
          · have hsee : ∃ q, ps[i1]? = some q ∧ regionM q = true := by
              obtain ⟨q, hq, hqm⟩ := sees_yes h6
              exact ⟨q, hq, by rw [region_more, hqm, Bool.or_true]⟩
            conv => whnf
            repeat' ((first | with_reducible refine IF.tt ?_ | with_reducible refine IF.ff ?_ | ((with_reducible refine NEED.mk ?_ ?_); (first | with_reducible rfl | omega | (simp (disch := omega) only [lnB, wrap64, wrap32] <;> omega) | (intro h; (try simp (disch := omega) only [hsB, hsC, lnB, wrap64, wrap32, simprocAttr] at h); (first | omega | (simp (disch := omega) only [lnB, wrap64, wrap32] <;> omega))) | (exact needApp 256 rfl rfl (by simp) (by simp) (by omega)) | (simp <;> omega))) | ((with_reducible apply GET.at); rfl) | ((with_reducible apply GETG.at); rfl) | ((with_reducible refine IF.mk (fun h => ?_) (fun h => ?_)) <;> (try simp (disch := omega) only [hsB, hsC, lnB, wrap64, wrap32, simprocAttr] at h) <;> try (exfalso; omega))) <;> conv => whnf)
            obtain ⟨q, hq, hqm⟩ := hsee
            have hlt2 := (List.getElem?_eq_some_iff.1 hq).1
            obtain ⟨k2, hk2⟩ : ∃ k2, m1 = k2 + 1 := ⟨m1 - 1, by omega⟩
            have htag : tagP ps = contP (ps.drop (i1 + 1)) := by rw [hc1, skip_yes hq hqm]
            rw [hk2]
            conv => whnf
            refine CALL.at [3, 2] (next6_does ps (i1) k2 (by omega) q hq) rfl rfl rfl rfl (by first | rfl | (simp only [belowO, belowH, plainLL_below _ (plainStrs _), Bool.and_self, Bool.and_true] <;> rfl)) (by first | rfl | (simp only [belowO, belowH, plainLL_below _ (plainStrs _), Bool.and_self, Bool.and_true] <;> rfl)) (by repeat' (first | exact trivial | exact (renH_plain _ (h := .rows _ _) (plainStrs _)).symm | exact rfl | exact (renH_plain _ (h := .rows _ _) (plainStrs _)).trans (renH_plain _ (h := .rows _ _) (plainStrs _)).symm | ((conv => whnf); refine ⟨?_, ?_⟩))) (by repeat' (first | exact trivial | exact (renH_plain _ (h := .rows _ _) (plainStrs _)).symm | exact rfl | exact (renH_plain _ (h := .rows _ _) (plainStrs _)).trans (renH_plain _ (h := .rows _ _) (plainStrs _)).symm | ((conv => whnf); refine ⟨?_, ?_⟩))) rfl rfl ?_
            rintro r O' nx' ⟨rfl, rfl, rfl⟩
            conv => whnf
            refine LOOP.goes (fr' := frT) (O' := OT ps (i1 + 1) L E [] q) (n1 := 6) ?_ (K (i1 + 1, L, E, [], q) ⟨htag, by simp only; omega⟩)
            unfold frT OT
            rw [show ps.length - (i1 + 1) = k2 by omega]
            (refine GOES.keeping h0 [0, 1, 2, 3, 4, 5] rfl rfl rfl (by first | rfl | (simp only [belowO, belowH, plainLL_below _ (plainStrs _), Bool.and_self, Bool.and_true] <;> rfl)) ?_ ?_ <;> (repeat' (first | (with_reducible rfl) | (exact rows_eq (plainStrs _) (renLL_plain _ (plainStrs _))) | (exact rows_eq (plainStrs _) (by simp [strRow, ofVal, List.take_of_length_le])) | (exact sl_eq rfl (by simp)) | (exact congrArg (SV.int _) (by first | omega | (simp (disch := omega) only [lnB, wrap64, wrap32] <;> omega) | (simp; done) | (simp <;> omega))) | ((conv => whnf); refine ⟨?_, ?_⟩) | exact trivial | (simp only [ren, renB]; done) | rfl)))
          · have hsee : seesM regionM ps (i1) = false := by
              unfold seesM at *
              cases hq : ps[i1]? with
              | none => rfl
              | some q => rw [hq] at h5 h6; simp only at h5 h6 ⊢; rw [region_more, h5]; exact h6
            have htag : tagP ps = contP (ps.drop (i1)) := by rw [hc1, skip_no hsee]
            conv => whnf
            repeat' ((first | with_reducible refine IF.tt ?_ | with_reducible refine IF.ff ?_ | ((with_reducible refine NEED.mk ?_ ?_); (first | with_reducible rfl | omega | (simp (disch := omega) only [lnB, wrap64, wrap32] <;> omega) | (intro h; (try simp (disch := omega) only [hsB, hsC, lnB, wrap64, wrap32, simprocAttr] at h); (first | omega | (simp (disch := omega) only [lnB, wrap64, wrap32] <;> omega))) | (exact needApp 256 rfl rfl (by simp) (by simp) (by omega)) | (simp <;> omega))) | ((with_reducible apply GET.at); rfl) | ((with_reducible apply GETG.at); rfl) | ((with_reducible refine IF.mk (fun h => ?_) (fun h => ?_)) <;> (try simp (disch := omega) only [hsB, hsC, lnB, wrap64, wrap32, simprocAttr] at h) <;> try (exfalso; omega))) <;> conv => whnf)
            refine LOOP.goes (fr' := frT) (O' := OT ps (i1) L E [] []) (n1 := 6) ?_ (K (i1, L, E, [], []) ⟨htag, by simp only; omega⟩)
            unfold frT OT
            rw [show ps.length - (i1) = m1 by omega]
            (refine GOES.keeping h0 [0, 1, 2, 3, 4, 5] rfl rfl rfl (by first | rfl | (simp only [belowO, belowH, plainLL_below _ (plainStrs _), Bool.and_self, Bool.and_true] <;> rfl)) ?_ ?_ <;> (repeat' (first | (with_reducible rfl) | (exact rows_eq (plainStrs _) (renLL_plain _ (plainStrs _))) | (exact rows_eq (plainStrs _) (by simp [strRow, ofVal, List.take_of_length_le])) | (exact sl_eq rfl (by simp)) | (exact congrArg (SV.int _) (by first | omega | (simp (disch := omega) only [lnB, wrap64, wrap32] <;> omega) | (simp; done) | (simp <;> omega))) | ((conv => whnf); refine ⟨?_, ?_⟩) | exact trivial | (simp only [ren, renB]; done) | rfl)))
  · rw [low_x] at h
    have hpr : privateM p0 = true := by simpa using h
    have htag : tagP ps = contP (ps.drop 0) := by
      unfold tagP contP
      rw [if_pos (by rw [hhead, hpr]), drop_at hp0]
      have h4 : ¬ 4 ≤ p0.length := by
        have := hpr; unfold privateM at this; simp at this
        rcases this with rfl | rfl <;> simp
      have hv : variantM p0 ≠ true := fun h => h4 (variant_len h)
      simp only [varsP]
      rw [if_neg hv]
      simp only
      rw [extsP, if_neg (by unfold singleM; simp [hpr])]
      simp only
      rw [← drop_at hp0]; rfl
    conv => whnf
    repeat' ((first | with_reducible refine IF.tt ?_ | with_reducible refine IF.ff ?_ | ((with_reducible refine NEED.mk ?_ ?_); (first | with_reducible rfl | omega | (simp (disch := omega) only [lnB, wrap64, wrap32] <;> omega) | (intro h; (try simp (disch := omega) only [hsB, hsC, lnB, wrap64, wrap32, simprocAttr] at h); (first | omega | (simp (disch := omega) only [lnB, wrap64, wrap32] <;> omega))) | (exact needApp 256 rfl rfl (by simp) (by simp) (by omega)) | (simp <;> omega))) | ((with_reducible apply GET.at); rfl) | ((with_reducible apply GETG.at); rfl) | ((with_reducible refine IF.mk (fun h => ?_) (fun h => ?_)) <;> (try simp (disch := omega) only [hsB, hsC, lnB, wrap64, wrap32, simprocAttr] at h) <;> try (exfalso; omega))) <;> conv => whnf)
    refine LOOP.goes (fr' := frT) (O' := OT ps (0) [] [] [] []) (n1 := 6) ?_ (K (0, [], [], [], []) ⟨htag, by simp only; omega⟩)
    unfold frT OT
    rw [show ps.length - (0) = ps.length by omega]
    (refine GOES.keeping h0 [0, 1, 2, 3, 4, 5] rfl rfl rfl (by first | rfl | (simp only [belowO, belowH, plainLL_below _ (plainStrs _), Bool.and_self, Bool.and_true] <;> rfl)) ?_ ?_ <;> (repeat' (first | (with_reducible rfl) | (exact rows_eq (plainStrs _) (renLL_plain _ (plainStrs _))) | (exact rows_eq (plainStrs _) (by simp [strRow, ofVal, List.take_of_length_le])) | (exact sl_eq rfl (by simp)) | (exact congrArg (SV.int _) (by first | omega | (simp (disch := omega) only [lnB, wrap64, wrap32] <;> omega) | (simp; done) | (simp <;> omega))) | ((conv => whnf); refine ⟨?_, ?_⟩) | exact trivial | (simp only [ren, renB]; done) | rfl)))
  rintro ⟨a0, L, E, S, R⟩ ⟨htag, ha0⟩
  dsimp only at htag ha0 ⊢
  unfold frT OT
  refine LOOP.go tabOK [2, 4, 5] (X := Nat × List (List UInt8)) (fun y => y.1 ≤ ps.length ∧ y.2.length ≤ y.1 ∧ (∀ s ∈ y.2, 4 ≤ s.length ∧ Sm s) ∧ varsP [] (ps.drop a0) = varsP (y.2.map lowerM) (ps.drop y.1)) (fun y => []) (fun y => [(0, tz6), (1, tg6 L E S R 4 y.2.length 5 0 []), (2, .rows 1 (ps.map strRow)), (3, rd6' y.1 (ps.length - y.1)), (4, .rows 1 (y.2.map strRow)), (5, .rows 1 [])]) 6 (fun y => ps.length - y.1) (a0, []) ⟨by simp only; omega, by simp, by simp, rfl⟩ ?_
  conv => whnf
  refine ⟨by (refine GOES.keeping h0 [0, 1, 2, 3, 4, 5] rfl rfl rfl (by first | rfl | (simp only [belowO, belowH, plainLL_below _ (plainStrs _), Bool.and_self, Bool.and_true] <;> rfl)) ?_ ?_ <;> (repeat' (first | (with_reducible rfl) | (exact rows_eq (plainStrs _) (renLL_plain _ (plainStrs _))) | (exact rows_eq (plainStrs _) (by simp [strRow, ofVal, List.take_of_length_le])) | (exact sl_eq rfl (by simp)) | (exact congrArg (SV.int _) (by first | omega | (simp (disch := omega) only [lnB, wrap64, wrap32] <;> omega) | (simp; done) | (simp <;> omega))) | ((conv => whnf); refine ⟨?_, ?_⟩) | exact trivial | (simp only [ren, renB]; done) | rfl))), ?_⟩
  rintro ⟨a, vs⟩ ⟨ha, hvl, hvs, hx⟩
  dsimp only at ha hvl hvs hx ⊢
  conv => whnf
  rcases Nat.lt_or_ge a ps.length with hap | hap
  · obtain ⟨w, hw⟩ : ∃ w, ps[a]? = some w := ⟨_, List.getElem?_eq_getElem hap⟩
    have hwl := hsm w (List.mem_of_getElem? hw)
    obtain ⟨k', hk'⟩ : ∃ k', ps.length - a = k' + 1 := ⟨ps.length - a - 1, by omega⟩
    repeat' ((first | with_reducible refine IF.tt ?_ | with_reducible refine IF.ff ?_ | (refine GET.at (row := strRow w) (by rw [List.getElem?_map, show a + (0 : Int).toNat = a by simp, hw]; rfl) ?_; conv => whnf) | refine CALL.value (r6variant_does _ hwl) rfl rfl ?_ | ((with_reducible refine NEED.mk ?_ ?_); (first | with_reducible rfl | omega | (simp (disch := omega) only [lnB, wrap64, wrap32] <;> omega) | (intro h; (try simp (disch := omega) only [hsB, hsC, lnB, wrap64, wrap32, simprocAttr] at h); (first | omega | (simp (disch := omega) only [lnB, wrap64, wrap32] <;> omega))) | (exact needApp 256 rfl rfl (by simp) (by simp) (by omega)) | (simp <;> omega))) | ((with_reducible apply GET.at); rfl) | ((with_reducible apply GETG.at); rfl) | ((with_reducible refine IF.mk (fun h => ?_) (fun h => ?_)) <;> (try simp (disch := omega) only [hsB, hsC, lnB, wrap64, wrap32, simprocAttr] at h) <;> try (exfalso; omega))) <;> conv => whnf)
    · have hvm : variantM w = true := by assumption
      have hv4 := variant_len hvm
      rw [hk']
      refine CALL.at [3, 2] (next6_does ps a k' (by omega) w hw) rfl rfl rfl rfl (by first | rfl | (simp only [belowO, belowH, plainLL_below _ (plainStrs _), Bool.and_self, Bool.and_true] <;> rfl)) (by first | rfl | (simp only [belowO, belowH, plainLL_below _ (plainStrs _), Bool.and_self, Bool.and_true] <;> rfl)) (by repeat' (first | exact trivial | exact (renH_plain _ (h := .rows _ _) (plainStrs _)).symm | exact rfl | exact (renH_plain _ (h := .rows _ _) (plainStrs _)).trans (renH_plain _ (h := .rows _ _) (plainStrs _)).symm | ((conv => whnf); refine ⟨?_, ?_⟩))) (by repeat' (first | exact trivial | exact (renH_plain _ (h := .rows _ _) (plainStrs _)).symm | exact rfl | exact (renH_plain _ (h := .rows _ _) (plainStrs _)).trans (renH_plain _ (h := .rows _ _) (plainStrs _)).symm | ((conv => whnf); refine ⟨?_, ?_⟩))) rfl rfl ?_
      rintro r O' nx' ⟨rfl, rfl, rfl⟩
      have hxa : varsP (vs.map lowerM) (ps.drop a) = if lowerM w ∈ vs.map lowerM then none else varsP (vs.map lowerM ++ [lowerM w]) (ps.drop (a + 1)) := by
        rw [drop_at hw]; simp only [varsP]; rw [if_pos hvm]
      conv => whnf
      refine LOOP.go tabOK [2, 4, 5, 7] (X := Nat) (fun i => i ≤ vs.length ∧ lowerM w ∉ (vs.take i).map lowerM) (fun i => [(8, .int .i64 (i : Int))]) (fun i => [(0, tz6), (1, tg6 L E S R 4 vs.length 5 0 []), (2, .rows 1 (ps.map strRow)), (3, rd6' (a + 1) k'), (4, .rows 1 (vs.map strRow)), (5, .rows 1 [])]) 6 (fun i => vs.length - i) 0 ⟨by omega, by simp⟩ ?_
      conv => whnf
      refine ⟨by (refine GOES.keeping h0 [0, 1, 2, 3, 4, 5] rfl rfl rfl (by first | rfl | (simp only [belowO, belowH, plainLL_below _ (plainStrs _), Bool.and_self, Bool.and_true] <;> rfl)) ?_ ?_ <;> (repeat' (first | (with_reducible rfl) | (exact rows_eq (plainStrs _) (renLL_plain _ (plainStrs _))) | (exact rows_eq (plainStrs _) (by simp [strRow, ofVal, List.take_of_length_le])) | (exact sl_eq rfl (by simp)) | (exact congrArg (SV.int _) (by first | omega | (simp (disch := omega) only [lnB, wrap64, wrap32] <;> omega) | (simp; done) | (simp <;> omega))) | ((conv => whnf); refine ⟨?_, ?_⟩) | exact trivial | (simp only [ren, renB]; done) | rfl))), ?_⟩
      rintro i ⟨hi, hn⟩
      dsimp only at hi hn ⊢
      conv => whnf
      rcases Nat.lt_or_ge i vs.length with hiv | hiv
      · have hvi := (hvs _ (List.getElem_mem hiv)).2
        repeat' ((first | with_reducible refine IF.tt ?_ | with_reducible refine IF.ff ?_ | (refine GET.at (row := strRow (vs[i]'(by omega))) (by rw [List.getElem?_map, show 0 + (i : Int).toNat = i by simp, List.getElem?_eq_getElem (by omega)]; rfl) ?_; conv => whnf) | refine CALL.value (r6lower_does _ hvi) rfl rfl ?_ | refine CALL.value (r6lower_does _ hwl) rfl rfl ?_ | ((with_reducible refine NEED.mk ?_ ?_); (first | with_reducible rfl | omega | (simp (disch := omega) only [lnB, wrap64, wrap32] <;> omega) | (intro h; (try simp (disch := omega) only [hsB, hsC, lnB, wrap64, wrap32, simprocAttr] at h); (first | omega | (simp (disch := omega) only [lnB, wrap64, wrap32] <;> omega))) | (exact needApp 256 rfl rfl (by simp) (by simp) (by omega)) | (simp <;> omega))) | ((with_reducible apply GET.at); rfl) | ((with_reducible apply GETG.at); rfl) | ((with_reducible refine IF.mk (fun h => ?_) (fun h => ?_)) <;> (try simp (disch := omega) only [hsB, hsC, lnB, wrap64, wrap32, simprocAttr] at h) <;> try (exfalso; omega))) <;> conv => whnf)
        · have hin : lowerM w ∈ vs.map lowerM := by rw [← (by assumption : lowerM vs[i] = lowerM w)]; exact List.mem_map_of_mem (List.getElem_mem hiv)
          refine FIN.anyA 7 h0 rfl rfl rfl ⟨?_, rfl, rfl⟩
          rw [htag]; unfold contP; rw [hx, hxa, if_pos hin]; rfl
        · refine ⟨i + 1, ⟨by omega, ?_⟩, by omega, ?_⟩
          · rw [List.take_succ_eq_append_getElem hiv, List.map_append, List.mem_append]
            rintro (h1 | h1)
            · exact hn h1
            · have : lowerM w = lowerM vs[i] := by simpa using h1
              exact (by assumption : ¬ lowerM vs[i] = lowerM w) this.symm
          · conv => whnf
            (refine GOES.keeping h0 [0, 1, 2, 3, 4, 5] rfl rfl rfl (by first | rfl | (simp only [belowO, belowH, plainLL_below _ (plainStrs _), Bool.and_self, Bool.and_true] <;> rfl)) ?_ ?_ <;> (repeat' (first | (with_reducible rfl) | (exact rows_eq (plainStrs _) (renLL_plain _ (plainStrs _))) | (exact rows_eq (plainStrs _) (by simp [strRow, ofVal, List.take_of_length_le])) | (exact sl_eq rfl (by simp)) | (exact congrArg (SV.int _) (by first | omega | (simp (disch := omega) only [lnB, wrap64, wrap32] <;> omega) | (simp; done) | (simp <;> omega))) | ((conv => whnf); refine ⟨?_, ?_⟩) | exact trivial | (simp only [ren, renB]; done) | rfl)))
      · rw [List.take_of_length_le (by omega)] at hn
        repeat' ((first | with_reducible refine IF.tt ?_ | with_reducible refine IF.ff ?_ | ((with_reducible refine NEED.mk ?_ ?_); (first | with_reducible rfl | omega | (simp (disch := omega) only [lnB, wrap64, wrap32] <;> omega) | (intro h; (try simp (disch := omega) only [hsB, hsC, lnB, wrap64, wrap32, simprocAttr] at h); (first | omega | (simp (disch := omega) only [lnB, wrap64, wrap32] <;> omega))) | (exact needApp 256 rfl rfl (by simp) (by simp) (by omega)) | (simp <;> omega))) | ((with_reducible apply GET.at); rfl) | ((with_reducible apply GETG.at); rfl) | ((with_reducible refine IF.mk (fun h => ?_) (fun h => ?_)) <;> (try simp (disch := omega) only [hsB, hsC, lnB, wrap64, wrap32, simprocAttr] at h) <;> try (exfalso; omega))) <;> conv => whnf)
        have e : (vs ++ [w]).length = vs.length + 1 := by simp
        refine ⟨(a + 1, vs ++ [w]), ⟨by simp only; omega, by simp; omega, ?_, by simp only; rw [hx, hxa, if_neg hn]; simp⟩, by simp only; omega, ?_⟩
        · intro x hx'
          rcases List.mem_append.1 hx' with h1 | h1
          · exact hvs x h1
          · rw [List.mem_singleton.1 h1]; exact ⟨hv4, hwl⟩
        · dsimp only
          rw [e, show ps.length - (a + 1) = k' by omega]
          conv => whnf
          (refine GOES.keeping h0 [0, 1, 2, 3, 7, 5] rfl rfl rfl (by first | rfl | (simp only [belowO, belowH, plainLL_below _ (plainStrs _), Bool.and_self, Bool.and_true] <;> rfl)) ?_ ?_ <;> (repeat' (first | (with_reducible rfl) | (exact rows_eq (plainStrs _) (renLL_plain _ (plainStrs _))) | (exact rows_eq (plainStrs _) (by simp [strRow, ofVal, List.take_of_length_le])) | (exact sl_eq rfl (by simp)) | (exact congrArg (SV.int _) (by first | omega | (simp (disch := omega) only [lnB, wrap64, wrap32] <;> omega) | (simp; done) | (simp <;> omega))) | ((conv => whnf); refine ⟨?_, ?_⟩) | exact trivial | (simp only [ren, renB]; done) | rfl)))
    · have hvm : variantM w = false := by assumption
      have hv0 : varsP (vs.map lowerM) (ps.drop a) = some (ps.drop a, vs.map lowerM) := by
        rw [drop_at hw]; simp only [varsP]; rw [if_neg (by simp [hvm])]
      have hc0 : tagP ps = match extsP (vs.map lowerM) (ps.drop a) with | none => false | some l => lastP l := by rw [htag]; unfold contP; rw [hx, hv0]
      refine LOOP.go tabOK [2, 4, 5] (X := Nat × List (List UInt8)) (fun y => y.1 ≤ ps.length ∧ y.2.length ≤ y.1 ∧ (∀ x ∈ y.2, 1 ≤ x.length ∧ Sm x) ∧ extsP (vs.map lowerM) (ps.drop a) = extsP (vs.map lowerM ++ y.2.map fun x => lowerM (x.take 1)) (ps.drop y.1)) (fun y => []) (fun y => [(0, tz6), (1, tg6 L E S R 4 vs.length 5 y.2.length []), (2, .rows 1 (ps.map strRow)), (3, rd6' y.1 (ps.length - y.1)), (4, .rows 1 (vs.map strRow)), (5, .rows 1 (y.2.map strRow))]) 6 (fun y => ps.length - y.1) (a, []) ⟨by simp only; omega, by simp, by simp, by simp⟩ ?_
      conv => whnf
      refine ⟨by (refine GOES.keeping h0 [0, 1, 2, 3, 4, 5] rfl rfl rfl (by first | rfl | (simp only [belowO, belowH, plainLL_below _ (plainStrs _), Bool.and_self, Bool.and_true] <;> rfl)) ?_ ?_ <;> (repeat' (first | (with_reducible rfl) | (exact rows_eq (plainStrs _) (renLL_plain _ (plainStrs _))) | (exact rows_eq (plainStrs _) (by simp [strRow, ofVal, List.take_of_length_le])) | (exact sl_eq rfl (by simp)) | (exact congrArg (SV.int _) (by first | omega | (simp (disch := omega) only [lnB, wrap64, wrap32] <;> omega) | (simp; done) | (simp <;> omega))) | ((conv => whnf); refine ⟨?_, ?_⟩) | exact trivial | (simp only [ren, renB]; done) | rfl))), ?_⟩
      rintro ⟨b, xs⟩ ⟨hb1, hxl, hxs, hy⟩
      dsimp only at hb1 hxl hxs hy ⊢
      conv => whnf
      rcases Nat.lt_or_ge b ps.length with hbp | hbp
      · obtain ⟨u, hu⟩ : ∃ u, ps[b]? = some u := ⟨_, List.getElem?_eq_getElem hbp⟩
        have hul := hsm u (List.mem_of_getElem? hu)
        obtain ⟨k', hk'⟩ : ∃ k', ps.length - b = k' + 1 := ⟨ps.length - b - 1, by omega⟩
        clear hx hv0 hvl
        repeat' ((first | with_reducible refine IF.tt ?_ | with_reducible refine IF.ff ?_ | (refine GET.at (row := strRow u) (by rw [List.getElem?_map, show b + (0 : Int).toNat = b by simp, hu]; rfl) ?_; conv => whnf) | refine CALL.value (r6lower_does _ hul) rfl rfl ?_ | refine CALL.value (r6both_does _ _ _ hul) rfl rfl ?_ | ((with_reducible refine NEED.mk ?_ ?_); (first | with_reducible rfl | omega | (simp (disch := omega) only [lnB, wrap64, wrap32] <;> omega) | (intro h; (try simp (disch := omega) only [hsB, hsC, lnB, wrap64, wrap32, simprocAttr] at h); (first | omega | (simp (disch := omega) only [lnB, wrap64, wrap32] <;> omega))) | (exact needApp 256 rfl rfl (by simp) (by simp) (by omega)) | (simp <;> omega))) | ((with_reducible apply GET.at); rfl) | ((with_reducible apply GETG.at); rfl) | ((with_reducible refine IF.mk (fun h => ?_) (fun h => ?_)) <;> (try simp (disch := omega) only [hsB, hsC, lnB, wrap64, wrap32, simprocAttr] at h) <;> try (exfalso; omega))) <;> conv => whnf)
        all_goals try (exact absurd (by assumption : lowerM u = [120]) (by assumption))
        · have hnp : privateM u = false := by rw [private_lower]; simpa using (by assumption : ¬ lowerM u = [120])
          have hmm : madeM u 1 1 false = true := by assumption
          have hsg : singleM u = true := by unfold singleM; rw [hmm, hnp]; rfl
          have hu1 : u.length = 1 := by have := made_len hmm; omega
          rw [hk']
          refine CALL.at [3, 2, 1, 4, 5] (extension6_does ps hb b k' (by omega) u hu hu1 L E S R vs.length [] xs hxs (by omega)) rfl rfl rfl rfl (by first | rfl | (simp only [belowO, belowH, plainLL_below _ (plainStrs _), Bool.and_self, Bool.and_true] <;> rfl)) (by first | rfl | (simp only [belowO, belowH, plainLL_below _ (plainStrs _), Bool.and_self, Bool.and_true] <;> rfl)) (by repeat' (first | exact trivial | exact (renH_plain _ (h := .rows _ _) (plainStrs _)).symm | exact rfl | exact (renH_plain _ (h := .rows _ _) (plainStrs _)).trans (renH_plain _ (h := .rows _ _) (plainStrs _)).symm | ((conv => whnf); refine ⟨?_, ?_⟩))) (by repeat' (first | exact trivial | exact (renH_plain _ (h := .rows _ _) (plainStrs _)).symm | exact rfl | exact (renH_plain _ (h := .rows _ _) (plainStrs _)).trans (renH_plain _ (h := .rows _ _) (plainStrs _)).symm | ((conv => whnf); refine ⟨?_, ?_⟩))) rfl rfl ?_
          rintro r O' nx' ⟨n, xs', hn, rfl, hz, rfl, rfl⟩
          have hnle : n ≤ (ps.drop (b + 1)).length := by rw [hn]; exact span_le _ _
          rw [List.length_drop] at hnle
          have hmem : lowerM u ∈ vs.map lowerM ++ (xs.map fun x => lowerM (x.take 1)) ↔ dupM xs u = true := by
            unfold dupM
            rw [List.mem_append, List.any_eq_true]
            constructor
            · rintro (h | h)
              · obtain ⟨v, hv, he⟩ := List.mem_map.1 h
                have h1 := (hvs v hv).1
                have h2 := congrArg List.length he
                unfold lowerM at h2; simp only [List.length_map] at h2; omega
              · obtain ⟨x, hx, he⟩ := List.mem_map.1 h
                exact ⟨x, hx, by simp [he]⟩
            · rintro ⟨x, hx, he⟩
              exact .inr (List.mem_map.2 ⟨x, hx, by simpa using he⟩)
          have hya : extsP (vs.map lowerM ++ xs.map fun x => lowerM (x.take 1)) (ps.drop b) = if n = 0 ∨ dupM xs u = true then none else extsP ((vs.map lowerM ++ xs.map fun x => lowerM (x.take 1)) ++ [lowerM u]) (ps.drop (b + 1 + n)) := by
            rw [drop_at hu, extsP, if_pos hsg, ← hn, List.drop_drop]
            simp only [hmem]
          by_cases hgood : dupM xs u = false ∧ n ≠ 0
          · obtain ⟨z, rfl, hz1, hz2⟩ := hz hgood.1
            rw [show (!dupM xs u && decide (n ≠ 0)) = true by simp [hgood]]
            conv => whnf
            repeat' ((first | with_reducible refine IF.tt ?_ | with_reducible refine IF.ff ?_ | ((with_reducible refine NEED.mk ?_ ?_); (first | with_reducible rfl | omega | (simp (disch := omega) only [lnB, wrap64, wrap32] <;> omega) | (intro h; (try simp (disch := omega) only [hsB, hsC, lnB, wrap64, wrap32, simprocAttr] at h); (first | omega | (simp (disch := omega) only [lnB, wrap64, wrap32] <;> omega))) | (exact needApp 256 rfl rfl (by simp) (by simp) (by omega)) | (simp <;> omega))) | ((with_reducible apply GET.at); rfl) | ((with_reducible apply GETG.at); rfl) | ((with_reducible refine IF.mk (fun h => ?_) (fun h => ?_)) <;> (try simp (disch := omega) only [hsB, hsC, lnB, wrap64, wrap32, simprocAttr] at h) <;> try (exfalso; omega))) <;> conv => whnf)
            have e : (xs ++ [z]).length = xs.length + 1 := by simp
            refine ⟨(b + 1 + n, xs ++ [z]), ⟨by simp only; omega, by simp; omega, ?_, ?_⟩, by simp only; omega, ?_⟩
            · intro x hx'
              rcases List.mem_append.1 hx' with h1 | h1
              · exact hxs x h1
              · rw [List.mem_singleton.1 h1]
                refine ⟨?_, hz2⟩
                rcases z with _ | ⟨c, t⟩
                · simp at hz1; subst hz1; simp at hu1
                · simp
            · simp only
              rw [hy, hya, if_neg (by simp [hgood])]
              simp [hz1]
            · dsimp only
              rw [show ps.length - (b + 1 + n) = k' - n by omega]
              conv => whnf
              (refine GOES.keeping h0 [0, 1, 2, 3, 4, 6] rfl rfl rfl (by first | rfl | (simp only [belowO, belowH, plainLL_below _ (plainStrs _), Bool.and_self, Bool.and_true] <;> rfl)) ?_ ?_ <;> (repeat' (first | (with_reducible rfl) | (exact rows_eq (plainStrs _) (renLL_plain _ (plainStrs _))) | (exact rows_eq (plainStrs _) (by simp [strRow, ofVal, List.take_of_length_le])) | (exact sl_eq rfl (by simp)) | (exact congrArg (SV.int _) (by first | omega | (simp (disch := omega) only [lnB, wrap64, wrap32] <;> omega) | (simp; done) | (simp <;> omega))) | ((conv => whnf); refine ⟨?_, ?_⟩) | exact trivial | (simp only [ren, renB]; done) | rfl)))
          · have hbad : n = 0 ∨ dupM xs u = true := by
              rcases Nat.eq_zero_or_pos n with h | h
              · exact .inl h
              · right
                cases hd : dupM xs u with
                | true => rfl
                | false => exact absurd ⟨hd, by omega⟩ hgood
            have htf : tagP ps = false := by rw [hc0, hy, hya, if_pos hbad]
            rw [show (!dupM xs u && decide (n ≠ 0)) = false by rcases hbad with h | h <;> simp [h]]
            conv => whnf
            repeat' ((first | with_reducible refine IF.tt ?_ | with_reducible refine IF.ff ?_ | ((with_reducible refine NEED.mk ?_ ?_); (first | with_reducible rfl | omega | (simp (disch := omega) only [lnB, wrap64, wrap32] <;> omega) | (intro h; (try simp (disch := omega) only [hsB, hsC, lnB, wrap64, wrap32, simprocAttr] at h); (first | omega | (simp (disch := omega) only [lnB, wrap64, wrap32] <;> omega))) | (exact needApp 256 rfl rfl (by simp) (by simp) (by omega)) | (simp <;> omega))) | ((with_reducible apply GET.at); rfl) | ((with_reducible apply GETG.at); rfl) | ((with_reducible refine IF.mk (fun h => ?_) (fun h => ?_)) <;> (try simp (disch := omega) only [hsB, hsC, lnB, wrap64, wrap32, simprocAttr] at h) <;> try (exfalso; omega))) <;> conv => whnf)
            refine FIN.anyA 7 h0 rfl rfl rfl ⟨?_, rfl, rfl⟩
            rw [htf]; rfl
        · have hnp : privateM u = false := by rw [private_lower]; simpa using (by assumption : ¬ lowerM u = [120])
          have hmm : madeM u 1 1 false = false := by assumption
          have hsg : ¬ singleM u = true := by unfold singleM; simp [hmm]
          have hlast : tagP ps = false := by
            rw [hc0, hy, drop_at hu, extsP, if_neg hsg]; simp only [lastP]; rw [if_neg (by simp [hnp])]
          refine FIN.anyA 7 h0 rfl rfl rfl ⟨?_, rfl, rfl⟩
          rw [hlast]; rfl
        · have hpv : privateM u = true := by rw [private_lower]; simpa using (by assumption : lowerM u = [120])
          have hsg : ¬ singleM u = true := by unfold singleM; simp [hpv]
          have hlast : tagP ps = decide (spanM (partOK 1) (ps.drop (b + 1)) ≠ 0 ∧ spanM (partOK 1) (ps.drop (b + 1)) = (ps.drop (b + 1)).length) := by
            rw [hc0, hy, drop_at hu, extsP, if_neg hsg]; simp only [lastP]; rw [if_pos hpv]
          refine CALL.at [3, 2, 1, 4, 5] (private6_does ps hb b (ps.length - b) (by omega) hbp L E S R vs.length xs.length []) rfl rfl rfl rfl (by first | rfl | (simp only [belowO, belowH, plainLL_below _ (plainStrs _), Bool.and_self, Bool.and_true] <;> rfl)) (by first | rfl | (simp only [belowO, belowH, plainLL_below _ (plainStrs _), Bool.and_self, Bool.and_true] <;> rfl)) (by repeat' (first | exact trivial | exact (renH_plain _ (h := .rows _ _) (plainStrs _)).symm | exact rfl | exact (renH_plain _ (h := .rows _ _) (plainStrs _)).trans (renH_plain _ (h := .rows _ _) (plainStrs _)).symm | ((conv => whnf); refine ⟨?_, ?_⟩))) (by repeat' (first | exact trivial | exact (renH_plain _ (h := .rows _ _) (plainStrs _)).symm | exact rfl | exact (renH_plain _ (h := .rows _ _) (plainStrs _)).trans (renH_plain _ (h := .rows _ _) (plainStrs _)).symm | ((conv => whnf); refine ⟨?_, ?_⟩))) rfl rfl ?_
          rintro r O' nx' ⟨P', rfl, rfl, rfl⟩
          rw [← hlast]
          cases htf : tagP ps with
          | true =>
            conv => whnf
            repeat' ((first | with_reducible refine IF.tt ?_ | with_reducible refine IF.ff ?_ | ((with_reducible refine NEED.mk ?_ ?_); (first | with_reducible rfl | omega | (simp (disch := omega) only [lnB, wrap64, wrap32] <;> omega) | (intro h; (try simp (disch := omega) only [hsB, hsC, lnB, wrap64, wrap32, simprocAttr] at h); (first | omega | (simp (disch := omega) only [lnB, wrap64, wrap32] <;> omega))) | (exact needApp 256 rfl rfl (by simp) (by simp) (by omega)) | (simp <;> omega))) | ((with_reducible apply GET.at); rfl) | ((with_reducible apply GETG.at); rfl) | ((with_reducible refine IF.mk (fun h => ?_) (fun h => ?_)) <;> (try simp (disch := omega) only [hsB, hsC, lnB, wrap64, wrap32, simprocAttr] at h) <;> try (exfalso; omega))) <;> conv => whnf)
            exact FIN.anyA 7 h0 rfl rfl rfl ⟨rfl, rfl, rfl⟩
          | false =>
            conv => whnf
            repeat' ((first | with_reducible refine IF.tt ?_ | with_reducible refine IF.ff ?_ | ((with_reducible refine NEED.mk ?_ ?_); (first | with_reducible rfl | omega | (simp (disch := omega) only [lnB, wrap64, wrap32] <;> omega) | (intro h; (try simp (disch := omega) only [hsB, hsC, lnB, wrap64, wrap32, simprocAttr] at h); (first | omega | (simp (disch := omega) only [lnB, wrap64, wrap32] <;> omega))) | (exact needApp 256 rfl rfl (by simp) (by simp) (by omega)) | (simp <;> omega))) | ((with_reducible apply GET.at); rfl) | ((with_reducible apply GETG.at); rfl) | ((with_reducible refine IF.mk (fun h => ?_) (fun h => ?_)) <;> (try simp (disch := omega) only [hsB, hsC, lnB, wrap64, wrap32, simprocAttr] at h) <;> try (exfalso; omega))) <;> conv => whnf)
            exact FIN.anyA 7 h0 rfl rfl rfl ⟨rfl, rfl, rfl⟩
      · repeat' ((first | with_reducible refine IF.tt ?_ | with_reducible refine IF.ff ?_ | ((with_reducible refine NEED.mk ?_ ?_); (first | with_reducible rfl | omega | (simp (disch := omega) only [lnB, wrap64, wrap32] <;> omega) | (intro h; (try simp (disch := omega) only [hsB, hsC, lnB, wrap64, wrap32, simprocAttr] at h); (first | omega | (simp (disch := omega) only [lnB, wrap64, wrap32] <;> omega))) | (exact needApp 256 rfl rfl (by simp) (by simp) (by omega)) | (simp <;> omega))) | ((with_reducible apply GET.at); rfl) | ((with_reducible apply GETG.at); rfl) | ((with_reducible refine IF.mk (fun h => ?_) (fun h => ?_)) <;> (try simp (disch := omega) only [hsB, hsC, lnB, wrap64, wrap32, simprocAttr] at h) <;> try (exfalso; omega))) <;> conv => whnf)
        have hlast : tagP ps = true := by rw [hc0, hy, List.drop_eq_nil_of_le (by omega), extsP]; rfl
        refine FIN.anyA 7 h0 rfl rfl rfl ⟨?_, rfl, rfl⟩
        rw [hlast]; rfl
  · repeat' ((first | with_reducible refine IF.tt ?_ | with_reducible refine IF.ff ?_ | ((with_reducible refine NEED.mk ?_ ?_); (first | with_reducible rfl | omega | (simp (disch := omega) only [lnB, wrap64, wrap32] <;> omega) | (intro h; (try simp (disch := omega) only [hsB, hsC, lnB, wrap64, wrap32, simprocAttr] at h); (first | omega | (simp (disch := omega) only [lnB, wrap64, wrap32] <;> omega))) | (exact needApp 256 rfl rfl (by simp) (by simp) (by omega)) | (simp <;> omega))) | ((with_reducible apply GET.at); rfl) | ((with_reducible apply GETG.at); rfl) | ((with_reducible refine IF.mk (fun h => ?_) (fun h => ?_)) <;> (try simp (disch := omega) only [hsB, hsC, lnB, wrap64, wrap32, simprocAttr] at h) <;> try (exfalso; omega))) <;> conv => whnf)
    have hv0 : varsP (vs.map lowerM) (ps.drop a) = some (ps.drop a, vs.map lowerM) := by
      rw [List.drop_eq_nil_of_le (by omega)]; rfl
    have hc0 : tagP ps = match extsP (vs.map lowerM) (ps.drop a) with | none => false | some l => lastP l := by rw [htag]; unfold contP; rw [hx, hv0]
    refine LOOP.go tabOK [2, 4, 5] (X := Nat × List (List UInt8)) (fun y => y.1 ≤ ps.length ∧ y.2.length ≤ y.1 ∧ (∀ x ∈ y.2, 1 ≤ x.length ∧ Sm x) ∧ extsP (vs.map lowerM) (ps.drop a) = extsP (vs.map lowerM ++ y.2.map fun x => lowerM (x.take 1)) (ps.drop y.1)) (fun y => []) (fun y => [(0, tz6), (1, tg6 L E S R 4 vs.length 5 y.2.length []), (2, .rows 1 (ps.map strRow)), (3, rd6' y.1 (ps.length - y.1)), (4, .rows 1 (vs.map strRow)), (5, .rows 1 (y.2.map strRow))]) 6 (fun y => ps.length - y.1) (a, []) ⟨by simp only; omega, by simp, by simp, by simp⟩ ?_
    conv => whnf
    refine ⟨by (refine GOES.keeping h0 [0, 1, 2, 3, 4, 5] rfl rfl rfl (by first | rfl | (simp only [belowO, belowH, plainLL_below _ (plainStrs _), Bool.and_self, Bool.and_true] <;> rfl)) ?_ ?_ <;> (repeat' (first | (with_reducible rfl) | (exact rows_eq (plainStrs _) (renLL_plain _ (plainStrs _))) | (exact rows_eq (plainStrs _) (by simp [strRow, ofVal, List.take_of_length_le])) | (exact sl_eq rfl (by simp)) | (exact congrArg (SV.int _) (by first | omega | (simp (disch := omega) only [lnB, wrap64, wrap32] <;> omega) | (simp; done) | (simp <;> omega))) | ((conv => whnf); refine ⟨?_, ?_⟩) | exact trivial | (simp only [ren, renB]; done) | rfl))), ?_⟩
    rintro ⟨b, xs⟩ ⟨hb1, hxl, hxs, hy⟩
    dsimp only at hb1 hxl hxs hy ⊢
    conv => whnf
    rcases Nat.lt_or_ge b ps.length with hbp | hbp
    · obtain ⟨u, hu⟩ : ∃ u, ps[b]? = some u := ⟨_, List.getElem?_eq_getElem hbp⟩
      have hul := hsm u (List.mem_of_getElem? hu)
      obtain ⟨k', hk'⟩ : ∃ k', ps.length - b = k' + 1 := ⟨ps.length - b - 1, by omega⟩
      clear hx hv0 hvl
      repeat' ((first | with_reducible refine IF.tt ?_ | with_reducible refine IF.ff ?_ | (refine GET.at (row := strRow u) (by rw [List.getElem?_map, show b + (0 : Int).toNat = b by simp, hu]; rfl) ?_; conv => whnf) | refine CALL.value (r6lower_does _ hul) rfl rfl ?_ | refine CALL.value (r6both_does _ _ _ hul) rfl rfl ?_ | ((with_reducible refine NEED.mk ?_ ?_); (first | with_reducible rfl | omega | (simp (disch := omega) only [lnB, wrap64, wrap32] <;> omega) | (intro h; (try simp (disch := omega) only [hsB, hsC, lnB, wrap64, wrap32, simprocAttr] at h); (first | omega | (simp (disch := omega) only [lnB, wrap64, wrap32] <;> omega))) | (exact needApp 256 rfl rfl (by simp) (by simp) (by omega)) | (simp <;> omega))) | ((with_reducible apply GET.at); rfl) | ((with_reducible apply GETG.at); rfl) | ((with_reducible refine IF.mk (fun h => ?_) (fun h => ?_)) <;> (try simp (disch := omega) only [hsB, hsC, lnB, wrap64, wrap32, simprocAttr] at h) <;> try (exfalso; omega))) <;> conv => whnf)
      all_goals try (exact absurd (by assumption : lowerM u = [120]) (by assumption))
      · have hnp : privateM u = false := by rw [private_lower]; simpa using (by assumption : ¬ lowerM u = [120])
        have hmm : madeM u 1 1 false = true := by assumption
        have hsg : singleM u = true := by unfold singleM; rw [hmm, hnp]; rfl
        have hu1 : u.length = 1 := by have := made_len hmm; omega
        rw [hk']
        refine CALL.at [3, 2, 1, 4, 5] (extension6_does ps hb b k' (by omega) u hu hu1 L E S R vs.length [] xs hxs (by omega)) rfl rfl rfl rfl (by first | rfl | (simp only [belowO, belowH, plainLL_below _ (plainStrs _), Bool.and_self, Bool.and_true] <;> rfl)) (by first | rfl | (simp only [belowO, belowH, plainLL_below _ (plainStrs _), Bool.and_self, Bool.and_true] <;> rfl)) (by repeat' (first | exact trivial | exact (renH_plain _ (h := .rows _ _) (plainStrs _)).symm | exact rfl | exact (renH_plain _ (h := .rows _ _) (plainStrs _)).trans (renH_plain _ (h := .rows _ _) (plainStrs _)).symm | ((conv => whnf); refine ⟨?_, ?_⟩))) (by repeat' (first | exact trivial | exact (renH_plain _ (h := .rows _ _) (plainStrs _)).symm | exact rfl | exact (renH_plain _ (h := .rows _ _) (plainStrs _)).trans (renH_plain _ (h := .rows _ _) (plainStrs _)).symm | ((conv => whnf); refine ⟨?_, ?_⟩))) rfl rfl ?_
        rintro r O' nx' ⟨n, xs', hn, rfl, hz, rfl, rfl⟩
        have hnle : n ≤ (ps.drop (b + 1)).length := by rw [hn]; exact span_le _ _
        rw [List.length_drop] at hnle
        have hmem : lowerM u ∈ vs.map lowerM ++ (xs.map fun x => lowerM (x.take 1)) ↔ dupM xs u = true := by
          unfold dupM
          rw [List.mem_append, List.any_eq_true]
          constructor
          · rintro (h | h)
            · obtain ⟨v, hv, he⟩ := List.mem_map.1 h
              have h1 := (hvs v hv).1
              have h2 := congrArg List.length he
              unfold lowerM at h2; simp only [List.length_map] at h2; omega
            · obtain ⟨x, hx, he⟩ := List.mem_map.1 h
              exact ⟨x, hx, by simp [he]⟩
          · rintro ⟨x, hx, he⟩
            exact .inr (List.mem_map.2 ⟨x, hx, by simpa using he⟩)
        have hya : extsP (vs.map lowerM ++ xs.map fun x => lowerM (x.take 1)) (ps.drop b) = if n = 0 ∨ dupM xs u = true then none else extsP ((vs.map lowerM ++ xs.map fun x => lowerM (x.take 1)) ++ [lowerM u]) (ps.drop (b + 1 + n)) := by
          rw [drop_at hu, extsP, if_pos hsg, ← hn, List.drop_drop]
          simp only [hmem]
        by_cases hgood : dupM xs u = false ∧ n ≠ 0
        · obtain ⟨z, rfl, hz1, hz2⟩ := hz hgood.1
          rw [show (!dupM xs u && decide (n ≠ 0)) = true by simp [hgood]]
          conv => whnf
          repeat' ((first | with_reducible refine IF.tt ?_ | with_reducible refine IF.ff ?_ | ((with_reducible refine NEED.mk ?_ ?_); (first | with_reducible rfl | omega | (simp (disch := omega) only [lnB, wrap64, wrap32] <;> omega) | (intro h; (try simp (disch := omega) only [hsB, hsC, lnB, wrap64, wrap32, simprocAttr] at h); (first | omega | (simp (disch := omega) only [lnB, wrap64, wrap32] <;> omega))) | (exact needApp 256 rfl rfl (by simp) (by simp) (by omega)) | (simp <;> omega))) | ((with_reducible apply GET.at); rfl) | ((with_reducible apply GETG.at); rfl) | ((with_reducible refine IF.mk (fun h => ?_) (fun h => ?_)) <;> (try simp (disch := omega) only [hsB, hsC, lnB, wrap64, wrap32, simprocAttr] at h) <;> try (exfalso; omega))) <;> conv => whnf)
          have e : (xs ++ [z]).length = xs.length + 1 := by simp
          refine ⟨(b + 1 + n, xs ++ [z]), ⟨by simp only; omega, by simp; omega, ?_, ?_⟩, by simp only; omega, ?_⟩
          · intro x hx'
            rcases List.mem_append.1 hx' with h1 | h1
            · exact hxs x h1
            · rw [List.mem_singleton.1 h1]
              refine ⟨?_, hz2⟩
              rcases z with _ | ⟨c, t⟩
              · simp at hz1; subst hz1; simp at hu1
              · simp
          · simp only
            rw [hy, hya, if_neg (by simp [hgood])]
            simp [hz1]
          · dsimp only
            rw [show ps.length - (b + 1 + n) = k' - n by omega]
            conv => whnf
            (refine GOES.keeping h0 [0, 1, 2, 3, 4, 6] rfl rfl rfl (by first | rfl | (simp only [belowO, belowH, plainLL_below _ (plainStrs _), Bool.and_self, Bool.and_true] <;> rfl)) ?_ ?_ <;> (repeat' (first | (with_reducible rfl) | (exact rows_eq (plainStrs _) (renLL_plain _ (plainStrs _))) | (exact rows_eq (plainStrs _) (by simp [strRow, ofVal, List.take_of_length_le])) | (exact sl_eq rfl (by simp)) | (exact congrArg (SV.int _) (by first | omega | (simp (disch := omega) only [lnB, wrap64, wrap32] <;> omega) | (simp; done) | (simp <;> omega))) | ((conv => whnf); refine ⟨?_, ?_⟩) | exact trivial | (simp only [ren, renB]; done) | rfl)))
        · have hbad : n = 0 ∨ dupM xs u = true := by
            rcases Nat.eq_zero_or_pos n with h | h
            · exact .inl h
            · right
              cases hd : dupM xs u with
              | true => rfl
              | false => exact absurd ⟨hd, by omega⟩ hgood
          have htf : tagP ps = false := by rw [hc0, hy, hya, if_pos hbad]
          rw [show (!dupM xs u && decide (n ≠ 0)) = false by rcases hbad with h | h <;> simp [h]]
          conv => whnf
          repeat' ((first | with_reducible refine IF.tt ?_ | with_reducible refine IF.ff ?_ | ((with_reducible refine NEED.mk ?_ ?_); (first | with_reducible rfl | omega | (simp (disch := omega) only [lnB, wrap64, wrap32] <;> omega) | (intro h; (try simp (disch := omega) only [hsB, hsC, lnB, wrap64, wrap32, simprocAttr] at h); (first | omega | (simp (disch := omega) only [lnB, wrap64, wrap32] <;> omega))) | (exact needApp 256 rfl rfl (by simp) (by simp) (by omega)) | (simp <;> omega))) | ((with_reducible apply GET.at); rfl) | ((with_reducible apply GETG.at); rfl) | ((with_reducible refine IF.mk (fun h => ?_) (fun h => ?_)) <;> (try simp (disch := omega) only [hsB, hsC, lnB, wrap64, wrap32, simprocAttr] at h) <;> try (exfalso; omega))) <;> conv => whnf)
          refine FIN.anyA 7 h0 rfl rfl rfl ⟨?_, rfl, rfl⟩
          rw [htf]; rfl
      · have hnp : privateM u = false := by rw [private_lower]; simpa using (by assumption : ¬ lowerM u = [120])
        have hmm : madeM u 1 1 false = false := by assumption
        have hsg : ¬ singleM u = true := by unfold singleM; simp [hmm]
        have hlast : tagP ps = false := by
          rw [hc0, hy, drop_at hu, extsP, if_neg hsg]; simp only [lastP]; rw [if_neg (by simp [hnp])]
        refine FIN.anyA 7 h0 rfl rfl rfl ⟨?_, rfl, rfl⟩
        rw [hlast]; rfl
      · have hpv : privateM u = true := by rw [private_lower]; simpa using (by assumption : lowerM u = [120])
        have hsg : ¬ singleM u = true := by unfold singleM; simp [hpv]
        have hlast : tagP ps = decide (spanM (partOK 1) (ps.drop (b + 1)) ≠ 0 ∧ spanM (partOK 1) (ps.drop (b + 1)) = (ps.drop (b + 1)).length) := by
          rw [hc0, hy, drop_at hu, extsP, if_neg hsg]; simp only [lastP]; rw [if_pos hpv]
        refine CALL.at [3, 2, 1, 4, 5] (private6_does ps hb b (ps.length - b) (by omega) hbp L E S R vs.length xs.length []) rfl rfl rfl rfl (by first | rfl | (simp only [belowO, belowH, plainLL_below _ (plainStrs _), Bool.and_self, Bool.and_true] <;> rfl)) (by first | rfl | (simp only [belowO, belowH, plainLL_below _ (plainStrs _), Bool.and_self, Bool.and_true] <;> rfl)) (by repeat' (first | exact trivial | exact (renH_plain _ (h := .rows _ _) (plainStrs _)).symm | exact rfl | exact (renH_plain _ (h := .rows _ _) (plainStrs _)).trans (renH_plain _ (h := .rows _ _) (plainStrs _)).symm | ((conv => whnf); refine ⟨?_, ?_⟩))) (by repeat' (first | exact trivial | exact (renH_plain _ (h := .rows _ _) (plainStrs _)).symm | exact rfl | exact (renH_plain _ (h := .rows _ _) (plainStrs _)).trans (renH_plain _ (h := .rows _ _) (plainStrs _)).symm | ((conv => whnf); refine ⟨?_, ?_⟩))) rfl rfl ?_
        rintro r O' nx' ⟨P', rfl, rfl, rfl⟩
        rw [← hlast]
        cases htf : tagP ps with
        | true =>
          conv => whnf
          repeat' ((first | with_reducible refine IF.tt ?_ | with_reducible refine IF.ff ?_ | ((with_reducible refine NEED.mk ?_ ?_); (first | with_reducible rfl | omega | (simp (disch := omega) only [lnB, wrap64, wrap32] <;> omega) | (intro h; (try simp (disch := omega) only [hsB, hsC, lnB, wrap64, wrap32, simprocAttr] at h); (first | omega | (simp (disch := omega) only [lnB, wrap64, wrap32] <;> omega))) | (exact needApp 256 rfl rfl (by simp) (by simp) (by omega)) | (simp <;> omega))) | ((with_reducible apply GET.at); rfl) | ((with_reducible apply GETG.at); rfl) | ((with_reducible refine IF.mk (fun h => ?_) (fun h => ?_)) <;> (try simp (disch := omega) only [hsB, hsC, lnB, wrap64, wrap32, simprocAttr] at h) <;> try (exfalso; omega))) <;> conv => whnf)
          exact FIN.anyA 7 h0 rfl rfl rfl ⟨rfl, rfl, rfl⟩
        | false =>
          conv => whnf
          repeat' ((first | with_reducible refine IF.tt ?_ | with_reducible refine IF.ff ?_ | ((with_reducible refine NEED.mk ?_ ?_); (first | with_reducible rfl | omega | (simp (disch := omega) only [lnB, wrap64, wrap32] <;> omega) | (intro h; (try simp (disch := omega) only [hsB, hsC, lnB, wrap64, wrap32, simprocAttr] at h); (first | omega | (simp (disch := omega) only [lnB, wrap64, wrap32] <;> omega))) | (exact needApp 256 rfl rfl (by simp) (by simp) (by omega)) | (simp <;> omega))) | ((with_reducible apply GET.at); rfl) | ((with_reducible apply GETG.at); rfl) | ((with_reducible refine IF.mk (fun h => ?_) (fun h => ?_)) <;> (try simp (disch := omega) only [hsB, hsC, lnB, wrap64, wrap32, simprocAttr] at h) <;> try (exfalso; omega))) <;> conv => whnf)
          exact FIN.anyA 7 h0 rfl rfl rfl ⟨rfl, rfl, rfl⟩
    · repeat' ((first | with_reducible refine IF.tt ?_ | with_reducible refine IF.ff ?_ | ((with_reducible refine NEED.mk ?_ ?_); (first | with_reducible rfl | omega | (simp (disch := omega) only [lnB, wrap64, wrap32] <;> omega) | (intro h; (try simp (disch := omega) only [hsB, hsC, lnB, wrap64, wrap32, simprocAttr] at h); (first | omega | (simp (disch := omega) only [lnB, wrap64, wrap32] <;> omega))) | (exact needApp 256 rfl rfl (by simp) (by simp) (by omega)) | (simp <;> omega))) | ((with_reducible apply GET.at); rfl) | ((with_reducible apply GETG.at); rfl) | ((with_reducible refine IF.mk (fun h => ?_) (fun h => ?_)) <;> (try simp (disch := omega) only [hsB, hsC, lnB, wrap64, wrap32, simprocAttr] at h) <;> try (exfalso; omega))) <;> conv => whnf)
      have hlast : tagP ps = true := by rw [hc0, hy, List.drop_eq_nil_of_le (by omega), extsP]; rfl
      refine FIN.anyA 7 h0 rfl rfl rfl ⟨?_, rfl, rfl⟩
      rw [hlast]; rfl
end Go.Proofs.YtpffclpheldabaaGreatDoor
/- The reference's Check and CheckQuad, walked. Conditions: none. -/
set_option linter.unusedVariables false
set_option linter.unusedSimpArgs false
set_option maxRecDepth 20000
namespace Go.Proofs.YtpffclpheldabaaGreatDoor
open Go.Sx Go.Our
theorem rliteral_does (k : Int) (t y l : List UInt8) (ht : Sm t) (hy : Sm y) (hl : Sm l) : Does Tryz.prog tab 66 0 [.agg [.int .i64 k, .str t, .str y, .str l]] [] [] (Val (.int .i64 (litM t y l))) := by
  refine Does.enter tabOK (g := 66) (fn := Tryz.f66) Tryz.call66 Tryz.func66 rfl 61 rfl rfl [.tmp 2] rfl ?_
  intro w0 F η0 h0
  conv => whnf
  repeat' ((first | with_reducible refine IF.tt ?_ | with_reducible refine IF.ff ?_ | refine CALL.value (ref04Check_does _ ht) rfl rfl ?_ | refine CALL.value (ref05Check_does _ hy) rfl rfl ?_ | refine CALL.value (tag6_does _ (by omega)) rfl rfl ?_ | ((with_reducible refine NEED.mk ?_ ?_); (first | with_reducible rfl | omega | (simp (disch := omega) only [lnB, wrap64, wrap32] <;> omega) | (intro h; (try simp (disch := omega) only [hsB, hsC, lnB, wrap64, wrap32, simprocAttr] at h); (first | omega | (simp (disch := omega) only [lnB, wrap64, wrap32] <;> omega))) | (exact needApp 256 rfl rfl (by simp) (by simp) (by omega)) | (simp <;> omega))) | ((with_reducible apply GET.at); rfl) | ((with_reducible apply GETG.at); rfl) | ((with_reducible refine IF.mk (fun h => ?_) (fun h => ?_)) <;> (try simp (disch := omega) only [hsB, hsC, lnB, wrap64, wrap32, simprocAttr] at h) <;> try (exfalso; omega))) <;> conv => whnf)
  all_goals try
    (refine FIN.value h0 rfl (congrArg (SV.int _) ?_)
     by_cases hy0 : y = taggedB
     · have hyb : (y == taggedB) = true := by simp [hy0]
       unfold taggedB at hyb
       try rw [hyb] at h
       by_cases htg : tagP (splitM l) = true <;> by_cases hlw : lowerM l = l <;> by_cases hl0 : l = [] <;> simp_all [litM, taggedB, orE] <;> omega
     · have hyb : (y == taggedB) = false := by simp [hy0]
       unfold taggedB at hyb
       try rw [hyb] at h
       by_cases htg : tagP (splitM l) = true <;> by_cases hlw : lowerM l = l <;> by_cases hl0 : l = [] <;> simp_all [litM, taggedB, orE] <;> omega)
  have htg : tagP (splitM l) = true := by
    cases h1 : tagP (splitM l) with
    | true => rfl
    | false => rw [h1] at h; simp at h
  refine LOOP.go tabOK [1] (X := Nat) (fun i => i ≤ l.length ∧ ∀ j : Nat, j < i → ¬ (65 ≤ byteAt l j ∧ byteAt l j ≤ 90)) (fun i => [(4, .int .i64 (i : Int))]) (fun i => [(0, .box [.int .i64 k, .str t, .str y, .str l])]) 1 (fun i => l.length - i) 0 ⟨by omega, fun j h => by omega⟩ ?_
  conv => whnf
  refine ⟨by (refine GOES.cutting h0 rfl rfl rfl (by first | rfl | simp [belowO, belowH, plainLL_below, plainLL_map, plainL, plain]) ?_ ?_ <;> (repeat' (first | (with_reducible rfl) | (exact congrArg (fun n => SV.sl _ _ _ n _) (by simp)) | (exact congrArg (Hp.rows _) (by simp)) | (exact congrArg (SV.int _) (by first | omega | (simp (disch := omega) only [lnB, wrap64, wrap32] <;> omega) | (simp; done) | (simp <;> omega))) | ((conv => whnf); refine ⟨?_, ?_⟩) | exact trivial | (simp; done) | rfl))), ?_⟩
  rintro i ⟨hi, hc⟩
  conv => whnf
  repeat' ((first | with_reducible refine IF.tt ?_ | with_reducible refine IF.ff ?_ | ((with_reducible refine NEED.mk ?_ ?_); (first | with_reducible rfl | omega | (simp (disch := omega) only [lnB, wrap64, wrap32] <;> omega) | (intro h; (try simp (disch := omega) only [hsB, hsC, lnB, wrap64, wrap32, simprocAttr] at h); (first | omega | (simp (disch := omega) only [lnB, wrap64, wrap32] <;> omega))) | (exact needApp 256 rfl rfl (by simp) (by simp) (by omega)) | (simp <;> omega))) | ((with_reducible apply GET.at); rfl) | ((with_reducible apply GETG.at); rfl) | ((with_reducible refine IF.mk (fun h => ?_) (fun h => ?_)) <;> (try simp (disch := omega) only [hsB, hsC, lnB, wrap64, wrap32, simprocAttr] at h) <;> try (exfalso; omega))) <;> conv => whnf)
  · have hlw : lowerM l ≠ l := lower_up (i := i) (by omega) h
    refine FIN.value h0 rfl (congrArg (SV.int _) ?_)
    simp_all [litM] <;> omega
  · refine ⟨i + 1, ⟨by omega, fun j hj => ?_⟩, by omega, ?_⟩
    · by_cases he : j = i
      · subst he; omega
      · exact hc j (by omega)
    · conv => whnf
      (refine GOES.cutting h0 rfl rfl rfl (by first | rfl | simp [belowO, belowH, plainLL_below, plainLL_map, plainL, plain]) ?_ ?_ <;> (repeat' (first | (with_reducible rfl) | (exact congrArg (fun n => SV.sl _ _ _ n _) (by simp)) | (exact congrArg (Hp.rows _) (by simp)) | (exact congrArg (SV.int _) (by first | omega | (simp (disch := omega) only [lnB, wrap64, wrap32] <;> omega) | (simp; done) | (simp <;> omega))) | ((conv => whnf); refine ⟨?_, ?_⟩) | exact trivial | (simp; done) | rfl)))
  all_goals
    have hlw : lowerM l = l := lower_same fun j hj => hc j (by omega)
    refine FIN.value h0 rfl (congrArg (SV.int _) ?_)
    by_cases hy0 : y = taggedB
    · have hyb : (y == taggedB) = true := by simp [hy0]
      unfold taggedB at hyb
      try rw [hyb] at h
      by_cases hl0 : l = [] <;> simp_all [litM, taggedB, orE] <;> omega
    · have hyb : (y == taggedB) = false := by simp [hy0]
      unfold taggedB at hyb
      try rw [hyb] at h
      by_cases hl0 : l = [] <;> simp_all [litM, taggedB, orE] <;> omega
theorem rcheck_does (x : Tm) (hx : TmSm x) : Does Tryz.prog tab 37 0 [.agg [.int .i64 x.k, .str x.t, .str x.y, .str x.l]] [] [] (Val (.int .i64 (checkM x))) := by
  obtain ⟨ht, hy, hl⟩ := hx
  obtain ⟨k, t, y, l⟩ := x
  dsimp only at ht hy hl ⊢
  refine Does.enter tabOK (g := 37) (fn := Tryz.f37) Tryz.call37 Tryz.func37 rfl 33 rfl rfl [.tmp 2] rfl ?_
  intro w0 F η0 h0
  conv => whnf
  repeat' ((first | with_reducible refine IF.tt ?_ | with_reducible refine IF.ff ?_ | refine CALL.value (rliteral_does _ _ _ _ ht hy hl) rfl rfl ?_ | refine CALL.value (ref05Check_does _ ht) rfl rfl ?_ | refine CALL.value (r6Label_does _ (by omega)) rfl rfl ?_ | ((with_reducible refine NEED.mk ?_ ?_); (first | with_reducible rfl | omega | (simp (disch := omega) only [lnB, wrap64, wrap32] <;> omega) | (intro h; (try simp (disch := omega) only [hsB, hsC, lnB, wrap64, wrap32, simprocAttr] at h); (first | omega | (simp (disch := omega) only [lnB, wrap64, wrap32] <;> omega))) | (exact needApp 256 rfl rfl (by simp) (by simp) (by omega)) | (simp <;> omega))) | ((with_reducible apply GET.at); rfl) | ((with_reducible apply GETG.at); rfl) | ((with_reducible refine IF.mk (fun h => ?_) (fun h => ?_)) <;> (try simp (disch := omega) only [hsB, hsC, lnB, wrap64, wrap32, simprocAttr] at h) <;> try (exfalso; omega))) <;> conv => whnf)
  all_goals
    refine FIN.value h0 rfl (congrArg (SV.int _) ?_)
    have hle := label_eq t
    unfold checkM
    first
      | (simp_all; done)
      | (simp_all <;> omega)
theorem rcheckQuad_does (q : Qd) (hq : QdSm q) : Does Tryz.prog tab 30 0 [q.sv] [] [] (Val (.int .i64 (cquadM q))) := by
  obtain ⟨hs, hp, ho, hg⟩ := hq
  unfold Qd.sv
  refine Does.enter tabOK (g := 30) (fn := Tryz.f30) Tryz.call30 Tryz.func30 rfl 53 rfl rfl [.tmp 2] rfl ?_
  intro w0 F η0 h0
  conv => whnf
  repeat' ((first | with_reducible refine IF.tt ?_ | with_reducible refine IF.ff ?_ | refine CALL.value (rcheck_does q.s hs) rfl rfl ?_ | refine CALL.value (rcheck_does q.p hp) rfl rfl ?_ | refine CALL.value (rcheck_does q.o ho) rfl rfl ?_ | refine CALL.value (rcheck_does q.g hg) rfl rfl ?_ | ((with_reducible refine NEED.mk ?_ ?_); (first | with_reducible rfl | omega | (simp (disch := omega) only [lnB, wrap64, wrap32] <;> omega) | (intro h; (try simp (disch := omega) only [hsB, hsC, lnB, wrap64, wrap32, simprocAttr] at h); (first | omega | (simp (disch := omega) only [lnB, wrap64, wrap32] <;> omega))) | (exact needApp 256 rfl rfl (by simp) (by simp) (by omega)) | (simp <;> omega))) | ((with_reducible apply GET.at); rfl) | ((with_reducible apply GETG.at); rfl) | ((with_reducible refine IF.mk (fun h => ?_) (fun h => ?_)) <;> (try simp (disch := omega) only [hsB, hsC, lnB, wrap64, wrap32, simprocAttr] at h) <;> try (exfalso; omega))) <;> conv => whnf)
  all_goals
    refine FIN.value h0 rfl (congrArg (SV.int _) ?_)
    clear hs hp ho hg
    have hz : q.g = zeroTm ↔ q.g.k = 0 ∧ q.g.t = [] ∧ q.g.y = [] ∧ q.g.l = [] := by
      obtain ⟨s, p, o, g⟩ := q
      obtain ⟨k, t, y, l⟩ := g
      simp [zeroTm]
    unfold cquadM
    by_cases hgz : q.g = zeroTm
    · have := hz.1 hgz; simp_all
    · by_cases g1 : q.g.k = 1
      · simp_all
      · by_cases g2 : q.g.k = 2
        · simp_all
        · simp_all
end Go.Proofs.YtpffclpheldabaaGreatDoor
/- The reference's Next, walked: the pieces. Conditions: none. -/
set_option linter.unusedVariables false
set_option linter.unusedSimpArgs false
set_option maxRecDepth 20000
namespace Go.Proofs.YtpffclpheldabaaGreatDoor
open Go.Sx Go.Our
def plNext40 : Plan := (planOf [(0, 1), (1, 1), (2, 1), (5, 1), (8, 1), (9, 1), (3, 2), (4, 1), (6, 2), (7, 1), (10, 0)])
theorem r6LabelAt_does (s : List UInt8) (a : Nat) (hs : Sm s) (ha : a ≤ s.length) : Does Tryz.prog tab 46 0 [.str s, .int .i64 (a : Int)] [] [] (Val (.int .i64 (runM LabelI s a))) := by
  have hLF : ∀ r : Int, (StartI r ∨ DigitI r) → FollowI r := fun r h => by unfold FollowI; rcases h with h | h <;> simp [h]
  have hL : ∀ r : Int, LabelI r ↔ (StartI r ∨ DigitI r) := fun r => Iff.rfl
  refine Does.enter tabOK (g := 46) (fn := Tryz.f46) Tryz.call46 Tryz.func46 rfl 59 rfl rfl [.tmp 4] rfl ?_
  intro w0 F η0 h0
  conv => whnf
  refine LOOP.go tabOK [0, 1] (X := Nat × Nat × Bool) (fun x => x.1 ≤ s.length ∧ a ≤ x.2.1 ∧ x.2.1 ≤ x.1 ∧ (x.2.2 = true → x.1 = a ∧ x.2.1 = a) ∧ (x.2.2 = false → runM LabelI s a = (runGo s x.1 x.2.1 : Int) - a)) (fun x => [(5, .int .i64 ((x.2.1 : Int) - a)), (6, .bool x.2.2), (7, .int .i64 (x.1 : Int))]) (fun _ => []) 0 (fun x => s.length - x.1) (a, a, true) ⟨ha, Nat.le_refl _, Nat.le_refl _, fun _ => ⟨rfl, rfl⟩, fun h => (by cases h)⟩ ?_
  conv => whnf
  refine ⟨by (refine GOES.cutting h0 rfl rfl rfl (by first | rfl | simp [belowO, belowH, plainLL_below, plainLL_map, plainL, plain]) ?_ ?_ <;> (repeat' (first | (with_reducible rfl) | (exact congrArg (fun n => SV.sl _ _ _ n _) (by simp)) | (exact congrArg (Hp.rows _) (by simp)) | (exact congrArg (SV.int _) (by first | omega | (simp (disch := omega) only [lnB, wrap64, wrap32] <;> omega) | (simp; done) | (simp <;> omega))) | ((conv => whnf); refine ⟨?_, ?_⟩) | exact trivial | (simp; done) | rfl))), ?_⟩
  rintro ⟨i, e, fi⟩ ⟨hi, hae, hei, ht, hf⟩
  dsimp only at hi hae hei ht hf ⊢
  have hn := nextAt_n s i
  conv => whnf
  have hdot : ¬ LabelI 46 := by rw [hL]; unfold StartI BaseI DigitI; omega
  have hstop : ((nextAt s i).2 = 0 ∨ (fi = true ∧ ¬ LabelI (nextAt s i).1) ∨ ¬ (FollowI (nextAt s i).1 ∨ (nextAt s i).1 = 46)) → runM LabelI s a = (e : Int) - a := by
    intro h
    cases fi with
    | true =>
      have h5 := (ht rfl).1
      have h6 := (ht rfl).2
      have : (nextAt s i).2 = 0 ∨ ¬ LabelI (nextAt s i).1 := by
        rcases h with h | h | h
        · exact .inl h
        · exact .inr h.2
        · exact .inr fun h2 => h (.inl (hLF _ ((hL _).1 h2)))
      unfold runM
      rw [h6, ← h5, if_pos this]; omega
    | false =>
      rw [hf rfl, runGo_stop]
      rintro ⟨h1, h2⟩
      rcases h with h | h | h
      · exact h1 h
      · cases h.1
      · exact h (by rcases h2 with h2 | h2; exact .inr h2; exact .inl h2)
  have hgo : (nextAt s i).2 ≠ 0 → (fi = true → LabelI (nextAt s i).1) → (FollowI (nextAt s i).1 ∨ (nextAt s i).1 = 46) → runM LabelI s a = (runGo s (i + (nextAt s i).2.toNat) (if (nextAt s i).1 = 46 then e else i + (nextAt s i).2.toNat) : Int) - a := by
    intro h1 h2 h3
    cases fi with
    | true =>
      have h5 := (ht rfl).1
      have h4 := h2 rfl
      unfold runM
      rw [← h5, if_neg (by intro hh; rcases hh with hh | hh; exact h1 hh; exact hh h4), if_neg (by intro hh; rw [hh] at h4; exact hdot h4)]
      simp
    | false =>
      rw [hf rfl, runGo_step ⟨h1, by rcases h3 with h3 | h3; exact .inr h3; exact .inl h3⟩]
  have hend : s.length ≤ i → runM LabelI s a = (e : Int) - a := fun h => hstop (.inl (nextAt_end h))
  repeat' ((first | with_reducible refine IF.tt ?_ | with_reducible refine IF.ff ?_ | with_reducible refine ADD.mk (fun _ _ => ?_) | with_reducible refine NEED.mk (Det.of rfl) ?_ | with_reducible refine FORK.mk ?_ ?_ | refine CALL.value (ref04Next_does s _ hs) rfl rfl ?_ | refine CALL.value (r6Starter_does _) rfl rfl ?_ | refine CALL.value (r6Digit_does _) rfl rfl ?_ | refine CALL.value (r6Follower_does _) rfl rfl ?_ | ((with_reducible refine NEED.mk ?_ ?_); (first | with_reducible rfl | omega | (simp (disch := omega) only [lnB, wrap64, wrap32] <;> omega) | (intro h; (try simp (disch := omega) only [hsB, hsC, lnB, wrap64, wrap32, simprocAttr] at h); (first | omega | (simp (disch := omega) only [lnB, wrap64, wrap32] <;> omega))) | (exact needApp 256 rfl rfl (by simp) (by simp) (by omega)) | (simp <;> omega))) | ((with_reducible apply GET.at); rfl) | ((with_reducible apply GETG.at); rfl) | ((with_reducible refine IF.mk (fun h => ?_) (fun h => ?_)) <;> (try simp (disch := omega) only [hsB, hsC, lnB, wrap64, wrap32, simprocAttr] at h) <;> try (exfalso; omega))) <;> conv => whnf)
  all_goals first
    | (refine FIN.value h0 rfl (congrArg (SV.int _) ?_)
       symm
       first
         | exact hend (by omega)
         | exact hstop (by simp_all))
    | (refine ⟨(i + (nextAt s i).2.toNat, (if (nextAt s i).1 = 46 then e else i + (nextAt s i).2.toNat), false), ⟨by simp only; omega, by simp only; split <;> omega, by simp only; split <;> omega, fun h => (by cases h), fun _ => hgo (by simp_all) (by simp_all) (by simp_all)⟩, by simp only; omega, ?_⟩
       conv => whnf
       first
         | rw [if_pos (show (nextAt s i).1 = 46 by assumption)]
         | rw [if_neg (show ¬ (nextAt s i).1 = 46 by assumption)]
       (refine GOES.cutting h0 rfl rfl rfl (by first | rfl | simp [belowO, belowH, plainLL_below, plainLL_map, plainL, plain]) ?_ ?_ <;> (repeat' (first | (with_reducible rfl) | (exact congrArg (fun n => SV.sl _ _ _ n _) (by simp)) | (exact congrArg (Hp.rows _) (by simp)) | (exact congrArg (SV.int _) (by first | omega | (simp (disch := omega) only [lnB, wrap64, wrap32] <;> omega) | (simp; done) | (simp <;> omega))) | ((conv => whnf); refine ⟨?_, ?_⟩) | exact trivial | (simp; done) | rfl))))
    | trace_state
theorem rletter_does (c : Int) (hc : 0 ≤ c ∧ c < 256) : Does Tryz.prog tab 115 0 [.int .u8 c] [] [] (Val (.bool (decide ((97 ≤ c ∧ c ≤ 122) ∨ (65 ≤ c ∧ c ≤ 90))))) := by
  refine Does.enter tabOK (g := 115) (fn := Tryz.f115) Tryz.call115 Tryz.func115 rfl 17 rfl rfl [.tmp 2] rfl ?_
  intro w0 F η0 h0
  conv => whnf
  repeat' ((first | with_reducible refine IF.tt ?_ | with_reducible refine IF.ff ?_ | ((with_reducible refine NEED.mk ?_ ?_); (first | with_reducible rfl | omega | (simp (disch := omega) only [lnB, wrap64, wrap32] <;> omega) | (intro h; (try simp (disch := omega) only [hsB, hsC, lnB, wrap64, wrap32, simprocAttr] at h); (first | omega | (simp (disch := omega) only [lnB, wrap64, wrap32] <;> omega))) | (exact needApp 256 rfl rfl (by simp) (by simp) (by omega)) | (simp <;> omega))) | ((with_reducible apply GET.at); rfl) | ((with_reducible apply GETG.at); rfl) | ((with_reducible refine IF.mk (fun h => ?_) (fun h => ?_)) <;> (try simp (disch := omega) only [hsB, hsC, lnB, wrap64, wrap32, simprocAttr] at h) <;> try (exfalso; omega))) <;> conv => whnf)
  refine FIN.value h0 rfl (congrArg SV.bool ?_)
  rw [Bool.eq_iff_iff]
  simp [Bool.cond_eq_ite]
def R7 (u : (Int × Int) ⊕ (List UInt8 × Int)) : SV := match u with
  | .inl e => .tup [.str [], .int .i64 0, .agg [.int .i64 e.1, .int .i64 e.2]]
  | .inr (t, n) => .tup [.str t, .int .i64 n, .agg [.int .i64 0, .int .i64 0]]
/-- The place of a bracket, from a place on. -/
def gtEnd (s : List UInt8) (j : Nat) : Nat := if Lib.indexByte (s.drop j) 62 < 0 then s.length else j + (Lib.indexByte (s.drop j) 62).toNat
theorem idx_cons (b c : UInt8) (l : List UInt8) : Lib.indexByte (b :: l) c = if b = c then 0 else if Lib.indexByte l c = -1 then -1 else Lib.indexByte l c + 1 := by
  conv => lhs; unfold Lib.indexByte
  simp
theorem gtEnd_end {s : List UInt8} {j : Nat} (h : s.length ≤ j) (hj : j ≤ s.length) : gtEnd s j = j := by
  unfold gtEnd
  rw [List.drop_eq_nil_of_le h, if_pos (by unfold Lib.indexByte; decide)]; omega
theorem gtEnd_at {s : List UInt8} {j : Nat} (h : j < s.length) (hb : byteAt s j = 62) : gtEnd s j = j := by
  have hc : s.getD j 0 = 62 := by
    have h1 : (byteAt s j).toNat = 62 := by rw [hb]; try rfl
    unfold byteAt at h1
    simp only [Int.toNat_natCast] at h1
    exact UInt8.toNat.inj h1
  unfold gtEnd
  rw [drop_cons h, hc, idx_cons, if_pos rfl]; rfl
theorem gtEnd_on {s : List UInt8} {j : Nat} (h : j < s.length) (hb : byteAt s j ≠ 62) : gtEnd s j = gtEnd s (j + 1) := by
  have hc : s.getD j 0 ≠ 62 := by
    intro h1
    apply hb
    unfold byteAt
    rw [Int.toNat_natCast, h1]; rfl
  have hg := Lib.indexByte_ge (s.drop (j + 1)) 62
  unfold gtEnd
  rw [drop_cons h, idx_cons, if_neg hc]
  by_cases h1 : Lib.indexByte (s.drop (j + 1)) 62 < 0
  · rw [if_pos (show Lib.indexByte (s.drop (j + 1)) 62 = -1 by omega), if_pos h1, if_pos (by decide)]
  · rw [if_neg (show ¬ Lib.indexByte (s.drop (j + 1)) 62 = -1 by omega), if_neg h1, if_neg (by omega)]; omega
theorem riri_does (s : List UInt8) (i : Nat) (hs : s.length ≤ 140737488351232) (hi : i ≤ s.length + 2) : Does Tryz.prog tab 44 0 [.str s, .int .i64 (i : Int)] [] [] (Val (R7 (if i < s.length ∧ byteAt s i = 60 then iriAt s i else .inl (i, 90)))) := by
  have hsm : Sm s := by omega
  have hw1 : IntKind.i64.wrap ((i : Int) + 1) = ((i + 1 : Nat) : Int) := by rw [wrap64 (by omega) (by omega)]; omega
  by_cases h60 : i < s.length ∧ byteAt s i = 60
  · rw [if_pos h60]
    have hg := Lib.indexByte_ge (s.drop (i + 1)) 62
    have hlt := idx_lt 62 (s.drop (i + 1))
    rw [List.length_drop] at hlt
    have hge : gtEnd s (i + 1) = if Lib.indexByte (s.drop (i + 1)) 62 < 0 then s.length else i + 1 + (Lib.indexByte (s.drop (i + 1)) 62).toNat := rfl
    refine Does.enter tabOK (g := 44) (fn := Tryz.f44) Tryz.call44 Tryz.func44 rfl 74 rfl rfl [.tmp 4, .tmp 5, .cell 6 43] rfl ?_
    intro w0 F η0 h0
    conv => whnf
    repeat' ((first | with_reducible refine IF.tt ?_ | with_reducible refine IF.ff ?_ | refine DRAWN.of (id := 10) tabOK mixed plNext40 (by kernel_rfl) ?_ | with_reducible refine ADD.mk (fun _ _ => ?_) | with_reducible refine NEED.mk (Det.of rfl) ?_ | with_reducible refine FORK.mk ?_ ?_ | ((with_reducible refine NEED.mk ?_ ?_); (first | with_reducible rfl | omega | (simp (disch := omega) only [lnB, wrap64, wrap32] <;> omega) | (intro h; (try simp (disch := omega) only [hsB, hsC, lnB, wrap64, wrap32, simprocAttr] at h); (first | omega | (simp (disch := omega) only [lnB, wrap64, wrap32] <;> omega))) | (exact needApp 256 rfl rfl (by simp) (by simp) (by omega)) | (simp <;> omega))) | ((with_reducible apply GET.at); rfl) | ((with_reducible apply GETG.at); rfl) | ((with_reducible refine IF.mk (fun h => ?_) (fun h => ?_)) <;> (try simp (disch := omega) only [hsB, hsC, lnB, wrap64, wrap32, simprocAttr] at h) <;> try (exfalso; omega))) <;> conv => whnf)
    rw [hw1]
    refine LOOP.go tabOK [0, 1, 6] (X := Nat) (fun x => i + 1 ≤ x ∧ x ≤ s.length ∧ gtEnd s (i + 1) = gtEnd s x) (fun x => [(7, .int .i64 (x : Int))]) (fun _ => [(0, .box [.int .i64 0, .int .i64 0])]) 1 (fun x => s.length - x) (i + 1) ⟨by omega, by omega, rfl⟩ ?_
    conv => whnf
    refine ⟨by (refine GOES.cutting h0 rfl rfl rfl (by first | rfl | simp [belowO, belowH, plainLL_below, plainLL_map, plainL, plain]) ?_ ?_ <;> (repeat' (first | (with_reducible rfl) | (exact congrArg (fun n => SV.sl _ _ _ n _) (by simp)) | (exact congrArg (Hp.rows _) (by simp)) | (exact congrArg (SV.int _) (by first | omega | (simp (disch := omega) only [lnB, wrap64, wrap32] <;> omega) | (simp; done) | (simp <;> omega))) | ((conv => whnf); refine ⟨?_, ?_⟩) | exact trivial | (simp; done) | rfl))), ?_⟩
    rintro j ⟨hij, hj, hc⟩
    dsimp only at hj hc ⊢
    conv => whnf
    repeat' ((first | with_reducible refine IF.tt ?_ | with_reducible refine IF.ff ?_ | refine DRAWN.of (id := 10) tabOK mixed plNext40 (by kernel_rfl) ?_ | with_reducible refine ADD.mk (fun _ _ => ?_) | with_reducible refine NEED.mk (Det.of rfl) ?_ | with_reducible refine FORK.mk ?_ ?_ | ((with_reducible refine NEED.mk ?_ ?_); (first | with_reducible rfl | omega | (simp (disch := omega) only [lnB, wrap64, wrap32] <;> omega) | (intro h; (try simp (disch := omega) only [hsB, hsC, lnB, wrap64, wrap32, simprocAttr] at h); (first | omega | (simp (disch := omega) only [lnB, wrap64, wrap32] <;> omega))) | (exact needApp 256 rfl rfl (by simp) (by simp) (by omega)) | (simp <;> omega))) | ((with_reducible apply GET.at); rfl) | ((with_reducible apply GETG.at); rfl) | ((with_reducible refine IF.mk (fun h => ?_) (fun h => ?_)) <;> (try simp (disch := omega) only [hsB, hsC, lnB, wrap64, wrap32, simprocAttr] at h) <;> try (exfalso; omega))) <;> conv => whnf)
    · refine ⟨j + 1, ⟨by omega, by omega, by rw [hc, gtEnd_on (by omega) h.2]⟩, by omega, ?_⟩
      conv => whnf
      (refine GOES.cutting h0 rfl rfl rfl (by first | rfl | simp [belowO, belowH, plainLL_below, plainLL_map, plainL, plain]) ?_ ?_ <;> (repeat' (first | (with_reducible rfl) | (exact congrArg (fun n => SV.sl _ _ _ n _) (by simp)) | (exact congrArg (Hp.rows _) (by simp)) | (exact congrArg (SV.int _) (by first | omega | (simp (disch := omega) only [lnB, wrap64, wrap32] <;> omega) | (simp; done) | (simp <;> omega))) | ((conv => whnf); refine ⟨?_, ?_⟩) | exact trivial | (simp; done) | rfl)))
    · have hje : gtEnd s j = j := gtEnd_end (by omega) hj
      have hI : iriAt s i = .inl (s.length, 90) := by
        have h9 : Lib.indexByte (s.drop (i + 1)) 62 < 0 := by
          rcases Int.lt_or_le (Lib.indexByte (s.drop (i + 1)) 62) 0 with h9 | h9
          · exact h9
          · rw [if_neg (by omega), hc, hje] at hge; omega
        unfold iriAt; rw [if_pos h9]
      rw [hI, show (j : Int) = s.length by omega]
      exact FIN.value h0 rfl rfl
    · have hjl : j < s.length := by omega
      have hb : byteAt s j = 62 := by
        have : (j : Int) < s.length → byteAt s j = 62 := by assumption
        exact this (by omega)
      have hje : gtEnd s j = j := gtEnd_at hjl hb
      have hx : 0 ≤ Lib.indexByte (s.drop (i + 1)) 62 ∧ (Lib.indexByte (s.drop (i + 1)) 62).toNat = j - (i + 1) := by
        rcases Int.lt_or_le (Lib.indexByte (s.drop (i + 1)) 62) 0 with h9 | h9
        · rw [if_pos h9, hc, hje] at hge; omega
        · rw [if_neg (by omega), hc, hje] at hge; exact ⟨h9, by omega⟩
      have hI : iriAt s i = (match unescM 2 ((s.drop (i + 1)).take (j - (i + 1))) 0 with
          | .inl e => .inl (i + 1 + e.1, e.2)
          | .inr t => if iriM t ≠ 0 then .inl (i, iriM t) else .inr (t, (j : Int) + 1)) := by
        unfold iriAt
        rw [if_neg (by omega), hx.2]
        rw [show (i : Int) + 1 + Lib.indexByte (s.drop (i + 1)) 62 + 1 = (j : Int) + 1 by omega]; try rfl
      have hcut : List.take (((j : Nat) : Int).toNat - ((i + 1 : Nat) : Int).toNat) (List.drop ((i + 1 : Nat) : Int).toNat s) = (s.drop (i + 1)).take (j - (i + 1)) := by
        rw [show ((j : Nat) : Int).toNat = j by omega, show ((i + 1 : Nat) : Int).toNat = i + 1 by omega]
      have htl : ((s.drop (i + 1)).take (j - (i + 1))).length = j - (i + 1) := by simp; omega
      have hu := r4unescape_does ((s.drop (i + 1)).take (j - (i + 1))) 2 (by omega)
      have hup := unesc_place 2 ((s.drop (i + 1)).take (j - (i + 1))) 0
      have hul := unesc_len 2 ((s.drop (i + 1)).take (j - (i + 1))) 0
      rw [hw1, hcut]
      cases hR : unescM 2 ((s.drop (i + 1)).take (j - (i + 1))) 0 with
      | inl e =>
        rw [hR] at hu hI
        have he := hup e hR
        have hcd := unesc_code _ _ _ _ hR
        refine CALL.value hu rfl rfl ?_
        conv => whnf
        repeat' ((first | with_reducible refine IF.tt ?_ | with_reducible refine IF.ff ?_ | refine DRAWN.of (id := 10) tabOK mixed plNext40 (by kernel_rfl) ?_ | with_reducible refine ADD.mk (fun _ _ => ?_) | with_reducible refine NEED.mk (Det.of rfl) ?_ | with_reducible refine FORK.mk ?_ ?_ | ((with_reducible refine NEED.mk ?_ ?_); (first | with_reducible rfl | omega | (simp (disch := omega) only [lnB, wrap64, wrap32] <;> omega) | (intro h; (try simp (disch := omega) only [hsB, hsC, lnB, wrap64, wrap32, simprocAttr] at h); (first | omega | (simp (disch := omega) only [lnB, wrap64, wrap32] <;> omega))) | (exact needApp 256 rfl rfl (by simp) (by simp) (by omega)) | (simp <;> omega))) | ((with_reducible apply GET.at); rfl) | ((with_reducible apply GETG.at); rfl) | ((with_reducible refine IF.mk (fun h => ?_) (fun h => ?_)) <;> (try simp (disch := omega) only [hsB, hsC, lnB, wrap64, wrap32, simprocAttr] at h) <;> try (exfalso; omega))) <;> conv => whnf)
        · have hw3 : IntKind.i64.wrap (((i + 1 : Nat) : Int) + e.1) = (i : Int) + 1 + e.1 := by rw [wrap64 (by omega) (by omega)]; omega
          rw [hw1, hw3, hI]
          exact FIN.value h0 rfl rfl
      | inr t =>
        rw [hR] at hu hI
        have ht := hul t hR
        refine CALL.value hu rfl rfl ?_
        conv => whnf
        repeat' ((first | with_reducible refine IF.tt ?_ | with_reducible refine IF.ff ?_ | refine DRAWN.of (id := 10) tabOK mixed plNext40 (by kernel_rfl) ?_ | with_reducible refine ADD.mk (fun _ _ => ?_) | with_reducible refine NEED.mk (Det.of rfl) ?_ | with_reducible refine FORK.mk ?_ ?_ | refine CALL.value (ref05Check_does t (by omega)) rfl rfl ?_ | ((with_reducible refine NEED.mk ?_ ?_); (first | with_reducible rfl | omega | (simp (disch := omega) only [lnB, wrap64, wrap32] <;> omega) | (intro h; (try simp (disch := omega) only [hsB, hsC, lnB, wrap64, wrap32, simprocAttr] at h); (first | omega | (simp (disch := omega) only [lnB, wrap64, wrap32] <;> omega))) | (exact needApp 256 rfl rfl (by simp) (by simp) (by omega)) | (simp <;> omega))) | ((with_reducible apply GET.at); rfl) | ((with_reducible apply GETG.at); rfl) | ((with_reducible refine IF.mk (fun h => ?_) (fun h => ?_)) <;> (try simp (disch := omega) only [hsB, hsC, lnB, wrap64, wrap32, simprocAttr] at h) <;> try (exfalso; omega))) <;> conv => whnf)
        · have hI : iriAt s i = .inl (i, iriM t) := by rw [hI]; simp only; rw [if_pos h]
          rw [hI]
          exact FIN.value h0 rfl rfl
        · have hI : iriAt s i = .inr (t, (j : Int) + 1) := by rw [hI]; simp only; rw [if_neg (by simpa using h)]
          rw [hI, wrap64 (by omega) (by omega)]
          exact FIN.value h0 rfl rfl
  · rw [if_neg h60]
    refine Does.enter tabOK (g := 44) (fn := Tryz.f44) Tryz.call44 Tryz.func44 rfl 74 rfl rfl [.tmp 4, .tmp 5, .cell 6 43] rfl ?_
    intro w0 F η0 h0
    conv => whnf
    repeat' ((first | with_reducible refine IF.tt ?_ | with_reducible refine IF.ff ?_ | refine DRAWN.of (id := 10) tabOK mixed plNext40 (by kernel_rfl) ?_ | with_reducible refine ADD.mk (fun _ _ => ?_) | with_reducible refine NEED.mk (Det.of rfl) ?_ | with_reducible refine FORK.mk ?_ ?_ | ((with_reducible refine NEED.mk ?_ ?_); (first | with_reducible rfl | omega | (simp (disch := omega) only [lnB, wrap64, wrap32] <;> omega) | (intro h; (try simp (disch := omega) only [hsB, hsC, lnB, wrap64, wrap32, simprocAttr] at h); (first | omega | (simp (disch := omega) only [lnB, wrap64, wrap32] <;> omega))) | (exact needApp 256 rfl rfl (by simp) (by simp) (by omega)) | (simp <;> omega))) | ((with_reducible apply GET.at); rfl) | ((with_reducible apply GETG.at); rfl) | ((with_reducible refine IF.mk (fun h => ?_) (fun h => ?_)) <;> (try simp (disch := omega) only [hsB, hsC, lnB, wrap64, wrap32, simprocAttr] at h) <;> try (exfalso; omega))) <;> conv => whnf)
    exact FIN.value h0 rfl rfl
theorem rquoted_does (s : List UInt8) (i : Nat) (hs : s.length ≤ 140737488351232) (hi : i < s.length) : Does Tryz.prog tab 78 0 [.str s, .int .i64 (i : Int)] [] [] (Val (match quotM s (i + 1) false with
    | .inl e => .tup [.int .i64 0, .agg [.int .i64 e, .int .i64 90]]
    | .inr e => .tup [.int .i64 e, .agg [.int .i64 0, .int .i64 0]])) := by
  have hw1 : IntKind.i64.wrap ((i : Int) + 1) = ((i + 1 : Nat) : Int) := by rw [wrap64 (by omega) (by omega)]; omega
  refine Does.enter tabOK (g := 78) (fn := Tryz.f78) Tryz.call78 Tryz.func78 rfl 63 rfl rfl [.tmp 4, .cell 5 43] rfl ?_
  intro w0 F η0 h0
  conv => whnf
  rw [hw1]
  refine LOOP.go tabOK [0, 5] (X := Nat) (fun x => x ≤ s.length ∧ quotM s (i + 1) false = quotM s x false) (fun x => [(6, .int .i64 (x : Int))]) (fun _ => [(0, .box [.int .i64 0, .int .i64 0])]) 1 (fun x => s.length - x) (i + 1) ⟨by omega, rfl⟩ ?_
  conv => whnf
  refine ⟨by (refine GOES.cutting h0 rfl rfl rfl (by first | rfl | simp [belowO, belowH, plainLL_below, plainLL_map, plainL, plain]) ?_ ?_ <;> (repeat' (first | (with_reducible rfl) | (exact congrArg (fun n => SV.sl _ _ _ n _) (by simp)) | (exact congrArg (Hp.rows _) (by simp)) | (exact congrArg (SV.int _) (by first | omega | (simp (disch := omega) only [lnB, wrap64, wrap32] <;> omega) | (simp; done) | (simp <;> omega))) | ((conv => whnf); refine ⟨?_, ?_⟩) | exact trivial | (simp; done) | rfl))), ?_⟩
  rintro j ⟨hj, hc⟩
  dsimp only at hj hc ⊢
  conv => whnf
  have hj1 : ((j + 1 : Nat) : Int) = (j : Int) + 1 := by omega
  repeat' ((first | with_reducible refine IF.tt ?_ | with_reducible refine IF.ff ?_ | with_reducible refine ADD.mk (fun _ _ => ?_) | with_reducible refine NEED.mk (Det.of rfl) ?_ | with_reducible refine FORK.mk ?_ ?_ | ((with_reducible refine NEED.mk ?_ ?_); (first | with_reducible rfl | omega | (simp (disch := omega) only [lnB, wrap64, wrap32] <;> omega) | (intro h; (try simp (disch := omega) only [hsB, hsC, lnB, wrap64, wrap32, simprocAttr] at h); (first | omega | (simp (disch := omega) only [lnB, wrap64, wrap32] <;> omega))) | (exact needApp 256 rfl rfl (by simp) (by simp) (by omega)) | (simp <;> omega))) | ((with_reducible apply GET.at); rfl) | ((with_reducible apply GETG.at); rfl) | ((with_reducible refine IF.mk (fun h => ?_) (fun h => ?_)) <;> (try simp (disch := omega) only [hsB, hsC, lnB, wrap64, wrap32, simprocAttr] at h) <;> try (exfalso; omega))) <;> conv => whnf)
  · have e : quotM s j false = quotM s (j + 2) false := by rw [quot_bs (by omega) h.1.1.1, quot_sl (by omega) (by rw [hj1]; omega)]
    refine ⟨j + 2, ⟨by omega, by rw [hc, e]⟩, by omega, ?_⟩
    conv => whnf
    (refine GOES.cutting h0 rfl rfl rfl (by first | rfl | simp [belowO, belowH, plainLL_below, plainLL_map, plainL, plain]) ?_ ?_ <;> (repeat' (first | (with_reducible rfl) | (exact congrArg (fun n => SV.sl _ _ _ n _) (by simp)) | (exact congrArg (Hp.rows _) (by simp)) | (exact congrArg (SV.int _) (by first | omega | (simp (disch := omega) only [lnB, wrap64, wrap32] <;> omega) | (simp; done) | (simp <;> omega))) | ((conv => whnf); refine ⟨?_, ?_⟩) | exact trivial | (simp; done) | rfl)))
  · replace hc := hc.trans (quot_nl (i := j) (by omega) h)
    rw [hc]
    exact FIN.value h0 rfl rfl
  · replace hc := hc.trans (quot_q (i := j) (by omega) h)
    rw [hc]
    exact FIN.value h0 rfl rfl
  · refine ⟨j + 1, ⟨by omega, ?_⟩, by omega, ?_⟩
    · rw [hc]
      refine quot_go (by omega) (by omega) (by omega) (fun h9 h8 => ?_)
      rw [hj1]; omega
    · conv => whnf
      (refine GOES.cutting h0 rfl rfl rfl (by first | rfl | simp [belowO, belowH, plainLL_below, plainLL_map, plainL, plain]) ?_ ?_ <;> (repeat' (first | (with_reducible rfl) | (exact congrArg (fun n => SV.sl _ _ _ n _) (by simp)) | (exact congrArg (Hp.rows _) (by simp)) | (exact congrArg (SV.int _) (by first | omega | (simp (disch := omega) only [lnB, wrap64, wrap32] <;> omega) | (simp; done) | (simp <;> omega))) | ((conv => whnf); refine ⟨?_, ?_⟩) | exact trivial | (simp; done) | rfl)))
  · replace hc := hc.trans (quot_end (i := j) (by omega))
    rw [hc]
    exact FIN.value h0 rfl rfl
theorem rtag_does (s : List UInt8) (i : Nat) (hs : s.length ≤ 140737488351232) (hi : i < s.length) : Does Tryz.prog tab 79 0 [.str s, .int .i64 (i : Int)] [] [] (Val (R7 (tagAt s i))) := by
  have hsm : Sm s := by omega
  have hw1 : IntKind.i64.wrap ((i : Int) + 1) = ((i + 1 : Nat) : Int) := by rw [wrap64 (by omega) (by omega)]; omega
  refine Does.enter tabOK (g := 79) (fn := Tryz.f79) Tryz.call79 Tryz.func79 rfl 101 rfl rfl [.tmp 4, .tmp 5, .cell 6 43] rfl ?_
  intro w0 F η0 h0
  conv => whnf
  rw [hw1]
  refine LOOP.go tabOK [0, 1, 6] (X := Nat) (fun x => i + 1 ≤ x ∧ x ≤ s.length ∧ langEnd s (i + 1) = langEnd s x) (fun x => [(7, .int .i64 (x : Int))]) (fun _ => [(0, .box [.int .i64 0, .int .i64 0])]) 1 (fun x => s.length - x) (i + 1) ⟨by omega, by omega, rfl⟩ ?_
  conv => whnf
  refine ⟨by (refine GOES.cutting h0 rfl rfl rfl (by first | rfl | simp [belowO, belowH, plainLL_below, plainLL_map, plainL, plain]) ?_ ?_ <;> (repeat' (first | (with_reducible rfl) | (exact congrArg (fun n => SV.sl _ _ _ n _) (by simp)) | (exact congrArg (Hp.rows _) (by simp)) | (exact congrArg (SV.int _) (by first | omega | (simp (disch := omega) only [lnB, wrap64, wrap32] <;> omega) | (simp; done) | (simp <;> omega))) | ((conv => whnf); refine ⟨?_, ?_⟩) | exact trivial | (simp; done) | rfl))), ?_⟩
  rintro j ⟨hij, hj, hc⟩
  dsimp only at hj hc ⊢
  have hb := byteAt_lt s j
  have hlb : langB (byteAt s j) ↔ (byteAt s j = 45 ∨ (48 ≤ byteAt s j ∧ byteAt s j ≤ 57) ∨ (97 ≤ byteAt s j ∧ byteAt s j ≤ 122) ∨ (65 ≤ byteAt s j ∧ byteAt s j ≤ 90)) := Iff.rfl
  have htl : ((s.drop (i + 1)).take (j - (i + 1))).length = j - (i + 1) := by simp; omega
  have hcut : List.take (((j : Nat) : Int).toNat - ((i + 1 : Nat) : Int).toNat) (List.drop ((i + 1 : Nat) : Int).toNat s) = (s.drop (i + 1)).take (j - (i + 1)) := by
    rw [show ((j : Nat) : Int).toNat = j by omega, show ((i + 1 : Nat) : Int).toNat = i + 1 by omega]
  conv => whnf
  have htd := tag6_does ((s.drop (i + 1)).take (j - (i + 1)))
  generalize hu : (s.drop (i + 1)).take (j - (i + 1)) = u at *
  repeat' ((first | with_reducible refine IF.tt ?_ | with_reducible refine IF.ff ?_ | with_reducible refine ADD.mk (fun _ _ => ?_) | with_reducible refine NEED.mk (Det.of rfl) ?_ | with_reducible refine FORK.mk ?_ ?_ | refine CALL.value (rletter_does _ (byteAt_lt s _)) rfl rfl ?_ | ((with_reducible refine NEED.mk ?_ ?_); (first | with_reducible rfl | omega | (simp (disch := omega) only [lnB, wrap64, wrap32] <;> omega) | (intro h; (try simp (disch := omega) only [hsB, hsC, lnB, wrap64, wrap32, simprocAttr] at h); (first | omega | (simp (disch := omega) only [lnB, wrap64, wrap32] <;> omega))) | (exact needApp 256 rfl rfl (by simp) (by simp) (by omega)) | (simp <;> omega))) | ((with_reducible apply GET.at); rfl) | ((with_reducible apply GETG.at); rfl) | ((with_reducible refine IF.mk (fun h => ?_) (fun h => ?_)) <;> (try simp (disch := omega) only [hsB, hsC, lnB, wrap64, wrap32, simprocAttr] at h) <;> try (exfalso; omega))) <;> conv => whnf)
  all_goals first
    | (refine ⟨j + 1, ⟨by omega, by omega, ?_⟩, by omega, ?_⟩
       · rw [hc, langEnd_step (by omega) (hlb.2 (by omega))]
       · conv => whnf
         (refine GOES.cutting h0 rfl rfl rfl (by first | rfl | simp [belowO, belowH, plainLL_below, plainLL_map, plainL, plain]) ?_ ?_ <;> (repeat' (first | (with_reducible rfl) | (exact congrArg (fun n => SV.sl _ _ _ n _) (by simp)) | (exact congrArg (Hp.rows _) (by simp)) | (exact congrArg (SV.int _) (by first | omega | (simp (disch := omega) only [lnB, wrap64, wrap32] <;> omega) | (simp; done) | (simp <;> omega))) | ((conv => whnf); refine ⟨?_, ?_⟩) | exact trivial | (simp; done) | rfl))))
    | (have hle : langEnd s (i + 1) = j := by rw [hc, langEnd_stop (fun hh => by have := hlb.1 hh.2; omega)]
       have hT : tagAt s i = .inl (i, 2) := by unfold tagAt; rw [hle, if_pos (by omega)]
       rw [hT]
       exact FIN.value h0 rfl rfl)
    | skip
  all_goals
    have hle : langEnd s (i + 1) = j := by rw [hc, langEnd_stop (fun hh => by have := hlb.1 hh.2; omega)]
    have hsmall : j - (i + 1) ≤ 65536 := by omega
    have htd := htd (by omega)
    rw [hw1, hcut]
    rcases Bool.eq_false_or_eq_true (tagP (splitM u)) with hp | hp
    · rw [if_pos hp] at htd
      have hT : tagAt s i = .inr (lowerM u, (j : Int)) := by unfold tagAt; rw [hle, hu, if_neg (by omega), if_pos hp]
      refine CALL.value htd rfl rfl ?_
      conv => whnf
      repeat' ((first | with_reducible refine IF.tt ?_ | with_reducible refine IF.ff ?_ | with_reducible refine ADD.mk (fun _ _ => ?_) | with_reducible refine NEED.mk (Det.of rfl) ?_ | with_reducible refine FORK.mk ?_ ?_ | ((with_reducible refine NEED.mk ?_ ?_); (first | with_reducible rfl | omega | (simp (disch := omega) only [lnB, wrap64, wrap32] <;> omega) | (intro h; (try simp (disch := omega) only [hsB, hsC, lnB, wrap64, wrap32, simprocAttr] at h); (first | omega | (simp (disch := omega) only [lnB, wrap64, wrap32] <;> omega))) | (exact needApp 256 rfl rfl (by simp) (by simp) (by omega)) | (simp <;> omega))) | ((with_reducible apply GET.at); rfl) | ((with_reducible apply GETG.at); rfl) | ((with_reducible refine IF.mk (fun h => ?_) (fun h => ?_)) <;> (try simp (disch := omega) only [hsB, hsC, lnB, wrap64, wrap32, simprocAttr] at h) <;> try (exfalso; omega))) <;> conv => whnf)
      rw [hw1, hcut]
      refine LOOP.go tabOK [6, 7, 10] (X := Nat) (fun x => x ≤ u.length) (fun x => [(11, .int .i64 (x : Int))]) (fun x => [(0, .box [.int .i64 0, .int .i64 0]), (2, .rows 1 ((curL u x).map Sx.bytesRow))]) 3 (fun x => u.length - x) 0 (by omega) ?_
      conv => whnf
      refine ⟨by (refine GOES.cutting h0 rfl rfl rfl (by first | rfl | (simp only [belowO, belowH, plainLL_below _ (plainBytes _), Bool.and_self, Bool.and_true] <;> rfl)) ?_ ?_ <;> (repeat' (first | (with_reducible rfl) | (exact congrArg (SV.int _) (by first | omega | (simp (disch := omega) only [lnB, wrap64, wrap32] <;> omega) | (simp; done) | (simp <;> omega))) | (exact congrArg (Hp.rows _) (by rw [curL_zero])) | ((conv => whnf); refine ⟨?_, ?_⟩) | exact trivial | rfl))), ?_⟩
      intro x hx
      have hlen := curL_len u x
      have hbx := byteAt_lt u x
      conv => whnf
      rcases Nat.lt_or_ge x u.length with hxl | hxl
      · have hgb : byteAt u x = (u[x].toNat : Int) := by unfold byteAt; rw [Int.toNat_natCast, List.getD_eq_getElem?_getD, List.getElem?_eq_getElem hxl]; try rfl
        repeat' ((first | with_reducible refine IF.tt ?_ | with_reducible refine IF.ff ?_ | (refine GET.at (row := Sx.bytesRow (u[x]'(by omega))) (by rw [show 0 + (x : Int).toNat = x by omega]; exact rowL_get (by omega)) ?_; conv => whnf) | (refine GETG.at (row := Sx.bytesRow (u[x]'(by omega))) (by rw [show 0 + (x : Int).toNat = x by omega]; exact rowL_get (by omega)) ?_; conv => whnf) | ((with_reducible refine NEED.mk ?_ ?_); (first | with_reducible rfl | omega | (simp (disch := omega) only [lnB, wrap64, wrap32] <;> omega) | (intro h; (try simp (disch := omega) only [hsB, hsC, lnB, wrap64, wrap32, simprocAttr] at h); (first | omega | (simp (disch := omega) only [lnB, wrap64, wrap32] <;> omega))) | (exact needApp 256 rfl rfl (by simp) (by simp) (by omega)) | (simp <;> omega))) | ((with_reducible apply GET.at); rfl) | ((with_reducible apply GETG.at); rfl) | ((with_reducible refine IF.mk (fun h => ?_) (fun h => ?_)) <;> (try simp (disch := omega) only [hsB, hsC, lnB, wrap64, wrap32, simprocAttr] at h) <;> try (exfalso; omega))) <;> conv => whnf)
        · refine ⟨x + 1, by omega, by omega, ?_⟩
          conv => whnf
          (refine GOES.cutting h0 rfl rfl rfl (by first | rfl | (simp only [belowO, belowH, plainLL_below _ (plainBytes _), Bool.and_self, Bool.and_true] <;> rfl)) ?_ ?_ <;> (repeat' (first | (with_reducible rfl) | (exact congrArg (SV.int _) (by first | omega | (simp (disch := omega) only [lnB, wrap64, wrap32] <;> omega) | (simp; done) | (simp <;> omega))) | (exact congrArg (Hp.rows _) (by rw [lowB_up (by omega), show 0 + (x : Int).toNat = x by omega, rowL_set hxl])) | ((conv => whnf); refine ⟨?_, ?_⟩) | exact trivial | rfl)))
        · refine ⟨x + 1, by omega, by omega, ?_⟩
          conv => whnf
          (refine GOES.cutting h0 rfl rfl rfl (by first | rfl | (simp only [belowO, belowH, plainLL_below _ (plainBytes _), Bool.and_self, Bool.and_true] <;> rfl)) ?_ ?_ <;> (repeat' (first | (with_reducible rfl) | (exact congrArg (SV.int _) (by first | omega | (simp (disch := omega) only [lnB, wrap64, wrap32] <;> omega) | (simp; done) | (simp <;> omega))) | (exact congrArg (Hp.rows _) (by rw [curL_same hxl (lowB_id (by omega))])) | ((conv => whnf); refine ⟨?_, ?_⟩) | exact trivial | rfl)))
      · repeat' ((first | with_reducible refine IF.tt ?_ | with_reducible refine IF.ff ?_ | ((with_reducible refine NEED.mk ?_ ?_); (first | with_reducible rfl | omega | (simp (disch := omega) only [lnB, wrap64, wrap32] <;> omega) | (intro h; (try simp (disch := omega) only [hsB, hsC, lnB, wrap64, wrap32, simprocAttr] at h); (first | omega | (simp (disch := omega) only [lnB, wrap64, wrap32] <;> omega))) | (exact needApp 256 rfl rfl (by simp) (by simp) (by omega)) | (simp <;> omega))) | ((with_reducible apply GET.at); rfl) | ((with_reducible apply GETG.at); rfl) | ((with_reducible refine IF.mk (fun h => ?_) (fun h => ?_)) <;> (try simp (disch := omega) only [hsB, hsC, lnB, wrap64, wrap32, simprocAttr] at h) <;> try (exfalso; omega))) <;> conv => whnf)
        refine NEED.mk (needText (by omega)) ?_
        conv => whnf
        rw [hT]
        refine FIN.value h0 rfl ?_
        have := textAll (curL u x)
        rw [hlen] at this
        rw [this, curL_all (by omega)]
        rfl
    · rw [if_neg (by simp [hp])] at htd
      have hT : tagAt s i = .inl (i + 1, 61) := by unfold tagAt; rw [hle, hu, if_neg (by omega), if_neg (by simp [hp])]
      refine CALL.value htd rfl rfl ?_
      conv => whnf
      repeat' ((first | with_reducible refine IF.tt ?_ | with_reducible refine IF.ff ?_ | with_reducible refine ADD.mk (fun _ _ => ?_) | with_reducible refine NEED.mk (Det.of rfl) ?_ | with_reducible refine FORK.mk ?_ ?_ | ((with_reducible refine NEED.mk ?_ ?_); (first | with_reducible rfl | omega | (simp (disch := omega) only [lnB, wrap64, wrap32] <;> omega) | (intro h; (try simp (disch := omega) only [hsB, hsC, lnB, wrap64, wrap32, simprocAttr] at h); (first | omega | (simp (disch := omega) only [lnB, wrap64, wrap32] <;> omega))) | (exact needApp 256 rfl rfl (by simp) (by simp) (by omega)) | (simp <;> omega))) | ((with_reducible apply GET.at); rfl) | ((with_reducible apply GETG.at); rfl) | ((with_reducible refine IF.mk (fun h => ?_) (fun h => ?_)) <;> (try simp (disch := omega) only [hsB, hsC, lnB, wrap64, wrap32, simprocAttr] at h) <;> try (exfalso; omega))) <;> conv => whnf)
      rw [hT]
      have hi1 : ((i + 1 : Nat) : Int) = (i : Int) + 1 := by omega
      try rw [hw1]
      try rw [hi1]
      exact FIN.value h0 rfl rfl
end Go.Proofs.YtpffclpheldabaaGreatDoor
