/- Part 4 of the texts that the last one leans on: Utf04, StrLib, Iri, Iri2, Names1, Part1, Split1, Tag1, Tag2, Tag3, Tag4, Term1, Names2, Part2, Tag5, Tag6. Conditions: as each part says. -/
import Derived.Lib.Bytealg
import Derived.Test.YtjbbkimodgffiaaGreatDoorInH3
/- The reference's utf, walked. Conditions: none. -/
set_option linter.unusedVariables false
set_option linter.unusedSimpArgs false
set_option maxRecDepth 20000
set_option maxHeartbeats 8000000
namespace Go.Proofs.YtjbbkimodgffiaaGreatDoor
open Go.Sx Go.Our
def plUtf040 : Plan := (planOf [(0, 1), (1, 1), (4, 1), (5, 1), (6, 1), (2, 2), (3, 1), (7, 2), (8, 1), (9, 1)])
def plUtf041 : Plan := (planOf [(0, 1), (1, 1), (2, 1), (3, 1), (6, 1), (7, 2), (4, 3), (5, 2), (8, 1), (9, 1)])
theorem ref04Scalar_does (r : Int) : Does Tryz.prog tab 213 0 [.int .i64 r] [] [] (Val (.bool (scalarM r))) := by
  refine Does.enter tabOK (g := 213) (fn := Tryz.f213) Tryz.call213 Tryz.func213 rfl 17 rfl rfl [.tmp 2] rfl ?_
  intro w0 F η0 h0
  conv => whnf
  repeat' ((first | refine AU ?_ | ((with_reducible refine IF.mk (fun h => ?_) (fun h => ?_)) <;> (try simp (disch := omega) only [hsB, hsC, lnB, wrap64, wrap32, simprocAttr] at h) <;> try (exfalso; omega))) <;> conv => whnf)
  refine FIN.value h0 rfl (congrArg SV.bool ?_)
  rw [Bool.eq_iff_iff, scalarM_true]
  simp only [Bool.cond_eq_ite, decide_eq_true_eq, Bool.if_false_right, Bool.if_true_left, Bool.and_eq_true, Bool.or_eq_true]
  omega
theorem ref04Bytes_does (r : Int) (hr : 0 ≤ r ∧ r ≤ 1114111) : Does Tryz.prog tab 214 0 [.int .i64 r] [] [] (NewBytes 0 (encM r)) := by
  refine Does.enter tabOK (g := 214) (fn := Tryz.f214) Tryz.call214 Tryz.func214 rfl 57 rfl rfl [.tmp 2] rfl ?_
  intro w0 F η0 h0
  conv => whnf
  repeat' ((first | refine AU ?_ | ((with_reducible refine IF.mk (fun h => ?_) (fun h => ?_)) <;> (try simp (disch := omega) only [hsB, hsC, lnB, wrap64, wrap32, simprocAttr] at h) <;> try (exfalso; omega))) <;> conv => whnf)
  all_goals
    refine FIN.rows h0 0 1 _ rfl rfl rfl rfl ?_
    unfold encM Go.Our.encI
    simp (disch := omega) only [↓if_pos, ↓if_neg, List.map_cons, List.map_nil, wrapu8, wrap64, tdivp, tmodp]
    refine ⟨rfl, ?_, rfl⟩
    simp (disch := omega) only [List.map_cons, List.map_nil, ← bytesRow_of]
theorem guess1_does (a : UInt8) : Does Tryz.prog tab 188 1 [.sl (.loc 0) 0 1 1 none] [] [(0, .rows 1 ([a].map Sx.bytesRow))] (ValK 1 (.int .i64 (guessM [a]))) := by
  have ha := a.toNat_lt
  refine Does.enter tabOK (g := 188) (fn := Tryz.f188) Tryz.call188 Tryz.func188 rfl 45 rfl rfl [.tmp 2] rfl ?_
  intro w0 F η0 h0
  conv => whnf
  repeat' ((first | refine DRAWN.of (id := 2) tabOK mixed plUtf040 (by kernel_rfl) ?_ | refine DRAWN.of (id := 8) tabOK mixed plUtf041 (by kernel_rfl) ?_ | with_reducible refine ADD.mk (fun _ _ => ?_) | with_reducible refine NEED.mk (Det.of rfl) ?_ | refine NEED.mk (det_pos (by omega)) ?_ | with_reducible refine FORK.mk ?_ ?_ | refine CALL.value (ref04Scalar_does _) rfl rfl ?_ | (refine LOOP.once tabOK ?_; conv => whnf) | (refine CALL.bytes (ref04Bytes_does _ (by simp (disch := omega) only [scalarM_true, wrap64, Int.sub_zero] at *; omega)) rfl ?_; conv => whnf) | (refine NEED.mk (needText (by simp)) ?_; conv => whnf) | refine AU ?_ | ((with_reducible refine IF.mk (fun h => ?_) (fun h => ?_)) <;> (try simp (disch := omega) only [hsB, hsC, lnB, wrap64, wrap32, simprocAttr] at h) <;> try (exfalso; omega))) <;> conv => whnf)
  all_goals
    refine FIN.valueK h0 rfl (congrArg (SV.int _) ?_)
    simp (disch := omega) only [wrap64, Int.sub_zero, List.drop_zero, ← List.map_take, unrow, List.take_length, List.take_succ_cons, List.take_zero, scalarM, decide_eq_true_eq, decide_eq_false_iff_not] at *
    simp_all [guessM, rawM, bn]
theorem guess2_does (a b : UInt8) : Does Tryz.prog tab 188 1 [.sl (.loc 0) 0 1 2 none] [] [(0, .rows 1 ([a, b].map Sx.bytesRow))] (ValK 1 (.int .i64 (guessM [a, b]))) := by
  have ha := a.toNat_lt; have hb := b.toNat_lt
  refine Does.enter tabOK (g := 188) (fn := Tryz.f188) Tryz.call188 Tryz.func188 rfl 45 rfl rfl [.tmp 2] rfl ?_
  intro w0 F η0 h0
  conv => whnf
  repeat' ((first | refine DRAWN.of (id := 2) tabOK mixed plUtf040 (by kernel_rfl) ?_ | refine DRAWN.of (id := 8) tabOK mixed plUtf041 (by kernel_rfl) ?_ | with_reducible refine ADD.mk (fun _ _ => ?_) | with_reducible refine NEED.mk (Det.of rfl) ?_ | refine NEED.mk (det_pos (by omega)) ?_ | with_reducible refine FORK.mk ?_ ?_ | refine CALL.value (ref04Scalar_does _) rfl rfl ?_ | (refine LOOP.once tabOK ?_; conv => whnf) | (refine CALL.bytes (ref04Bytes_does _ (by simp (disch := omega) only [scalarM_true, wrap64, Int.sub_zero] at *; omega)) rfl ?_; conv => whnf) | (refine NEED.mk (needText (by simp)) ?_; conv => whnf) | refine AU ?_ | ((with_reducible refine IF.mk (fun h => ?_) (fun h => ?_)) <;> (try simp (disch := omega) only [hsB, hsC, lnB, wrap64, wrap32, simprocAttr] at h) <;> try (exfalso; omega))) <;> conv => whnf)
  all_goals
    refine FIN.valueK h0 rfl (congrArg (SV.int _) ?_)
    simp (disch := omega) only [wrap64, Int.sub_zero, List.drop_zero, ← List.map_take, unrow, List.take_length, List.take_succ_cons, List.take_zero, scalarM, decide_eq_true_eq, decide_eq_false_iff_not] at *
    simp_all [guessM, rawM, bn]
theorem guess3_does (a b c : UInt8) : Does Tryz.prog tab 188 1 [.sl (.loc 0) 0 1 3 none] [] [(0, .rows 1 ([a, b, c].map Sx.bytesRow))] (ValK 1 (.int .i64 (guessM [a, b, c]))) := by
  have ha := a.toNat_lt; have hb := b.toNat_lt; have hc := c.toNat_lt
  refine Does.enter tabOK (g := 188) (fn := Tryz.f188) Tryz.call188 Tryz.func188 rfl 45 rfl rfl [.tmp 2] rfl ?_
  intro w0 F η0 h0
  conv => whnf
  repeat' ((first | refine DRAWN.of (id := 2) tabOK mixed plUtf040 (by kernel_rfl) ?_ | refine DRAWN.of (id := 8) tabOK mixed plUtf041 (by kernel_rfl) ?_ | with_reducible refine ADD.mk (fun _ _ => ?_) | with_reducible refine NEED.mk (Det.of rfl) ?_ | refine NEED.mk (det_pos (by omega)) ?_ | with_reducible refine FORK.mk ?_ ?_ | refine CALL.value (ref04Scalar_does _) rfl rfl ?_ | (refine LOOP.once tabOK ?_; conv => whnf) | (refine CALL.bytes (ref04Bytes_does _ (by simp (disch := omega) only [scalarM_true, wrap64, Int.sub_zero] at *; omega)) rfl ?_; conv => whnf) | (refine NEED.mk (needText (by simp)) ?_; conv => whnf) | refine AU ?_ | ((with_reducible refine IF.mk (fun h => ?_) (fun h => ?_)) <;> (try simp (disch := omega) only [hsB, hsC, lnB, wrap64, wrap32, simprocAttr] at h) <;> try (exfalso; omega))) <;> conv => whnf)
  all_goals
    refine FIN.valueK h0 rfl (congrArg (SV.int _) ?_)
    simp (disch := omega) only [wrap64, Int.sub_zero, List.drop_zero, ← List.map_take, unrow, List.take_length, List.take_succ_cons, List.take_zero, scalarM, decide_eq_true_eq, decide_eq_false_iff_not] at *
    simp_all [guessM, rawM, bn]
theorem guess4_does (a b c d : UInt8) : Does Tryz.prog tab 188 1 [.sl (.loc 0) 0 1 4 none] [] [(0, .rows 1 ([a, b, c, d].map Sx.bytesRow))] (ValK 1 (.int .i64 (guessM [a, b, c, d]))) := by
  have ha := a.toNat_lt; have hb := b.toNat_lt; have hc := c.toNat_lt; have hd := d.toNat_lt
  refine Does.enter tabOK (g := 188) (fn := Tryz.f188) Tryz.call188 Tryz.func188 rfl 45 rfl rfl [.tmp 2] rfl ?_
  intro w0 F η0 h0
  conv => whnf
  repeat' ((first | refine DRAWN.of (id := 2) tabOK mixed plUtf040 (by kernel_rfl) ?_ | refine DRAWN.of (id := 8) tabOK mixed plUtf041 (by kernel_rfl) ?_ | with_reducible refine ADD.mk (fun _ _ => ?_) | with_reducible refine NEED.mk (Det.of rfl) ?_ | refine NEED.mk (det_pos (by omega)) ?_ | with_reducible refine FORK.mk ?_ ?_ | refine CALL.value (ref04Scalar_does _) rfl rfl ?_ | (refine LOOP.once tabOK ?_; conv => whnf) | (refine CALL.bytes (ref04Bytes_does _ (by simp (disch := omega) only [scalarM_true, wrap64, Int.sub_zero] at *; omega)) rfl ?_; conv => whnf) | (refine NEED.mk (needText (by simp)) ?_; conv => whnf) | refine AU ?_ | ((with_reducible refine IF.mk (fun h => ?_) (fun h => ?_)) <;> (try simp (disch := omega) only [hsB, hsC, lnB, wrap64, wrap32, simprocAttr] at h) <;> try (exfalso; omega))) <;> conv => whnf)
  all_goals
    refine FIN.valueK h0 rfl (congrArg (SV.int _) ?_)
    simp (disch := omega) only [wrap64, Int.sub_zero, List.drop_zero, ← List.map_take, unrow, List.take_length, List.take_succ_cons, List.take_zero, scalarM, decide_eq_true_eq, decide_eq_false_iff_not] at *
    simp_all [guessM, rawM, bn]
theorem guess_does (l : List UInt8) (hl : 1 ≤ l.length ∧ l.length ≤ 4) : Does Tryz.prog tab 188 1 [.sl (.loc 0) 0 1 l.length none] [] [(0, .rows 1 (l.map Sx.bytesRow))] (ValK 1 (.int .i64 (guessM l))) := by
  match l, hl with
  | [a], _ => exact guess1_does a
  | [a, b], _ => exact guess2_does a b
  | [a, b, c], _ => exact guess3_does a b c
  | [a, b, c, d], _ => exact guess4_does a b c d
  | [], h => simp at h
  | _ :: _ :: _ :: _ :: _ :: _, h => simp at h
theorem ref04Next_does (s : List UInt8) (i : Int) (hs : Sm s) : Does Tryz.prog tab 156 0 [.str s, .int .i64 i] [] [] (Val (.tup [.int .i64 (nextAt s i).1, .int .i64 (nextAt s i).2])) := by
  refine Does.enter tabOK (g := 156) (fn := Tryz.f156) Tryz.call156 Tryz.func156 rfl 40 rfl rfl [.tmp 4, .tmp 5] rfl ?_
  intro w0 F η0 h0
  conv => whnf
  repeat' ((first | (refine LOOP.once tabOK ?_; conv => whnf) | (refine CALL.look1 _ (guess_does _ (by simp (disch := omega) only [wrap64, List.length_take, List.length_drop]; omega)) rfl rfl rfl rfl (plainBytes _) rfl ?_; conv => whnf) | refine AU ?_ | ((with_reducible refine IF.mk (fun h => ?_) (fun h => ?_)) <;> (try simp (disch := omega) only [hsB, hsC, lnB, wrap64, wrap32, simprocAttr] at h) <;> try (exfalso; omega))) <;> conv => whnf)
  all_goals
    refine FIN.value h0 rfl ?_
    first
      | (unfold nextAt; rw [if_pos (by assumption)])
      | (rw [nextAt_guess (by omega)]; simp (disch := omega) only [↓if_pos, ↓if_neg, wrap64, Int.reduceAdd])
theorem ref04Check_does (s : List UInt8) (hs : Sm s) : Does Tryz.prog tab 126 0 [.str s] [] [] (Val (.int .i64 (chk s 0))) := by
  refine Does.enter tabOK (g := 126) (fn := Tryz.f126) Tryz.call126 Tryz.func126 rfl 22 rfl rfl [.tmp 2] rfl ?_
  intro w0 F η0 h0
  conv => whnf
  refine LOOP.go tabOK [0] (X := Nat) (fun i => i ≤ s.length ∧ chk s i = chk s 0) (fun i => [(3, .int .i64 (i : Int))]) (fun _ => []) 0 (fun i => s.length - i) 0 ⟨by omega, rfl⟩ ?_
  conv => whnf
  refine ⟨by exact GOES.cA h0, ?_⟩
  rintro i ⟨hi, hc⟩
  conv => whnf
  have hn := nextAt_n s i
  repeat' ((first | refine CALL.value (ref04Next_does s _ hs) rfl rfl ?_ | refine AU ?_ | ((with_reducible refine IF.mk (fun h => ?_) (fun h => ?_)) <;> (try simp (disch := omega) only [hsB, hsC, lnB, wrap64, wrap32, simprocAttr] at h) <;> try (exfalso; omega))) <;> conv => whnf)
  · have hz : (nextAt s i).2 = 0 := h
    refine FIN.value h0 rfl ?_
    rw [← hc, chk_bad (by omega) hz]
  · rename_i h1
    refine ⟨i + (nextAt s i).2.toNat, ⟨by omega, ?_⟩, by omega, ?_⟩
    · rw [← hc, ← chk_step (by omega) h]
    · conv => whnf
      exact GOES.cA h0
  · refine FIN.value h0 rfl ?_
    rw [← hc, chk_end (by omega)]
end Go.Proofs.YtjbbkimodgffiaaGreatDoor
/- The library's searches in texts, walked. Conditions: none. -/
set_option linter.unusedVariables false
set_option linter.unusedSimpArgs false
set_option maxRecDepth 20000
set_option maxHeartbeats 8000000
namespace Go.Proofs.YtjbbkimodgffiaaGreatDoor
open Go.Sx Go.Our
theorem indexByteString_does (s : List UInt8) (c : Int) : Does Tryz.prog tab 233 0 [.str s, .int .u8 c] [] [] (Val (.int .i64 (Lib.indexByte s c.toNat.toUInt8))) := by
  refine Does.says fun η w vs hd => ?_
  simp only [DenL, Den] at hd
  obtain ⟨u, us, rfl, rfl, u', us', rfl, rfl, rfl⟩ := hd
  refine ⟨_, ?_, rfl⟩
  rw [run_callFunc_extern Tryz.func233 (by kernel_rfl) (by kernel_rfl) (by kernel_rfl) (e := Extern.BytealgIndexByte.indexByte) (by kernel_rfl), Lib.run_indexByteString]
  rfl
theorem slIndexByte_does (s : List UInt8) (c : Int) : Does Tryz.prog tab 230 0 [.str s, .int .u8 c] [] [] (Val (.int .i64 (Lib.indexByte s c.toNat.toUInt8))) := by
  refine Does.enter tabOK (g := 230) (fn := Tryz.f230) Tryz.call230 Tryz.func230 rfl 8 rfl rfl [.tmp 4] rfl ?_
  intro w0 F η0 h0
  conv => whnf
  repeat' ((first | refine CALL.value (indexByteString_does _ _) rfl rfl ?_ | refine AU ?_ | ((with_reducible refine IF.mk (fun h => ?_) (fun h => ?_)) <;> (try simp (disch := omega) only [hsB, hsC, lnB, wrap64, wrap32, simprocAttr] at h) <;> try (exfalso; omega))) <;> conv => whnf)
  exact FIN.value h0 rfl rfl
theorem indexByte_does (s : List UInt8) (c : Int) : Does Tryz.prog tab 222 0 [.str s, .int .u8 c] [] [] (Val (.int .i64 (Lib.indexByte s c.toNat.toUInt8))) := by
  refine Does.enter tabOK (g := 222) (fn := Tryz.f222) Tryz.call222 Tryz.func222 rfl 8 rfl rfl [.tmp 4] rfl ?_
  intro w0 F η0 h0
  conv => whnf
  repeat' ((first | refine CALL.value (slIndexByte_does _ _) rfl rfl ?_ | refine AU ?_ | ((with_reducible refine IF.mk (fun h => ?_) (fun h => ?_)) <;> (try simp (disch := omega) only [hsB, hsC, lnB, wrap64, wrap32, simprocAttr] at h) <;> try (exfalso; omega))) <;> conv => whnf)
  exact FIN.value h0 rfl rfl
theorem validRune_does (r : Int) : Does Tryz.prog tab 223 0 [.int .i32 r] [] [] (Val (.bool (scalarM r))) := by
  refine Does.enter tabOK (g := 223) (fn := Tryz.f223) Tryz.call223 Tryz.func223 rfl 17 rfl rfl [.tmp 2] rfl ?_
  intro w0 F η0 h0
  conv => whnf
  repeat' ((first | refine AU ?_ | ((with_reducible refine IF.mk (fun h => ?_) (fun h => ?_)) <;> (try simp (disch := omega) only [hsB, hsC, lnB, wrap64, wrap32, simprocAttr] at h) <;> try (exfalso; omega))) <;> conv => whnf)
  all_goals
    refine FIN.value h0 rfl (congrArg SV.bool ?_)
    rw [Bool.eq_iff_iff, scalarM_true]
    simp
    try omega
theorem idxFunc_does (g : Nat) (p : Int → Bool) (hp : ∀ r : Int, Scalar r → Does Tryz.prog tab g 0 [.int .i32 r] [] [] (Val (.bool (p r)))) (s : List UInt8) (hs : Sm s) : Does Tryz.prog tab 194 0 [.str s, .fn (.func g) [] [], .bool true] [] [] (Val (.int .i64 (idxF p s 0))) := by
  refine Does.enter tabOK (g := 194) (fn := Tryz.f194) Tryz.call194 Tryz.func194 rfl 21 rfl rfl [.tmp 6] rfl ?_
  intro w0 F η0 h0
  conv => whnf
  refine LOOP.go tabOK [1, 2, 10] (X := Nat) (fun i => i ≤ s.length ∧ idxF p s i = idxF p s 0) (fun i => []) (fun i => [(0, .siter s i)]) 1 (fun i => s.length - i) 0 ⟨by omega, rfl⟩ ?_
  conv => whnf
  refine ⟨by exact GOES.cA h0, ?_⟩
  rintro i ⟨hi, hc⟩
  conv => whnf
  refine ⟨fun h => ?_, fun h => ?_⟩
  · have h : i < s.length := by simpa using h
    have hf := deco_fits s i h
    have hd := deco_pos s i
    conv => whnf
    repeat' ((first | refine CALL.value (hp _ (deco_scalar s i)) rfl rfl ?_ | refine AU ?_ | ((with_reducible refine IF.mk (fun h => ?_) (fun h => ?_)) <;> (try simp (disch := omega) only [hsB, hsC, lnB, wrap64, wrap32, simprocAttr] at h) <;> try (exfalso; omega))) <;> conv => whnf)
    · refine FIN.value h0 rfl ?_
      rw [← hc, idxF_at (by omega) (by simpa using h)]
    · refine ⟨i + (deco s i).2, ⟨by omega, ?_⟩, by omega, ?_⟩
      · rw [← hc, ← idxF_step (by omega) (by simpa using h)]
      · conv => whnf
        exact GOES.cA h0
  · have h : s.length ≤ i := by simpa using h
    conv => whnf
    repeat' ((first | refine AU ?_ | ((with_reducible refine IF.mk (fun h => ?_) (fun h => ?_)) <;> (try simp (disch := omega) only [hsB, hsC, lnB, wrap64, wrap32, simprocAttr] at h) <;> try (exfalso; omega))) <;> conv => whnf)
    refine FIN.value h0 rfl ?_
    rw [← hc, idxF_end h]
theorem indexFunc_does (g : Nat) (p : Int → Bool) (hp : ∀ r : Int, Scalar r → Does Tryz.prog tab g 0 [.int .i32 r] [] [] (Val (.bool (p r)))) (s : List UInt8) (hs : Sm s) : Does Tryz.prog tab 173 0 [.str s, .fn (.func g) [] []] [] [] (Val (.int .i64 (idxF p s 0))) := by
  refine Does.enter tabOK (g := 173) (fn := Tryz.f173) Tryz.call173 Tryz.func173 rfl 8 rfl rfl [.tmp 4] rfl ?_
  intro w0 F η0 h0
  conv => whnf
  repeat' ((first | refine CALL.value (idxFunc_does g p hp s hs) rfl rfl ?_ | refine AU ?_ | ((with_reducible refine IF.mk (fun h => ?_) (fun h => ?_)) <;> (try simp (disch := omega) only [hsB, hsC, lnB, wrap64, wrap32, simprocAttr] at h) <;> try (exfalso; omega))) <;> conv => whnf)
  exact FIN.value h0 rfl rfl
end Go.Proofs.YtjbbkimodgffiaaGreatDoor
/- iri and its reference: references and schemes, walked. Conditions: none. -/
set_option linter.unusedVariables false
set_option linter.unusedSimpArgs false
set_option maxRecDepth 20000
set_option maxHeartbeats 8000000
namespace Go.Proofs.YtjbbkimodgffiaaGreatDoor
open Go.Sx Go.Our
theorem ref05Barred_does (c : Int) : Does Tryz.prog tab 153 0 [.int .u8 c] [] [] (Val (.bool (barredM c))) := by
  refine Does.enter tabOK (g := 153) (fn := Tryz.f153) Tryz.call153 Tryz.func153 rfl 16 rfl rfl [.tmp 2] rfl ?_
  intro w0 F η0 h0
  conv => whnf
  repeat' ((first | refine AU ?_ | ((with_reducible refine IF.mk (fun h => ?_) (fun h => ?_)) <;> (try simp (disch := omega) only [hsB, hsC, lnB, wrap64, wrap32, simprocAttr] at h) <;> try (exfalso; omega))) <;> conv => whnf)
  all_goals
    refine FIN.value h0 rfl (congrArg SV.bool ?_)
    rw [Bool.eq_iff_iff, barredM_true]
    unfold Our.Barred
    simp
    try omega
theorem ref05Letter_does (c : Int) : Does Tryz.prog tab 154 0 [.int .u8 c] [] [] (Val (.bool (decide (LetterI c)))) := by
  refine Does.enter tabOK (g := 154) (fn := Tryz.f154) Tryz.call154 Tryz.func154 rfl 17 rfl rfl [.tmp 2] rfl ?_
  intro w0 F η0 h0
  conv => whnf
  repeat' ((first | refine AU ?_ | ((with_reducible refine IF.mk (fun h => ?_) (fun h => ?_)) <;> (try simp (disch := omega) only [hsB, hsC, lnB, wrap64, wrap32, simprocAttr] at h) <;> try (exfalso; omega))) <;> conv => whnf)
  refine FIN.value h0 rfl (congrArg SV.bool ?_)
  rw [Bool.eq_iff_iff]
  simp only [Bool.cond_eq_ite, decide_eq_true_eq, Bool.if_false_right, Bool.if_true_left, Bool.and_eq_true, Bool.or_eq_true]
  rfl
theorem ref05Digit_does (c : Int) : Does Tryz.prog tab 155 0 [.int .u8 c] [] [] (Val (.bool (decide (48 ≤ c ∧ c ≤ 57)))) := by
  refine Does.enter tabOK (g := 155) (fn := Tryz.f155) Tryz.call155 Tryz.func155 rfl 9 rfl rfl [.tmp 2] rfl ?_
  intro w0 F η0 h0
  conv => whnf
  repeat' ((first | refine AU ?_ | ((with_reducible refine IF.mk (fun h => ?_) (fun h => ?_)) <;> (try simp (disch := omega) only [hsB, hsC, lnB, wrap64, wrap32, simprocAttr] at h) <;> try (exfalso; omega))) <;> conv => whnf)
  refine FIN.value h0 rfl (congrArg SV.bool ?_)
  rw [Bool.eq_iff_iff]
  simp only [Bool.cond_eq_ite, decide_eq_true_eq, Bool.if_false_right, Bool.if_true_left, Bool.and_eq_true, Bool.or_eq_true]
theorem ref05Reference_does (s : List UInt8) (hs : Sm s) : Does Tryz.prog tab 120 0 [.str s] [] [] (Val (.int .i64 (refM s))) := by
  refine Does.enter tabOK (g := 120) (fn := Tryz.f120) Tryz.call120 Tryz.func120 rfl 20 rfl rfl [.tmp 2] rfl ?_
  intro w0 F η0 h0
  conv => whnf
  repeat' ((first | refine CALL.value (ref04Check_does s hs) rfl rfl ?_ | refine AU ?_ | ((with_reducible refine IF.mk (fun h => ?_) (fun h => ?_)) <;> (try simp (disch := omega) only [hsB, hsC, lnB, wrap64, wrap32, simprocAttr] at h) <;> try (exfalso; omega))) <;> conv => whnf)
  · refine FIN.value h0 rfl ?_
    unfold refM; rw [if_pos (by omega)]
  · refine FIN.value h0 rfl ?_
    unfold refM; rw [if_neg (by omega), if_pos (by omega)]
  refine LOOP.go tabOK [0] (X := Nat) (fun i => i ≤ s.length ∧ anyB barredM s i = anyB barredM s 0) (fun i => [(3, .int .i64 (i : Int))]) (fun i => []) 0 (fun i => s.length - i) 0 ⟨by omega, rfl⟩ ?_
  conv => whnf
  refine ⟨by exact GOES.cA h0, ?_⟩
  rintro i ⟨hi, hc⟩
  conv => whnf
  repeat' ((first | refine CALL.value (ref05Barred_does _) rfl rfl ?_ | refine AU ?_ | ((with_reducible refine IF.mk (fun h => ?_) (fun h => ?_)) <;> (try simp (disch := omega) only [hsB, hsC, lnB, wrap64, wrap32, simprocAttr] at h) <;> try (exfalso; omega))) <;> conv => whnf)
  · refine FIN.value h0 rfl ?_
    unfold refM; rw [if_neg (by omega), if_neg (by omega), ← hc, anyB_at (by omega), h]; rfl
  · refine ⟨i + 1, ⟨by omega, ?_⟩, by omega, ?_⟩
    · rw [← hc, anyB_at (i := i) (by omega), h, Bool.false_or]
    · conv => whnf
      exact GOES.cA h0
  · refine FIN.value h0 rfl ?_
    unfold refM; rw [if_neg (by omega), if_neg (by omega), ← hc, anyB_end (by omega)]; rfl
theorem ref05Scheme_does (s : List UInt8) (hs : Sm s) : Does Tryz.prog tab 121 0 [.str s] [] [] (Val (.int .i64 (schM s 0))) := by
  refine Does.enter tabOK (g := 121) (fn := Tryz.f121) Tryz.call121 Tryz.func121 rfl 41 rfl rfl [.tmp 2] rfl ?_
  intro w0 F η0 h0
  conv => whnf
  refine LOOP.go tabOK [0] (X := Nat) (fun i => i ≤ s.length ∧ schM s i = schM s 0) (fun i => [(3, .int .i64 (i : Int))]) (fun i => []) 0 (fun i => s.length - i) 0 ⟨by omega, rfl⟩ ?_
  conv => whnf
  refine ⟨by exact GOES.cA h0, ?_⟩
  rintro i ⟨hi, hc⟩
  conv => whnf
  repeat' ((first | refine CALL.value (ref05Letter_does _) rfl rfl ?_ | refine CALL.value (ref05Digit_does _) rfl rfl ?_ | refine AU ?_ | ((with_reducible refine IF.mk (fun h => ?_) (fun h => ?_)) <;> (try simp (disch := omega) only [hsB, hsC, lnB, wrap64, wrap32, simprocAttr] at h) <;> try (exfalso; omega))) <;> conv => whnf)
  all_goals first
    | (refine FIN.value h0 rfl ?_; rw [← hc]; first | rw [schM_colon (by omega) (by assumption)] | (rw [schM_stop (by omega) (by assumption) (by unfold SchI; rintro (h | h) <;> first | contradiction | omega)]) | rw [schM_end (by omega)])
    | (refine ⟨i + 1, ⟨by omega, ?_⟩, by omega, ?_⟩
       · rw [← hc, ← schM_step (by omega) (by assumption) (by first | (left; assumption) | (right; unfold SchI; omega))]
       · conv => whnf
         exact GOES.cA h0)
end Go.Proofs.YtjbbkimodgffiaaGreatDoor
/- iri: references and schemes, walked. Conditions: none. -/
set_option linter.unusedVariables false
set_option linter.unusedSimpArgs false
set_option maxRecDepth 20000
set_option maxHeartbeats 8000000
namespace Go.Proofs.YtjbbkimodgffiaaGreatDoor
open Go.Sx Go.Our
def plIri20 : Plan := (planOf [(0, 1), (1, 1), (2, 1), (3, 1), (4, 1), (5, 1), (6, 1)])
def plIri21 : Plan := (planOf [(0, 1), (1, 1), (2, 1), (3, 1), (4, 1), (5, 1), (6, 1), (7, 3), (8, 1)])
def plIri22 : Plan := (planOf [(0, 1), (1, 1), (2, 1), (3, 1), (4, 1), (5, 1), (6, 1), (7, 1), (8, 1), (9, 1), (10, 1)])
theorem ref05Check_does (s : List UInt8) (hs : Sm s) : Does Tryz.prog tab 105 0 [.str s] [] [] (Val (.int .i64 (iriM s))) := by
  refine Does.enter tabOK (g := 105) (fn := Tryz.f105) Tryz.call105 Tryz.func105 rfl 14 rfl rfl [.tmp 2] rfl ?_
  intro w0 F η0 h0
  conv => whnf
  repeat' ((first | refine CALL.value (ref05Reference_does s hs) rfl rfl ?_ | refine CALL.value (ref05Scheme_does s hs) rfl rfl ?_ | refine AU ?_ | ((with_reducible refine IF.mk (fun h => ?_) (fun h => ?_)) <;> (try simp (disch := omega) only [hsB, hsC, lnB, wrap64, wrap32, simprocAttr] at h) <;> try (exfalso; omega))) <;> conv => whnf)
  all_goals
    refine FIN.value h0 rfl (congrArg (SV.int _) ?_)
    unfold iriM
    simp_all
/-- Whether a scalar is among those that are barred but for blanks. -/
def barIdx (r : Int) : Int := if 0 ≤ r ∧ r < 128 then Lib.indexByte bars (IntKind.u8.wrap r).toNat.toUInt8 else -1
theorem indexRune_does (r : Int) (hr : Scalar r) : Does Tryz.prog tab 215 0 [.str bars, .int .i32 r] [] [] (Val (.int .i64 (barIdx r))) := by
  have hlen : bars.length = 9 := rfl
  refine Does.enter tabOK (g := 215) (fn := Tryz.f215) Tryz.call215 Tryz.func215 rfl 187 rfl rfl [.tmp 4] rfl ?_
  intro w0 F η0 h0
  conv => whnf
  repeat' ((first | refine CALL.value (indexByte_does _ _) rfl rfl ?_ | refine CALL.value (validRune_does _) rfl rfl ?_ | refine AU ?_ | ((with_reducible refine IF.mk (fun h => ?_) (fun h => ?_)) <;> (try simp (disch := omega) only [hsB, hsC, lnB, wrap64, wrap32, simprocAttr] at h) <;> try (exfalso; omega))) <;> conv => whnf)
  · refine FIN.value h0 rfl ?_
    unfold barIdx; rw [if_pos h]
  · subst h
    refine LOOP.go tabOK [175] (X := Nat) (fun i => i ≤ 9) (fun i => []) (fun i => [(0, .siter bars i)]) 1 (fun i => 9 - i) 0 (by omega) ?_
    conv => whnf
    refine ⟨by exact GOES.cA h0, ?_⟩
    intro i hi
    conv => whnf
    refine ⟨fun h => ?_, fun h => ?_⟩
    · have h : i < bars.length := by simpa using h
      have hd := deco_ascii (bars_low i)
      have hb := byteAt_lt bars i
      conv => whnf
      refine IF.tt ?_
      conv => whnf
      refine IF.no (by rw [show Utf8.decode ⟨bars.toArray⟩ i = _ from hd]; have := bars_low i; simp; omega) ?_
      conv => whnf
      refine ⟨i + (deco bars i).2, by rw [hd]; show i + 1 ≤ 9; omega, by rw [hd]; show 9 - (i + 1) < 9 - i; omega, ?_⟩
      conv => whnf
      exact GOES.cA h0
    · conv => whnf
      refine IF.ff ?_
      conv => whnf
      refine FIN.value h0 rfl ?_
      unfold barIdx; rw [if_neg (by omega)]
  · rw [scalarM_false] at h
    exact (h hr).elim
  · have hl := encM_len (r := r) (by unfold Scalar at hr; omega)
    have hh := encM_high hr (by unfold Scalar at hr; omega)
    have he := encode_eq hr
    rw [he]
    have hm := byteAt_mem (s := encM r) (i := ((encM r).length : Int) - 1) (by omega)
    have hm2 : 128 ≤ byteAt (encM r) (((encM r).length : Int) - 1) := by
      obtain ⟨c, hc, e⟩ := hm
      rw [e]; exact hh c hc
    have hm3 := byteAt_lt (encM r) (((encM r).length : Int) - 1)
    have hm4 := bars_low (((encM r).length : Int) - 1)
    refine LOOP.once tabOK ?_
    conv => whnf
    repeat' ((first | refine DRAWN.of (id := 6) tabOK mixed plIri20 (by kernel_rfl) ?_ | refine DRAWN.of (id := 7) tabOK mixed plIri21 (by kernel_rfl) ?_ | refine DRAWN.of (id := 14) tabOK mixed plIri22 (by kernel_rfl) ?_ | refine DRAWN.of (id := 31) tabOK mixed plIri22 (by kernel_rfl) ?_ | with_reducible refine ADD.mk (fun _ _ => ?_) | with_reducible refine NEED.mk (Det.of rfl) ?_ | refine NEED.mk (det_pos (by omega)) ?_ | with_reducible refine FORK.mk ?_ ?_ | refine CALL.value (indexByte_does _ _) rfl rfl ?_ | refine AU ?_ | ((with_reducible refine IF.mk (fun h => ?_) (fun h => ?_)) <;> (try simp (disch := omega) only [hsB, hsC, lnB, wrap64, wrap32, simprocAttr] at h) <;> try (exfalso; omega))) <;> conv => whnf)
    · refine FIN.value h0 rfl ?_
      unfold barIdx; rw [if_neg (by unfold Scalar at hr; omega)]
    · have := idx_high (l := List.drop (((encM r).length : Int) - 1 + 1).toNat bars) (c := byteAt (encM r) (((encM r).length : Int) - 1)) (by omega) (fun b hb => bars_mem b (List.mem_of_mem_drop hb))
      rw [this] at h
      omega
theorem containsRune_does (r : Int) (hr : Scalar r) : Does Tryz.prog tab 195 0 [.str bars, .int .i32 r] [] [] (Val (.bool (decide (0 ≤ barIdx r)))) := by
  refine Does.enter tabOK (g := 195) (fn := Tryz.f195) Tryz.call195 Tryz.func195 rfl 9 rfl rfl [.tmp 4] rfl ?_
  intro w0 F η0 h0
  conv => whnf
  repeat' ((first | refine CALL.value (indexRune_does r hr) rfl rfl ?_ | refine AU ?_ | ((with_reducible refine IF.mk (fun h => ?_) (fun h => ?_)) <;> (try simp (disch := omega) only [hsB, hsC, lnB, wrap64, wrap32, simprocAttr] at h) <;> try (exfalso; omega))) <;> conv => whnf)
  exact FIN.value h0 rfl rfl
theorem bar_iff {r : Int} (hr : Scalar r) : (r ≤ 32 ∨ 0 ≤ barIdx r) ↔ Our.Barred r := by
  unfold Scalar at hr
  unfold barIdx
  by_cases h : 0 ≤ r ∧ r < 128
  · rw [if_pos h]
    have : ∀ n : Nat, n < 128 → (((n : Int) ≤ 32 ∨ 0 ≤ Lib.indexByte bars (IntKind.u8.wrap (n : Int)).toNat.toUInt8) ↔ Our.Barred (n : Int)) := by decide +kernel
    have := this r.toNat (by omega)
    rwa [show ((r.toNat : Nat) : Int) = r by omega] at this
  · rw [if_neg h]
    unfold Our.Barred
    omega
theorem barred_does (r : Int) (hr : Scalar r) : Does Tryz.prog tab 174 0 [.int .i32 r] [] [] (Val (.bool (barredM r))) := by
  refine Does.enter tabOK (g := 174) (fn := Tryz.f174) Tryz.call174 Tryz.func174 rfl 9 rfl rfl [.tmp 2] rfl ?_
  intro w0 F η0 h0
  conv => whnf
  repeat' ((first | refine CALL.value (containsRune_does r hr) rfl rfl ?_ | refine AU ?_ | ((with_reducible refine IF.mk (fun h => ?_) (fun h => ?_)) <;> (try simp (disch := omega) only [hsB, hsC, lnB, wrap64, wrap32, simprocAttr] at h) <;> try (exfalso; omega))) <;> conv => whnf)
  all_goals
    refine FIN.value h0 rfl (congrArg SV.bool ?_)
    rw [Bool.eq_iff_iff, barredM_true, ← bar_iff hr]
    simp
    try omega
theorem reference_does (s : List UInt8) (hs : Sm s) : Does Tryz.prog tab 139 0 [.str s] [] [] (Val (.int .i64 (refM s))) := by
  have hp : ∀ c : Int, 128 ≤ c → barredM c = false := fun c hc => by rw [barredM_false]; unfold Our.Barred; omega
  refine Does.enter tabOK (g := 139) (fn := Tryz.f139) Tryz.call139 Tryz.func139 rfl 15 rfl rfl [.tmp 2] rfl ?_
  intro w0 F η0 h0
  conv => whnf
  repeat' ((first | refine CALL.value (check_does s hs) rfl rfl ?_ | refine CALL.value (indexFunc_does _ barredM (fun r hr => barred_does r hr) s hs) rfl rfl ?_ | refine AU ?_ | ((with_reducible refine IF.mk (fun h => ?_) (fun h => ?_)) <;> (try simp (disch := omega) only [hsB, hsC, lnB, wrap64, wrap32, simprocAttr] at h) <;> try (exfalso; omega))) <;> conv => whnf)
  all_goals
    refine FIN.value h0 rfl (congrArg (SV.int _) ?_)
    unfold refM
  · rw [if_pos (by omega)]
  · rw [if_neg (by omega), if_pos (by omega)]
  all_goals
    rename_i h1 h2
    have hc : chk s 0 = -1 := by
      have := chk_ge s 0
      omega
    have := barred_runes barredM hp s 0 hc
    rw [if_neg (by omega), if_neg (by omega)]
  · rw [if_pos (this.1 h)]
  · rw [if_neg (fun h' => by have := this.2 h'; omega)]
theorem scheme_does (s : List UInt8) (hs : Sm s) : Does Tryz.prog tab 140 0 [.str s] [] [] (Val (.str (s.take (schM s 0).toNat))) := by
  refine Does.enter tabOK (g := 140) (fn := Tryz.f140) Tryz.call140 Tryz.func140 rfl 61 rfl rfl [.tmp 2] rfl ?_
  intro w0 F η0 h0
  conv => whnf
  refine LOOP.go tabOK [0, 7] (X := Nat) (fun i => i ≤ s.length ∧ schM s i = schM s 0) (fun i => []) (fun i => [(0, .siter s i)]) 1 (fun i => s.length - i) 0 ⟨by omega, rfl⟩ ?_
  conv => whnf
  refine ⟨by exact GOES.cA h0, ?_⟩
  rintro i ⟨hi, hc⟩
  conv => whnf
  refine ⟨fun h => ?_, fun h => ?_⟩
  · have h : i < s.length := by simpa using h
    have hf := deco_fits s i h
    have hp := deco_pos s i
    have hb := byteAt_lt s i
    have hd : ((deco s i).1 : Int) = byteAt s i ∧ (deco s i).2 = 1 ∨ 128 ≤ byteAt s i ∧ 128 ≤ (deco s i).1 := by
      by_cases ha : byteAt s i < 128
      · left; rw [deco_ascii ha]; simp; omega
      · right; exact ⟨by omega, deco_high (by omega)⟩
    unfold deco at *
    generalize Utf8.decode ⟨s.toArray⟩ i = d at *
    obtain ⟨r, n⟩ := d
    simp only at hf hp hd
    conv => whnf
    repeat' ((first | refine AU ?_ | ((with_reducible refine IF.mk (fun h => ?_) (fun h => ?_)) <;> (try simp (disch := omega) only [hsB, hsC, lnB, wrap64, wrap32, simprocAttr] at h) <;> try (exfalso; omega))) <;> conv => whnf)
    all_goals first
      | (have hn : n = 1 := by omega
         subst hn
         refine ⟨i + 1, ⟨hf, ?_⟩, by omega, ?_⟩
         · rw [← hc, ← schM_step (by omega) (by omega) (by unfold LetterI SchI; omega)]
         · conv => whnf
           exact GOES.cA h0)
      | (refine FIN.value h0 rfl (congrArg SV.str ?_); rw [← hc, schM_colon (by omega) (by omega)])
      | (refine FIN.value h0 rfl (congrArg SV.str ?_); rw [← hc]
         by_cases h58 : byteAt s i = 58
         · rw [schM_colon (by omega) h58]; rw [show (i : Int) = 0 by omega]; rfl
         · rw [schM_stop (by omega) h58 (by unfold LetterI SchI; omega)]; rfl)
  · have h : s.length ≤ i := by simpa using h
    conv => whnf
    repeat' ((first | refine AU ?_ | ((with_reducible refine IF.mk (fun h => ?_) (fun h => ?_)) <;> (try simp (disch := omega) only [hsB, hsC, lnB, wrap64, wrap32, simprocAttr] at h) <;> try (exfalso; omega))) <;> conv => whnf)
    refine FIN.value h0 rfl ?_
    rw [← hc, schM_end h]; rfl
theorem iriCheck_does (s : List UInt8) (hs : Sm s) : Does Tryz.prog tab 114 0 [.str s] [] [] (Val (.int .i64 (iriM s))) := by
  have hr := schM_rng s 0
  refine Does.enter tabOK (g := 114) (fn := Tryz.f114) Tryz.call114 Tryz.func114 rfl 12 rfl rfl [.tmp 2] rfl ?_
  intro w0 F η0 h0
  conv => whnf
  repeat' ((first | refine CALL.value (reference_does s hs) rfl rfl ?_ | refine CALL.value (scheme_does s hs) rfl rfl ?_ | refine AU ?_ | ((with_reducible refine IF.mk (fun h => ?_) (fun h => ?_)) <;> (try simp (disch := omega) only [hsB, hsC, lnB, wrap64, wrap32, simprocAttr] at h) <;> try (exfalso; omega))) <;> conv => whnf)
  · refine FIN.value h0 rfl (congrArg (SV.int _) ?_)
    unfold iriM; rw [if_pos h]
  · rename_i h1
    refine FIN.value h0 rfl (congrArg (SV.int _) ?_)
    unfold iriM; rw [if_neg (by omega), if_pos]
    have hz : (s.take (schM s 0).toNat).length = 0 := by
      have : s.take (schM s 0).toNat = [] := h
      rw [this]; rfl
    rw [List.length_take] at hz
    by_cases hl : s.length = 0
    · rw [schM_end (by omega)]
    · omega
  · rename_i h1
    refine FIN.value h0 rfl (congrArg (SV.int _) ?_)
    unfold iriM; rw [if_neg (by omega), if_neg]
    intro h2
    apply h
    rw [h2]; rfl
end Go.Proofs.YtjbbkimodgffiaaGreatDoor
/- names: labels, walked. Conditions: none. -/
set_option linter.unusedVariables false
set_option linter.unusedSimpArgs false
set_option maxRecDepth 20000
set_option maxHeartbeats 8000000
namespace Go.Proofs.YtjbbkimodgffiaaGreatDoor
open Go.Sx Go.Our
theorem nLetter_does (r : Int) : Does Tryz.prog tab 220 0 [.int .i32 r] [] [] (Val (.bool (decide (LetterI r)))) := by
  refine Does.enter tabOK (g := 220) (fn := Tryz.f220) Tryz.call220 Tryz.func220 rfl 17 rfl rfl [.tmp 2] rfl ?_
  intro w0 F η0 h0
  conv => whnf
  repeat' ((first | refine AU ?_ | ((with_reducible refine IF.mk (fun h => ?_) (fun h => ?_)) <;> (try simp (disch := omega) only [hsB, hsC, lnB, wrap64, wrap32, simprocAttr] at h) <;> try (exfalso; omega))) <;> conv => whnf)
  refine FIN.value h0 rfl (congrArg SV.bool ?_)
  rw [Bool.eq_iff_iff]
  simp only [Bool.cond_eq_ite, decide_eq_true_eq, Bool.if_false_right, Bool.if_true_left, Bool.and_eq_true, Bool.or_eq_true]
  rfl
theorem nDigit_does (r : Int) : Does Tryz.prog tab 198 0 [.int .i32 r] [] [] (Val (.bool (decide (DigitI r)))) := by
  refine Does.enter tabOK (g := 198) (fn := Tryz.f198) Tryz.call198 Tryz.func198 rfl 9 rfl rfl [.tmp 2] rfl ?_
  intro w0 F η0 h0
  conv => whnf
  repeat' ((first | refine AU ?_ | ((with_reducible refine IF.mk (fun h => ?_) (fun h => ?_)) <;> (try simp (disch := omega) only [hsB, hsC, lnB, wrap64, wrap32, simprocAttr] at h) <;> try (exfalso; omega))) <;> conv => whnf)
  refine FIN.value h0 rfl (congrArg SV.bool ?_)
  rw [Bool.eq_iff_iff]
  simp only [Bool.cond_eq_ite, decide_eq_true_eq, Bool.if_false_right, Bool.if_true_left, Bool.and_eq_true, Bool.or_eq_true]
  rfl
theorem nBase_does (r : Int) : Does Tryz.prog tab 216 0 [.int .i32 r] [] [] (Val (.bool (decide (BaseI r)))) := by
  refine Does.enter tabOK (g := 216) (fn := Tryz.f216) Tryz.call216 Tryz.func216 rfl 25 rfl rfl [.tmp 2] rfl ?_
  intro w0 F η0 h0
  conv => whnf
  repeat' ((first | refine CALL.value (nLetter_does _) rfl rfl ?_ | (refine LOOP.once tabOK ?_; conv => whnf) | refine AU ?_ | ((with_reducible refine IF.mk (fun h => ?_) (fun h => ?_)) <;> (try simp (disch := omega) only [hsB, hsC, lnB, wrap64, wrap32, simprocAttr] at h) <;> try (exfalso; omega))) <;> conv => whnf)
  all_goals
    refine FIN.value h0 rfl (congrArg SV.bool ?_)
    first
      | exact decide_eq_decide.2 (by unfold LetterI BaseI; omega)
      | exact (decide_eq_true (by unfold BaseI; omega)).symm
      | exact (decide_eq_false (by unfold BaseI; omega)).symm
theorem nStarter_does (r : Int) : Does Tryz.prog tab 197 0 [.int .i32 r] [] [] (Val (.bool (decide (StartI r)))) := by
  refine Does.enter tabOK (g := 197) (fn := Tryz.f197) Tryz.call197 Tryz.func197 rfl 9 rfl rfl [.tmp 2] rfl ?_
  intro w0 F η0 h0
  conv => whnf
  repeat' ((first | refine CALL.value (nBase_does _) rfl rfl ?_ | refine AU ?_ | ((with_reducible refine IF.mk (fun h => ?_) (fun h => ?_)) <;> (try simp (disch := omega) only [hsB, hsC, lnB, wrap64, wrap32, simprocAttr] at h) <;> try (exfalso; omega))) <;> conv => whnf)
  all_goals
    refine FIN.value h0 rfl (congrArg SV.bool ?_)
    rw [Bool.eq_iff_iff, decide_eq_true_iff]
    unfold StartI
    simp
theorem nFollower_does (r : Int) : Does Tryz.prog tab 196 0 [.int .i32 r] [] [] (Val (.bool (decide (FollowI r)))) := by
  refine Does.enter tabOK (g := 196) (fn := Tryz.f196) Tryz.call196 Tryz.func196 rfl 33 rfl rfl [.tmp 2] rfl ?_
  intro w0 F η0 h0
  conv => whnf
  repeat' ((first | refine CALL.value (nStarter_does _) rfl rfl ?_ | refine CALL.value (nDigit_does _) rfl rfl ?_ | refine AU ?_ | ((with_reducible refine IF.mk (fun h => ?_) (fun h => ?_)) <;> (try simp (disch := omega) only [hsB, hsC, lnB, wrap64, wrap32, simprocAttr] at h) <;> try (exfalso; omega))) <;> conv => whnf)
  all_goals
    refine FIN.value h0 rfl (congrArg SV.bool ?_)
    rw [Bool.eq_iff_iff]
    unfold FollowI
    simp_all
    try omega
theorem nLabels_does (r : Int) : Does Tryz.prog tab 176 0 [.int .i32 r] [] [] (Val (.bool (decide (LabelI r)))) := by
  refine Does.enter tabOK (g := 176) (fn := Tryz.f176) Tryz.call176 Tryz.func176 rfl 9 rfl rfl [.tmp 2] rfl ?_
  intro w0 F η0 h0
  conv => whnf
  repeat' ((first | refine CALL.value (nStarter_does _) rfl rfl ?_ | refine CALL.value (nDigit_does _) rfl rfl ?_ | refine AU ?_ | ((with_reducible refine IF.mk (fun h => ?_) (fun h => ?_)) <;> (try simp (disch := omega) only [hsB, hsC, lnB, wrap64, wrap32, simprocAttr] at h) <;> try (exfalso; omega))) <;> conv => whnf)
  all_goals
    refine FIN.value h0 rfl (congrArg SV.bool ?_)
    unfold LabelI
    simp_all
theorem nRun_does (g : Nat) (p : Int → Prop) [DecidablePred p] (hp : ∀ r : Int, Does Tryz.prog tab g 0 [.int .i32 r] [] [] (Val (.bool (decide (p r))))) (s : List UInt8) (i : Int) (hs : Sm s) : Does Tryz.prog tab 175 0 [.str s, .int .i64 i, .fn (.func g) [] []] [] [] (Val (.int .i64 (runM p s i))) := by
  have hn := nextAt_n s i
  refine Does.enter tabOK (g := 175) (fn := Tryz.f175) Tryz.call175 Tryz.func175 rfl 55 rfl rfl [.tmp 6] rfl ?_
  intro w0 F η0 h0
  conv => whnf
  repeat' ((first | refine CALL.value (next_does s _ hs) rfl rfl ?_ | refine CALL.value (hp _) rfl rfl ?_ | refine AU ?_ | ((with_reducible refine IF.mk (fun h => ?_) (fun h => ?_)) <;> (try simp (disch := omega) only [hsB, hsC, lnB, wrap64, wrap32, simprocAttr] at h) <;> try (exfalso; omega))) <;> conv => whnf)
  · exact FIN.value h0 rfl (congrArg (SV.int _) (by unfold runM; rw [if_pos (.inl h)]))
  · exact FIN.value h0 rfl (congrArg (SV.int _) (by unfold runM; rw [if_pos (.inr h)]))
  rename_i h1
  have hi : 0 ≤ i ∧ i < s.length := by
    apply Classical.byContradiction; intro hh; exact h1 (by unfold nextAt; rw [if_pos (by omega)])
  refine LOOP.go tabOK [0, 1] (X := Nat × Nat) (fun x => x.1 ≤ s.length ∧ x.2 ≤ x.1 ∧ runGo s x.1 x.2 = runGo s (i.toNat + (nextAt s i).2.toNat) (i.toNat + (nextAt s i).2.toNat)) (fun x => [(10, .int .i64 (x.1 : Int)), (9, .int .i64 (x.2 : Int))]) (fun i => []) 0 (fun x => s.length - x.1) (i.toNat + (nextAt s i).2.toNat, i.toNat + (nextAt s i).2.toNat) ⟨by omega, by omega, rfl⟩ ?_
  conv => whnf
  refine ⟨by exact GOES.cA h0, ?_⟩
  rintro ⟨j, e⟩ ⟨hj, he, hc⟩
  simp only at hj he hc
  have hn' := nextAt_n s j
  conv => whnf
  repeat' ((first | refine CALL.value (next_does s _ hs) rfl rfl ?_ | refine CALL.value (nFollower_does _) rfl rfl ?_ | refine AU ?_ | ((with_reducible refine IF.mk (fun h => ?_) (fun h => ?_)) <;> (try simp (disch := omega) only [hsB, hsC, lnB, wrap64, wrap32, simprocAttr] at h) <;> try (exfalso; omega))) <;> conv => whnf)
  all_goals first
    | (refine FIN.value h0 rfl (congrArg (SV.int _) ?_)
       unfold runM
       rw [if_neg (by simp [*]), ← hc, runGo_stop (by simp [*])]
       simp (disch := omega) only [wrap64])
    | (refine ⟨(j + (nextAt s j).2.toNat, if (nextAt s j).1 = 46 then e else j + (nextAt s j).2.toNat), ⟨by simp only; omega, by simp only; split <;> omega, ?_⟩, by simp only; omega, ?_⟩
       · simp only
         rw [← hc, ← runGo_step (by simp [*])]
       · conv => whnf
         simp only [*, if_true, if_false]
         exact GOES.cA h0)
theorem nLabelAt_does (s : List UInt8) (i : Int) (hs : Sm s) : Does Tryz.prog tab 141 0 [.str s, .int .i64 i] [] [] (Val (.int .i64 (runM LabelI s i))) := by
  refine Does.enter tabOK (g := 141) (fn := Tryz.f141) Tryz.call141 Tryz.func141 rfl 8 rfl rfl [.tmp 4] rfl ?_
  intro w0 F η0 h0
  conv => whnf
  repeat' ((first | refine CALL.value (nRun_does _ LabelI (fun r => nLabels_does r) s i hs) rfl rfl ?_ | refine AU ?_ | ((with_reducible refine IF.mk (fun h => ?_) (fun h => ?_)) <;> (try simp (disch := omega) only [hsB, hsC, lnB, wrap64, wrap32, simprocAttr] at h) <;> try (exfalso; omega))) <;> conv => whnf)
  exact FIN.value h0 rfl rfl
theorem nLabel_does (s : List UInt8) (hs : Sm s) : Does Tryz.prog tab 115 0 [.str s] [] [] (Val (.int .i64 (labelM s))) := by
  refine Does.enter tabOK (g := 115) (fn := Tryz.f115) Tryz.call115 Tryz.func115 rfl 14 rfl rfl [.tmp 2] rfl ?_
  intro w0 F η0 h0
  conv => whnf
  repeat' ((first | refine CALL.value (nLabelAt_does s _ hs) rfl rfl ?_ | refine AU ?_ | ((with_reducible refine IF.mk (fun h => ?_) (fun h => ?_)) <;> (try simp (disch := omega) only [hsB, hsC, lnB, wrap64, wrap32, simprocAttr] at h) <;> try (exfalso; omega))) <;> conv => whnf)
  · exact FIN.value h0 rfl (congrArg (SV.int _) (by unfold labelM; rw [if_pos (by simpa using h)]))
  · exact FIN.value h0 rfl (congrArg (SV.int _) (by unfold labelM; rw [if_neg (by simp; exact h)]))
end Go.Proofs.YtjbbkimodgffiaaGreatDoor
/- names: parts of tags, walked. Conditions: none. -/
set_option linter.unusedVariables false
set_option linter.unusedSimpArgs false
set_option maxRecDepth 20000
set_option maxHeartbeats 8000000
namespace Go.Proofs.YtjbbkimodgffiaaGreatDoor
open Go.Sx Go.Our
theorem made_does (s : List UInt8) (least most : Int) (pure : Bool) (hs : Sm s) : Does Tryz.prog tab 204 0 [.str s, .int .i64 least, .int .i64 most, .bool pure] [] [] (Val (.bool (madeM s least most pure))) := by
  refine Does.enter tabOK (g := 204) (fn := Tryz.f204) Tryz.call204 Tryz.func204 rfl 37 rfl rfl [.tmp 8] rfl ?_
  intro w0 F η0 h0
  conv => whnf
  refine LOOP.go tabOK [0, 1, 2, 3, 12] (X := Nat) (fun i => i ≤ s.length ∧ allB (partB pure) s i = allB (partB pure) s 0) (fun i => []) (fun i => [(0, .siter s i)]) 1 (fun i => s.length - i) 0 ⟨by omega, rfl⟩ ?_
  conv => whnf
  refine ⟨by exact GOES.cA h0, ?_⟩
  rintro i ⟨hi, hc⟩
  conv => whnf
  refine ⟨fun h => ?_, fun h => ?_⟩
  · have h : i < s.length := by simpa using h
    have hf := deco_fits s i h
    have hp := deco_pos s i
    have hd : ((deco s i).1 : Int) = byteAt s i ∧ (deco s i).2 = 1 ∨ 128 ≤ byteAt s i ∧ 128 ≤ (deco s i).1 := by
      have hb := byteAt_lt s i
      by_cases ha : byteAt s i < 128
      · left; rw [deco_ascii ha]; simp; omega
      · right; exact ⟨by omega, deco_high (by omega)⟩
    unfold deco at *
    generalize Utf8.decode ⟨s.toArray⟩ i = d at *
    obtain ⟨r, n⟩ := d
    simp only at hf hp hd
    have key : allB (partB pure) s 0 = (partB pure r && allB (partB pure) s (i + n)) ∨ 128 ≤ r ∧ allB (partB pure) s 0 = false := by
      rcases hd with ⟨h1, rfl⟩ | ⟨h1, h2⟩
      · left; rw [← hc, allB_at h, h1]
      · right; exact ⟨h2, by rw [← hc, allB_at h, partB_high h1, Bool.false_and]⟩
    conv => whnf
    repeat' ((first | refine CALL.value (nLetter_does _) rfl rfl ?_ | refine CALL.value (nDigit_does _) rfl rfl ?_ | refine AU ?_ | ((with_reducible refine IF.mk (fun h => ?_) (fun h => ?_)) <;> (try simp (disch := omega) only [hsB, hsC, lnB, wrap64, wrap32, simprocAttr] at h) <;> try (exfalso; omega))) <;> conv => whnf)
    all_goals first
      | (refine FIN.value h0 rfl (congrArg SV.bool ?_)
         have h1 : partB pure r = false := by unfold partB letterB digitB; simp [*]
         have h2 : allB (partB pure) s 0 = false := by rcases key with h | h <;> simp [h, h1]
         unfold madeM; rw [h2]; rfl)
      | (have h1 : partB pure r = true := by unfold partB letterB digitB; simp [*]
         refine ⟨i + n, ⟨hf, ?_⟩, by omega, ?_⟩
         · rcases key with h | h
           · rw [h, h1, Bool.true_and]
           · rw [partB_high (by omega)] at h1; cases h1
         · conv => whnf
           exact GOES.cA h0)
  · have h : s.length ≤ i := by simpa using h
    conv => whnf
    repeat' ((first | refine AU ?_ | ((with_reducible refine IF.mk (fun h => ?_) (fun h => ?_)) <;> (try simp (disch := omega) only [hsB, hsC, lnB, wrap64, wrap32, simprocAttr] at h) <;> try (exfalso; omega))) <;> conv => whnf)
    all_goals
      refine FIN.value h0 rfl (congrArg SV.bool ?_)
      unfold madeM
      rw [← hc, allB_end h, Bool.eq_iff_iff]
      simp [Bool.cond_eq_ite]
theorem private_does (s : List UInt8) : Does Tryz.prog tab 180 0 [.str s] [] [] (Val (.bool (privateM s))) := by
  refine Does.enter tabOK (g := 180) (fn := Tryz.f180) Tryz.call180 Tryz.func180 rfl 9 rfl rfl [.tmp 2] rfl ?_
  intro w0 F η0 h0
  conv => whnf
  repeat' ((first | refine AU ?_ | ((with_reducible refine IF.mk (fun h => ?_) (fun h => ?_)) <;> (try simp (disch := omega) only [hsB, hsC, lnB, wrap64, wrap32, simprocAttr] at h) <;> try (exfalso; omega))) <;> conv => whnf)
  refine FIN.value h0 rfl (congrArg SV.bool ?_)
  unfold privateM
  rw [Bool.eq_iff_iff]
  simp [Bool.cond_eq_ite]
theorem region_does (s : List UInt8) (hs : Sm s) : Does Tryz.prog tab 207 0 [.str s] [] [] (Val (.bool (regionM s))) := by
  have b0 := byteAt_lt s 0; have b1 := byteAt_lt s 1; have b2 := byteAt_lt s 2
  refine Does.enter tabOK (g := 207) (fn := Tryz.f207) Tryz.call207 Tryz.func207 rfl 28 rfl rfl [.tmp 2] rfl ?_
  intro w0 F η0 h0
  conv => whnf
  repeat' ((first | refine CALL.value (made_does _ _ _ _ hs) rfl rfl ?_ | refine CALL.value (nDigit_does _) rfl rfl ?_ | refine AU ?_ | ((with_reducible refine IF.mk (fun h => ?_) (fun h => ?_)) <;> (try simp (disch := omega) only [hsB, hsC, lnB, wrap64, wrap32, simprocAttr] at h) <;> try (exfalso; omega))) <;> conv => whnf)
  all_goals
    refine FIN.value h0 rfl (congrArg SV.bool ?_)
    unfold regionM digitB
    try simp (disch := omega) only [wrap32] at *
    simp_all
    try omega
theorem variant_does (s : List UInt8) (hs : Sm s) : Does Tryz.prog tab 208 0 [.str s] [] [] (Val (.bool (variantM s))) := by
  have b0 := byteAt_lt s 0
  have hm : madeM s 4 4 false = true → s.length = 4 := by unfold madeM; simp; omega
  refine Does.enter tabOK (g := 208) (fn := Tryz.f208) Tryz.call208 Tryz.func208 rfl 15 rfl rfl [.tmp 2] rfl ?_
  intro w0 F η0 h0
  conv => whnf
  repeat' ((first | refine CALL.value (made_does _ _ _ _ hs) rfl rfl ?_ | refine CALL.value (nDigit_does _) rfl rfl ?_ | (refine NEED.mk (by have := hm (by assumption); omega) ?_; conv => whnf) | refine AU ?_ | ((with_reducible refine IF.mk (fun h => ?_) (fun h => ?_)) <;> (try simp (disch := omega) only [hsB, hsC, lnB, wrap64, wrap32, simprocAttr] at h) <;> try (exfalso; omega))) <;> conv => whnf)
  all_goals
    refine FIN.value h0 rfl (congrArg SV.bool ?_)
    unfold variantM digitB
    try simp (disch := omega) only [wrap32] at *
    simp_all
theorem lower_does (s : List UInt8) (hs : Sm s) : Does Tryz.prog tab 144 0 [.str s] [] [] (Val (.str (lowerM s))) := by
  refine Does.enter tabOK (g := 144) (fn := Tryz.f144) Tryz.call144 Tryz.func144 rfl 29 rfl rfl [.tmp 2] rfl ?_
  intro w0 F η0 h0
  conv => whnf
  repeat' ((first | refine AU ?_ | ((with_reducible refine IF.mk (fun h => ?_) (fun h => ?_)) <;> (try simp (disch := omega) only [hsB, hsC, lnB, wrap64, wrap32, simprocAttr] at h) <;> try (exfalso; omega))) <;> conv => whnf)
  refine LOOP.go tabOK [3, 8, 9] (X := Nat) (fun i => i ≤ s.length) (fun i => [(10, .int .i64 (i : Int))]) (fun i => [(0, .rows 1 ((curL s i).map Sx.bytesRow))]) 1 (fun i => s.length - i) 0 (by omega) ?_
  conv => whnf
  refine ⟨by (refine GOES.cutting h0 rfl rfl rfl (by first | rfl | (simp only [belowO, belowH, plainLL_below _ (plainBytes _), Bool.and_self, Bool.and_true] <;> rfl)) ?_ ?_ <;> (repeat' (first | (with_reducible rfl) | (exact sl_eq rfl (by first | (simp; done) | omega | (simp; omega))) | (exact congrArg (SV.int _) (by first | omega | (simp (disch := omega) only [lnB, wrap64, wrap32] <;> omega) | (simp; done) | (simp <;> omega))) | (exact congrArg (Hp.rows _) (by rw [curL_zero])) | ((conv => whnf); refine ⟨?_, ?_⟩) | exact trivial | rfl))), ?_⟩
  intro i hi
  have hlen := curL_len s i
  conv => whnf
  repeat' ((first | (refine GET.at (row := Sx.bytesRow (s[i]'(by omega))) (by rw [show 0 + (i : Int).toNat = i by omega]; exact rowL_get (by omega)) ?_; conv => whnf) | refine AU ?_ | ((with_reducible refine IF.mk (fun h => ?_) (fun h => ?_)) <;> (try simp (disch := omega) only [hsB, hsC, lnB, wrap64, wrap32, simprocAttr] at h) <;> try (exfalso; omega))) <;> conv => whnf)
  · have hl : i < s.length := by omega
    refine ⟨i + 1, by omega, by omega, ?_⟩
    conv => whnf
    (refine GOES.cutting h0 rfl rfl rfl (by first | rfl | (simp only [belowO, belowH, plainLL_below _ (plainBytes _), Bool.and_self, Bool.and_true] <;> rfl)) ?_ ?_ <;> (repeat' (first | (with_reducible rfl) | (exact sl_eq rfl (by first | (simp; done) | omega | (simp; omega))) | (exact congrArg (SV.int _) (by first | omega | (simp (disch := omega) only [lnB, wrap64, wrap32] <;> omega) | (simp; done) | (simp <;> omega))) | (exact congrArg (Hp.rows _) (by rw [lowB_up h, show 0 + (i : Int).toNat = i by omega, rowL_set hl])) | ((conv => whnf); refine ⟨?_, ?_⟩) | exact trivial | rfl)))
  · have hl : i < s.length := by omega
    refine ⟨i + 1, by omega, by omega, ?_⟩
    conv => whnf
    (refine GOES.cutting h0 rfl rfl rfl (by first | rfl | (simp only [belowO, belowH, plainLL_below _ (plainBytes _), Bool.and_self, Bool.and_true] <;> rfl)) ?_ ?_ <;> (repeat' (first | (with_reducible rfl) | (exact sl_eq rfl (by first | (simp; done) | omega | (simp; omega))) | (exact congrArg (SV.int _) (by first | omega | (simp (disch := omega) only [lnB, wrap64, wrap32] <;> omega) | (simp; done) | (simp <;> omega))) | (exact congrArg (Hp.rows _) (by rw [curL_same hl (lowB_id (by omega))])) | ((conv => whnf); refine ⟨?_, ?_⟩) | exact trivial | rfl)))
  · refine NEED.mk (needText (by omega)) ?_
    conv => whnf
    refine FIN.value h0 rfl (congrArg SV.str ?_)
    have := textAll (curL s i)
    rw [hlen] at this
    rw [this, curL_all (by omega)]
end Go.Proofs.YtjbbkimodgffiaaGreatDoor
/- strings.Split at a hyphen, slices.Contains at texts, cmp.Or at error numbers, walked. Conditions: none. -/
set_option linter.unusedVariables false
set_option linter.unusedSimpArgs false
set_option maxRecDepth 20000
set_option maxHeartbeats 8000000
namespace Go.Proofs.YtjbbkimodgffiaaGreatDoor
open Go.Sx Go.Our
theorem countString_does (s : List UInt8) (c : Int) : Does Tryz.prog tab 228 0 [.str s, .int .u8 c] [] [] (Val (.int .i64 (Lib.countByte s c.toNat.toUInt8 : Nat))) := by
  refine Does.says fun η w vs hd => ?_
  simp only [DenL, Den] at hd
  obtain ⟨u, us, rfl, rfl, u', us', rfl, rfl, rfl⟩ := hd
  refine ⟨_, ?_, rfl⟩
  rw [run_callFunc_extern Tryz.func228 (by kernel_rfl) (by kernel_rfl) (by kernel_rfl) (e := Extern.BytealgCount.count) (by kernel_rfl), Lib.run_countString]
  rfl
theorem count_does (s : List UInt8) : Does Tryz.prog tab 218 0 [.str s, .str [45]] [] [] (Val (.int .i64 (s.count 45 : Nat))) := by
  refine Does.enter tabOK (g := 218) (fn := Tryz.f218) Tryz.call218 Tryz.func218 rfl 34 rfl rfl [.tmp 4] rfl ?_
  intro w0 F η0 h0
  conv => whnf
  repeat' ((first | refine CALL.value (countString_does _ _) rfl rfl ?_ | refine AU ?_ | ((with_reducible refine IF.mk (fun h => ?_) (fun h => ?_)) <;> (try simp (disch := omega) only [hsB, hsC, lnB, wrap64, wrap32, simprocAttr] at h) <;> try (exfalso; omega))) <;> conv => whnf)
  all_goals first
    | exact FIN.value h0 rfl rfl
    | (exfalso; simp at *; done)
theorem slIndex_does (s : List UInt8) : Does Tryz.prog tab 229 0 [.str s, .str [45]] [] [] (Val (.int .i64 (Lib.indexByte s 45))) := by
  refine Does.enter tabOK (g := 229) (fn := Tryz.f229) Tryz.call229 Tryz.func229 rfl 143 rfl rfl [.tmp 4] rfl ?_
  intro w0 F η0 h0
  conv => whnf
  repeat' ((first | refine CALL.value (indexByteString_does _ _) rfl rfl ?_ | refine CALL.value (slIndexByte_does _ _) rfl rfl ?_ | refine CALL.value (indexByte_does _ _) rfl rfl ?_ | refine AU ?_ | ((with_reducible refine IF.mk (fun h => ?_) (fun h => ?_)) <;> (try simp (disch := omega) only [hsB, hsC, lnB, wrap64, wrap32, simprocAttr] at h) <;> try (exfalso; omega))) <;> conv => whnf)
  all_goals first
    | exact FIN.value h0 rfl rfl
    | (subst h; exact FIN.value h0 rfl rfl)
    | (rcases h with h | h
       · exact absurd h (by decide)
       · subst h; exact FIN.value h0 rfl rfl)
    | exact absurd (by assumption : ¬ ((0 + 1 : Nat) : Int) = 1) (by decide)
theorem index_does (s : List UInt8) : Does Tryz.prog tab 219 0 [.str s, .str [45]] [] [] (Val (.int .i64 (Lib.indexByte s 45))) := by
  refine Does.enter tabOK (g := 219) (fn := Tryz.f219) Tryz.call219 Tryz.func219 rfl 8 rfl rfl [.tmp 4] rfl ?_
  intro w0 F η0 h0
  conv => whnf
  repeat' ((first | refine CALL.value (slIndex_does _) rfl rfl ?_ | refine AU ?_ | ((with_reducible refine IF.mk (fun h => ?_) (fun h => ?_)) <;> (try simp (disch := omega) only [hsB, hsC, lnB, wrap64, wrap32, simprocAttr] at h) <;> try (exfalso; omega))) <;> conv => whnf)
  exact FIN.value h0 rfl rfl
theorem needMake {l c : Int} {b : Nat} (B : Nat) (hb : Nat.ble b B = true) (h0 : 0 ≤ l) (h1 : l ≤ c) (h2 : (B : Int) * c ≤ 281474976710656 ∧ c ≤ 9223372036854775807) : 0 ≤ l ∧ l ≤ c ∧ c ≤ 9223372036854775807 ∧ (b : Int) * c ≤ 281474976710656 :=
  ⟨h0, h1, h2.2, Int.le_trans (Int.mul_le_mul_of_nonneg_right (by have := Nat.le_of_ble_eq_true hb; omega) (by omega)) h2.1⟩
theorem genSplit_does (s : List UInt8) (hs : s.length ≤ 68719476736) : Does Tryz.prog tab 202 0 [.str s, .str [45], .int .i64 0, .int .i64 (-1)] [] [] (NewS 1 ((splitM s).map strRow)) := by
  have hcnt := split_count s
  have hlen := split_len s
  have hne := split_ne s
  refine Does.enter tabOK (g := 202) (fn := Tryz.f202) Tryz.call202 Tryz.func202 rfl 66 rfl rfl [.tmp 8] rfl ?_
  intro w0 F η0 h0
  conv => whnf
  repeat' ((first | refine CALL.value (count_does _) rfl rfl ?_ | refine AU ?_ | ((with_reducible refine IF.mk (fun h => ?_) (fun h => ?_)) <;> (try simp (disch := omega) only [hsB, hsC, lnB, wrap64, wrap32, simprocAttr] at h) <;> try (exfalso; omega))) <;> conv => whnf)
  have hn : (if IntKind.i64.wrap ((s.length : Int) + 1) < IntKind.i64.wrap (((s.count 45 : Nat) : Int) + 1) then IntKind.i64.wrap ((s.length : Int) + 1) else IntKind.i64.wrap (((s.count 45 : Nat) : Int) + 1)) = ((splitM s).length : Int) := by
    simp (disch := omega) only [wrap64]
    rw [if_neg (by omega)]; omega
  rw [hn]
  refine NEED.mk (needMake 16 rfl (by omega) (by omega) (by omega)) ?_
  conv => whnf
  rw [show List.replicate ((splitM s).length : Int).toNat [SV.str []] = fillR [] (splitM s).length by rw [Int.toNat_natCast]; rfl]
  refine LOOP.go tabOK [1, 2, 3, 9] (X := List (List UInt8) × List UInt8) (fun x => splitM s = x.1 ++ splitM x.2 ∧ x.2.length ≤ s.length) (fun x => [(10, .int .i64 (x.1.length : Int)), (0, .str x.2)]) (fun x => [(0, .rows 1 (fillR x.1 ((splitM s).length - x.1.length)))]) 1 (fun x => (splitM s).length - x.1.length) ([], s) ⟨rfl, Nat.le_refl _⟩ ?_
  conv => whnf
  refine ⟨by (refine GOES.cutting h0 rfl rfl rfl (by first | rfl | (simp only [belowO, belowH, plainLL_below _ (plainFill _ _), Bool.and_self, Bool.and_true] <;> rfl)) ?_ ?_ <;> (repeat' (first | (with_reducible rfl) | (exact sl_eq rfl (by first | (simp; done) | omega | (simp; omega))) | (exact congrArg (SV.int _) (by first | omega | (simp (disch := omega) only [lnB, wrap64, wrap32] <;> omega) | (simp; done) | (simp <;> omega))) | (exact congrArg (Hp.rows _) (by rfl)) | ((conv => whnf); refine ⟨?_, ?_⟩) | exact trivial | rfl))), ?_⟩
  rintro ⟨d, u⟩ ⟨he, hu⟩
  dsimp only at he hu ⊢
  have hd : d.length + (splitM u).length = (splitM s).length := by rw [he, List.length_append]
  have hun : 1 ≤ (splitM u).length := by have := split_count u; omega
  have hm : Lib.indexByte u 45 = -1 ∧ splitM u = [u] ∨ ∃ m : Nat, Lib.indexByte u 45 = m ∧ m < u.length ∧ splitM u = u.take m :: splitM (u.drop (m + 1)) := by
    have hge := Lib.indexByte_ge u 45
    by_cases h : Lib.indexByte u 45 = -1
    · exact .inl ⟨h, split_none h⟩
    · have e : Lib.indexByte u 45 = ((Lib.indexByte u 45).toNat : Int) := by omega
      have := split_some e
      exact .inr ⟨_, e, this.1, this.2⟩
  conv => whnf
  rcases hm with ⟨hm, hs1⟩ | ⟨m, hm, hml, hs1⟩
  · have h1 : (splitM u).length = 1 := by rw [hs1]; rfl
    repeat' ((first | refine CALL.value (index_does _) rfl rfl ?_ | (refine GET.at (row := strRow []) (fill_get (by omega) (by omega)) ?_; conv => whnf) | (refine NEED.mk (by rw [wrap64 (by omega) (by omega)]; refine ⟨by omega, ?_⟩; show _ ≤ ((max (((splitM s).length : Int).toNat) (_ - 0) : Nat) : Int); omega) ?_; conv => whnf) | refine AU ?_ | ((with_reducible refine IF.mk (fun h => ?_) (fun h => ?_)) <;> (try simp (disch := omega) only [hsB, hsC, lnB, wrap64, wrap32, simprocAttr] at h) <;> try (exfalso; omega))) <;> conv => whnf)
    rw [fill_set (by omega) (by omega)]
    have hw : (IntKind.i64.wrap ((d.length : Int) + 1)).toNat = ((splitM s).map strRow).length := by
      rw [wrap64 (by omega) (by omega), List.length_map]; omega
    rw [hw, show (splitM s).length - d.length - 1 = 0 by omega, show fillR (d ++ [u]) 0 = (splitM s).map strRow by rw [he, hs1]; simp [fillR]]
    exact FIN.rows h0 0 1 _ rfl rfl rfl (plainStrs _) ⟨rfl, rfl, rfl⟩
  · have h1 : 2 ≤ (splitM u).length := by rw [hs1]; have := split_count (u.drop (m + 1)); simp; omega
    repeat' ((first | refine CALL.value (index_does _) rfl rfl ?_ | (refine GET.at (row := strRow []) (fill_get (by omega) (by omega)) ?_; conv => whnf) | refine AU ?_ | ((with_reducible refine IF.mk (fun h => ?_) (fun h => ?_)) <;> (try simp (disch := omega) only [hsB, hsC, lnB, wrap64, wrap32, simprocAttr] at h) <;> try (exfalso; omega))) <;> conv => whnf)
    have hw1 : (IntKind.i64.wrap (Lib.indexByte u 45 + (([45] : List UInt8).length : Int))).toNat = m + 1 := by
      rw [hm]; simp only [List.length_cons, List.length_nil]; rw [wrap64 (by omega) (by omega)]; omega
    have hw2 : (IntKind.i64.wrap (Lib.indexByte u 45 + 0)).toNat = m := by
      rw [hm, wrap64 (by omega) (by omega)]; omega
    rw [hw1, hw2, fill_set (by omega) (by omega)]
    refine ⟨(d ++ [u.take m], u.drop (m + 1)), ⟨by rw [he, hs1]; simp, by simp; omega⟩, by simp; omega, ?_⟩
    dsimp only
    conv => whnf
    (refine GOES.cutting h0 rfl rfl rfl (by first | rfl | (simp only [belowO, belowH, plainLL_below _ (plainFill _ _), Bool.and_self, Bool.and_true] <;> rfl)) ?_ ?_ <;> (repeat' (first | (with_reducible rfl) | (exact sl_eq rfl (by first | (simp; done) | omega | (simp; omega))) | (exact congrArg (SV.int _) (by first | omega | (simp (disch := omega) only [lnB, wrap64, wrap32] <;> omega) | (simp; done) | (simp <;> omega))) | (exact congrArg (Hp.rows _) (by congr 1; simp; omega)) | ((conv => whnf); refine ⟨?_, ?_⟩) | exact trivial | rfl)))
theorem split_does (s : List UInt8) (hs : s.length ≤ 68719476736) : Does Tryz.prog tab 178 0 [.str s, .str [45]] [] [] (NewS 1 ((splitM s).map strRow)) := by
  refine Does.enter tabOK (g := 178) (fn := Tryz.f178) Tryz.call178 Tryz.func178 rfl 8 rfl rfl [.tmp 4] rfl ?_
  intro w0 F η0 h0
  conv => whnf
  refine CALL.newS (genSplit_does s hs) rfl (plainStrs _) ?_
  conv => whnf
  exact FIN.rows h0 0 1 _ rfl rfl rfl (plainStrs _) ⟨rfl, rfl, rfl⟩
end Go.Proofs.YtjbbkimodgffiaaGreatDoor
/- names: the reader of tags, walked. Conditions: none. -/
set_option linter.unusedVariables false
set_option linter.unusedSimpArgs false
set_option maxRecDepth 20000
set_option maxHeartbeats 8000000
namespace Go.Proofs.YtjbbkimodgffiaaGreatDoor
open Go.Sx Go.Our
theorem lang1_does (s : List UInt8) (hs : Sm s) : Does Tryz.prog tab 203 0 [.str s] [] [] (Val (.bool (madeM s 2 8 true))) := by
  refine Does.enter tabOK (g := 203) (fn := Tryz.f203) Tryz.call203 Tryz.func203 rfl 5 rfl rfl [.tmp 2] rfl ?_
  intro w0 F η0 h0
  conv => whnf
  repeat' ((first | refine CALL.value (made_does _ _ _ _ hs) rfl rfl ?_ | refine AU ?_ | ((with_reducible refine IF.mk (fun h => ?_) (fun h => ?_)) <;> (try simp (disch := omega) only [hsB, hsC, lnB, wrap64, wrap32, simprocAttr] at h) <;> try (exfalso; omega))) <;> conv => whnf)
  exact FIN.value h0 rfl rfl
theorem lang2_does (s : List UInt8) (hs : Sm s) : Does Tryz.prog tab 205 0 [.str s] [] [] (Val (.bool (madeM s 3 3 true))) := by
  refine Does.enter tabOK (g := 205) (fn := Tryz.f205) Tryz.call205 Tryz.func205 rfl 5 rfl rfl [.tmp 2] rfl ?_
  intro w0 F η0 h0
  conv => whnf
  repeat' ((first | refine CALL.value (made_does _ _ _ _ hs) rfl rfl ?_ | refine AU ?_ | ((with_reducible refine IF.mk (fun h => ?_) (fun h => ?_)) <;> (try simp (disch := omega) only [hsB, hsC, lnB, wrap64, wrap32, simprocAttr] at h) <;> try (exfalso; omega))) <;> conv => whnf)
  exact FIN.value h0 rfl rfl
theorem rest1_does (s : List UInt8) (hs : Sm s) : Does Tryz.prog tab 206 0 [.str s] [] [] (Val (.bool (madeM s 4 4 true))) := by
  refine Does.enter tabOK (g := 206) (fn := Tryz.f206) Tryz.call206 Tryz.func206 rfl 5 rfl rfl [.tmp 2] rfl ?_
  intro w0 F η0 h0
  conv => whnf
  repeat' ((first | refine CALL.value (made_does _ _ _ _ hs) rfl rfl ?_ | refine AU ?_ | ((with_reducible refine IF.mk (fun h => ?_) (fun h => ?_)) <;> (try simp (disch := omega) only [hsB, hsC, lnB, wrap64, wrap32, simprocAttr] at h) <;> try (exfalso; omega))) <;> conv => whnf)
  exact FIN.value h0 rfl rfl
theorem rest2_does (s : List UInt8) (hs : Sm s) : Does Tryz.prog tab 210 0 [.str s] [] [] (Val (.bool (singleM s))) := by
  refine Does.enter tabOK (g := 210) (fn := Tryz.f210) Tryz.call210 Tryz.func210 rfl 10 rfl rfl [.tmp 2] rfl ?_
  intro w0 F η0 h0
  conv => whnf
  repeat' ((first | refine CALL.value (made_does _ _ _ _ hs) rfl rfl ?_ | refine CALL.value (private_does _) rfl rfl ?_ | refine AU ?_ | ((with_reducible refine IF.mk (fun h => ?_) (fun h => ?_)) <;> (try simp (disch := omega) only [hsB, hsC, lnB, wrap64, wrap32, simprocAttr] at h) <;> try (exfalso; omega))) <;> conv => whnf)
  all_goals
    refine FIN.value h0 rfl (congrArg SV.bool ?_)
    unfold singleM
    simp_all
theorem tail1_does (s : List UInt8) (least : Int) (hs : Sm s) : Does Tryz.prog tab 211 1 [.str s, .ptr (.loc 0) 0 0 0] [] [(0, .box [.int .i64 least])] (ValK 1 (.bool (madeM s least 8 false))) := by
  refine Does.enter tabOK (g := 211) (fn := Tryz.f211) Tryz.call211 Tryz.func211 rfl 7 rfl rfl [.tmp 3] rfl ?_
  intro w0 F η0 h0
  conv => whnf
  repeat' ((first | refine CALL.value (made_does _ _ _ _ hs) rfl rfl ?_ | refine AU ?_ | ((with_reducible refine IF.mk (fun h => ?_) (fun h => ?_)) <;> (try simp (disch := omega) only [hsB, hsC, lnB, wrap64, wrap32, simprocAttr] at h) <;> try (exfalso; omega))) <;> conv => whnf)
  exact FIN.valueK h0 rfl rfl
/-- The reader: where it stands among the parts, and what it has of the tag. -/
def rdBox (i m : Nat) (L E S R : List UInt8) (v x : Nat) (P : List UInt8) : Hp := .box [.sl (.loc 1) i 1 m none, .str L, .str E, .str S, .str R, .sl (.loc 2) 0 1 v none, .sl (.loc 3) 0 1 x none, .str P]
/-- The same, with nothing said of the variants and extensions. -/
def rdBoxA (i m : Nat) (L E S R : List UInt8) (v x : Nat) (P : List UInt8) : Hp := .box [.sl (.loc 1) i 1 m none, .str L, .str E, .str S, .str R, .any, .any, .str P]
/-- The same, where these have other names. -/
def rdBoxC (i m : Nat) (L E S R : List UInt8) (v x : Nat) (P : List UInt8) : Hp := .box [.sl (.loc 1) i 1 m none, .str L, .str E, .str S, .str R, .sl (.loc 4) 0 1 v none, .sl (.loc 5) 0 1 x none, .str P]
/-- Does the next part say what p says? -/
def seesM (p : List UInt8 → Bool) (ps : List (List UInt8)) (i : Nat) : Bool := match ps[i]? with | some s => p s | none => false
theorem sum_le {ps : List (List UInt8)} {i : Nat} {p : List UInt8} (h : ps[i]? = some p) : ((ps.take (i + 1)).map List.length).sum = ((ps.take i).map List.length).sum + p.length := by
  obtain ⟨h1, rfl⟩ := List.getElem?_eq_some_iff.1 h
  rw [List.take_succ_eq_append_getElem h1, List.map_append, List.sum_append]; simp
/-- All the bytes of the parts. -/
abbrev bulkM (ps : List (List UInt8)) : Nat := (ps.map List.length).sum
theorem bulk_take (ps : List (List UInt8)) (i : Nat) : ((ps.take i).map List.length).sum ≤ bulkM ps := by
  conv => rhs; unfold bulkM; rw [← List.take_append_drop i ps]
  rw [List.map_append, List.sum_append]; omega
theorem sees_does (g : Nat) (p : List UInt8 → Bool) (ps : List (List UInt8)) (hp : ∀ s ∈ ps, Does Tryz.prog tab g 0 [.str s] [] [] (Val (.bool (p s)))) (i m : Nat) (him : i + m = ps.length) (L E S R : List UInt8) (v x : Nat) (P : List UInt8) :
    Does Tryz.prog tab 179 4 [.ptr (.loc 0) 0 0 0, .fn (.func g) [] []] [] [(0, rdBox i m L E S R v x P), (1, .rows 1 (ps.map strRow))] (ValK 4 (.bool (seesM p ps i))) := by
  refine Does.enter tabOK (g := 179) (fn := Tryz.f179) Tryz.call179 Tryz.func179 rfl 21 rfl rfl [.tmp 4] rfl ?_
  intro w0 F η0 h0
  conv => whnf
  repeat' ((first | (refine GET.at (row := strRow (ps[i]'(by omega))) (by rw [List.getElem?_map, show i + (0 : Int).toNat = i by simp, List.getElem?_eq_getElem (by omega)]; rfl) ?_; conv => whnf) | refine CALL.value (hp _ (List.getElem_mem (by omega))) rfl rfl ?_ | refine AU ?_ | ((with_reducible refine IF.mk (fun h => ?_) (fun h => ?_)) <;> (try simp (disch := omega) only [hsB, hsC, lnB, wrap64, wrap32, simprocAttr] at h) <;> try (exfalso; omega))) <;> conv => whnf)
  · refine FIN.valueK h0 rfl (congrArg SV.bool ?_)
    unfold seesM; rw [List.getElem?_eq_getElem (by omega)]; rfl
  · refine FIN.valueK h0 rfl (congrArg SV.bool ?_)
    unfold seesM; rw [List.getElem?_eq_none (by omega)]
/-- As sees_does, for the function that asks for so many bytes. -/
theorem seesTail_does (least : Int) (ps : List (List UInt8)) (hp : ∀ s ∈ ps, Sm s) (i m : Nat) (him : i + m = ps.length) (L E S R : List UInt8) (v x : Nat) (P : List UInt8) :
    Does Tryz.prog tab 179 5 [.ptr (.loc 0) 0 0 0, .fn (.func 211) [] [.ptr (.loc 4) 0 0 0]] [] [(0, rdBox i m L E S R v x P), (1, .rows 1 (ps.map strRow)), (4, .box [.int .i64 least])] (ValK 5 (.bool (seesM (fun s => madeM s least 8 false) ps i))) := by
  refine Does.enter tabOK (g := 179) (fn := Tryz.f179) Tryz.call179 Tryz.func179 rfl 21 rfl rfl [.tmp 4] rfl ?_
  intro w0 F η0 h0
  conv => whnf
  repeat' ((first | (refine GET.at (row := strRow (ps[i]'(by omega))) (by rw [List.getElem?_map, show i + (0 : Int).toNat = i by simp, List.getElem?_eq_getElem (by omega)]; rfl) ?_; conv => whnf) | (refine CALL.looks [4] (tail1_does (ps[i]'(by omega)) least (hp _ (List.getElem_mem (by omega)))) rfl rfl rfl rfl ⟨⟨rfl, rfl, rfl⟩, trivial⟩ ?_; conv => whnf) | refine AU ?_ | ((with_reducible refine IF.mk (fun h => ?_) (fun h => ?_)) <;> (try simp (disch := omega) only [hsB, hsC, lnB, wrap64, wrap32, simprocAttr] at h) <;> try (exfalso; omega))) <;> conv => whnf)
  · refine FIN.valueK h0 rfl (congrArg SV.bool ?_)
    unfold seesM; rw [List.getElem?_eq_getElem (by omega)]; rfl
  · refine FIN.valueK h0 rfl (congrArg SV.bool ?_)
    unfold seesM; rw [List.getElem?_eq_none (by omega)]
theorem next_tag_does (ps : List (List UInt8)) (i m : Nat) (him : i + (m + 1) = ps.length) (p : List UInt8) (hp : ps[i]? = some p) (L E S R : List UInt8) (v x : Nat) (P : List UInt8) :
    Does Tryz.prog tab 183 4 [.ptr (.loc 0) 0 0 0] [(0, rdBox i (m + 1) L E S R v x P)] [(1, .rows 1 (ps.map strRow))] (fun r O nx => r = .str p ∧ O = [(0, rdBox (i + 1) m L E S R v x P)] ∧ nx = 4) := by
  refine Does.enter tabOK (g := 183) (fn := Tryz.f183) Tryz.call183 Tryz.func183 rfl 19 rfl rfl [.tmp 2] rfl ?_
  intro w0 F η0 h0
  conv => whnf
  repeat' ((first | (refine GET.at (row := strRow p) (by rw [List.getElem?_map, show i + (0 : Int).toNat = i by simp, hp]; rfl) ?_; conv => whnf) | refine AU ?_ | ((with_reducible refine IF.mk (fun h => ?_) (fun h => ?_)) <;> (try simp (disch := omega) only [hsB, hsC, lnB, wrap64, wrap32, simprocAttr] at h) <;> try (exfalso; omega))) <;> conv => whnf)
  exact FIN.here h0 (Oc := [(0, rdBox (i + 1) m L E S R v x P)]) rfl rfl rfl ⟨rfl, trivial⟩ ⟨rfl, rfl, rfl⟩
theorem tail_does (least : Int) (ps : List (List UInt8)) (hb : bulkM ps + ps.length ≤ 1152921504606846976) (i m : Nat) (him : i + m = ps.length) (L E S R : List UInt8) (v x : Nat) (P : List UInt8) :
    Does Tryz.prog tab 184 4 [.ptr (.loc 0) 0 0 0, .int .i64 least] [(0, rdBox i m L E S R v x P)] [(1, .rows 1 (ps.map strRow))]
      (fun r O nx => ∃ (n : Nat) (s : List UInt8), n = spanM (fun s => madeM s least 8 false) (ps.drop i) ∧ s.length ≤ bulkM ps + ps.length ∧ r = .tup [.str s, .bool (decide (n ≠ 0))] ∧ O = [(0, rdBox (i + n) (m - n) L E S R v x P)] ∧ nx = 4) := by
  have hsm : ∀ s ∈ ps, Sm s := by
    intro s hs
    obtain ⟨j, hj, rfl⟩ := List.getElem_of_mem hs
    have h1 := sum_le (List.getElem?_eq_getElem hj)
    have h2 := bulk_take ps (j + 1)
    omega
  refine Does.enter tabOK (g := 184) (fn := Tryz.f184) Tryz.call184 Tryz.func184 rfl 18 rfl rfl [.tmp 4, .tmp 5] rfl ?_
  intro w0 F η0 h0
  conv => whnf
  refine LOOP.go tabOK [0, 3] (X := Nat × List UInt8) (fun y => y.1 ≤ m ∧ y.2.length ≤ ((ps.take (i + y.1)).map List.length).sum + (i + y.1) ∧ (y.1 = 0 ↔ y.2 = []) ∧ spanM (fun s => madeM s least 8 false) (ps.drop i) = y.1 + spanM (fun s => madeM s least 8 false) (ps.drop (i + y.1))) (fun y => [(6, .str y.2)]) (fun y => [(0, rdBox (i + y.1) (m - y.1) L E S R v x P), (4, .box [.int .i64 least])]) 5 (fun y => m - y.1) (0, []) ⟨by simp, by simp, by simp, by simp⟩ ?_
  conv => whnf
  refine ⟨by exact GOES.cA h0, ?_⟩
  rintro ⟨n, s⟩ ⟨hn, hl, h0s, hspan⟩
  dsimp only at hn hl h0s hspan ⊢
  conv => whnf
  refine CALL.here (seesTail_does least ps hsm (i + n) (m - n) (by omega) L E S R v x P) rfl rfl (by first | rfl | (simp only [belowO, belowH, plainLL_below _ (plainStrs _), Bool.and_self, Bool.and_true] <;> rfl)) (by first | rfl | (simp only [belowO, belowH, plainLL_below _ (plainStrs _), Bool.and_self, Bool.and_true] <;> rfl)) (by repeat' (first | exact trivial | exact rfl | ((conv => whnf); refine ⟨?_, ?_⟩))) (by repeat' (first | exact trivial | exact rfl | ((conv => whnf); refine ⟨?_, ?_⟩))) rfl ?_ ?_
  · rintro r O' nx' ⟨rfl, rfl, rfl⟩; exact ⟨rfl, rfl, rfl⟩
  rintro r O' ⟨rfl, rfl, _⟩
  conv => whnf
  refine ⟨fun h => ?_, fun h => ?_⟩
  · obtain ⟨p, hp, hpm⟩ : ∃ p, ps[i + n]? = some p ∧ madeM p least 8 false = true := by
      unfold seesM at h
      cases hp : ps[i + n]? with
      | none => rw [hp] at h; cases h
      | some p => rw [hp] at h; exact ⟨p, rfl, h⟩
    have hlt := (List.getElem?_eq_some_iff.1 hp).1
    have hs1 := sum_le hp
    have hs2 := bulk_take ps (i + n + 1)
    obtain ⟨k, hk⟩ : ∃ k, m - n = k + 1 := ⟨m - n - 1, by omega⟩
    rw [hk]
    conv => whnf
    refine CALL.here (next_tag_does ps (i + n) k (by omega) p hp L E S R v x P) rfl rfl (by first | rfl | (simp only [belowO, belowH, plainLL_below _ (plainStrs _), Bool.and_self, Bool.and_true] <;> rfl)) (by first | rfl | (simp only [belowO, belowH, plainLL_below _ (plainStrs _), Bool.and_self, Bool.and_true] <;> rfl)) (by repeat' (first | exact trivial | exact rfl | ((conv => whnf); refine ⟨?_, ?_⟩))) (by repeat' (first | exact trivial | exact rfl | ((conv => whnf); refine ⟨?_, ?_⟩))) rfl ?_ ?_
    · rintro r O' nx' ⟨rfl, rfl, rfl⟩; exact ⟨rfl, rfl, rfl⟩
    rintro r O' ⟨rfl, rfl, _⟩
    conv => whnf
    repeat' ((first | refine AU ?_ | ((with_reducible refine IF.mk (fun h => ?_) (fun h => ?_)) <;> (try simp (disch := omega) only [hsB, hsC, lnB, wrap64, wrap32, simprocAttr] at h) <;> try (exfalso; omega))) <;> conv => whnf)
    have hsp : spanM (fun s => madeM s least 8 false) (ps.drop (i + n)) = spanM (fun s => madeM s least 8 false) (ps.drop (i + (n + 1))) + 1 := by
      rw [List.drop_eq_getElem_cons hlt]
      have : ps[i + n] = p := by
        have := List.getElem?_eq_getElem hlt
        rw [hp] at this; injection this with this; exact this.symm
      rw [this]
      simp only [spanM, hpm, if_true]
      rfl
    refine ⟨(n + 1, s ++ ([45] ++ p)), ⟨by simp only; omega, ?_, by simp, by simp only; omega⟩, by simp only; omega, ?_⟩
    · simp only [List.length_append, List.length_cons, List.length_nil]
      rw [show i + (n + 1) = i + n + 1 by omega, hs1]; omega
    · dsimp only
      rw [show i + (n + 1) = i + n + 1 by omega, show m - (n + 1) = k by omega]
      conv => whnf
      exact GOES.cA h0
  · have hsp : spanM (fun s => madeM s least 8 false) (ps.drop (i + n)) = 0 := by
      unfold seesM at h
      cases hp : ps[i + n]? with
      | none => rw [List.drop_eq_nil_of_le (by simpa using hp)]; rfl
      | some p =>
        rw [hp] at h
        have hlt := (List.getElem?_eq_some_iff.1 hp).1
        rw [List.drop_eq_getElem_cons hlt]
        have : ps[i + n] = p := by
          have := List.getElem?_eq_getElem hlt
          rw [hp] at this; injection this with this; exact this.symm
        rw [this]
        simp only [spanM]
        simp only at h
        simp [h]
    have hs2 := bulk_take ps (i + n)
    conv => whnf
    repeat' ((first | refine AU ?_ | ((with_reducible refine IF.mk (fun h => ?_) (fun h => ?_)) <;> (try simp (disch := omega) only [hsB, hsC, lnB, wrap64, wrap32, simprocAttr] at h) <;> try (exfalso; omega))) <;> conv => whnf)
    refine FIN.here h0 (rc := .tup [.str s, .bool (decide (n ≠ 0))]) (Oc := [(0, rdBox (i + n) (m - n) L E S R v x P)]) ?_ rfl rfl ⟨rfl, trivial⟩ ⟨n, s, by omega, by omega, rfl, rfl, rfl⟩
    show SV.tup [SV.str s, SV.bool (s != [])] = SV.tup [SV.str s, SV.bool (decide (n ≠ 0))]
    have : (s != []) = decide (n ≠ 0) := by rw [Bool.eq_iff_iff]; simp [h0s]
    rw [this]
theorem sees_doesA (g : Nat) (p : List UInt8 → Bool) (ps : List (List UInt8)) (hp : ∀ s ∈ ps, Does Tryz.prog tab g 0 [.str s] [] [] (Val (.bool (p s)))) (i m : Nat) (him : i + m = ps.length) (L E S R : List UInt8) (v x : Nat) (P : List UInt8) :
    Does Tryz.prog tab 179 4 [.ptr (.loc 0) 0 0 0, .fn (.func g) [] []] [] [(0, rdBoxA i m L E S R v x P), (1, .rows 1 (ps.map strRow))] (ValK 4 (.bool (seesM p ps i))) := by
  refine Does.enter tabOK (g := 179) (fn := Tryz.f179) Tryz.call179 Tryz.func179 rfl 21 rfl rfl [.tmp 4] rfl ?_
  intro w0 F η0 h0
  conv => whnf
  repeat' ((first | (refine GET.at (row := strRow (ps[i]'(by omega))) (by rw [List.getElem?_map, show i + (0 : Int).toNat = i by simp, List.getElem?_eq_getElem (by omega)]; rfl) ?_; conv => whnf) | refine CALL.value (hp _ (List.getElem_mem (by omega))) rfl rfl ?_ | refine AU ?_ | ((with_reducible refine IF.mk (fun h => ?_) (fun h => ?_)) <;> (try simp (disch := omega) only [hsB, hsC, lnB, wrap64, wrap32, simprocAttr] at h) <;> try (exfalso; omega))) <;> conv => whnf)
  · refine FIN.valueK h0 rfl (congrArg SV.bool ?_)
    unfold seesM; rw [List.getElem?_eq_getElem (by omega)]; rfl
  · refine FIN.valueK h0 rfl (congrArg SV.bool ?_)
    unfold seesM; rw [List.getElem?_eq_none (by omega)]
/-- As sees_doesA, for the function that asks for so many bytes. -/
theorem seesTail_doesA (least : Int) (ps : List (List UInt8)) (hp : ∀ s ∈ ps, Sm s) (i m : Nat) (him : i + m = ps.length) (L E S R : List UInt8) (v x : Nat) (P : List UInt8) :
    Does Tryz.prog tab 179 5 [.ptr (.loc 0) 0 0 0, .fn (.func 211) [] [.ptr (.loc 4) 0 0 0]] [] [(0, rdBoxA i m L E S R v x P), (1, .rows 1 (ps.map strRow)), (4, .box [.int .i64 least])] (ValK 5 (.bool (seesM (fun s => madeM s least 8 false) ps i))) := by
  refine Does.enter tabOK (g := 179) (fn := Tryz.f179) Tryz.call179 Tryz.func179 rfl 21 rfl rfl [.tmp 4] rfl ?_
  intro w0 F η0 h0
  conv => whnf
  repeat' ((first | (refine GET.at (row := strRow (ps[i]'(by omega))) (by rw [List.getElem?_map, show i + (0 : Int).toNat = i by simp, List.getElem?_eq_getElem (by omega)]; rfl) ?_; conv => whnf) | (refine CALL.looks [4] (tail1_does (ps[i]'(by omega)) least (hp _ (List.getElem_mem (by omega)))) rfl rfl rfl rfl ⟨⟨rfl, rfl, rfl⟩, trivial⟩ ?_; conv => whnf) | refine AU ?_ | ((with_reducible refine IF.mk (fun h => ?_) (fun h => ?_)) <;> (try simp (disch := omega) only [hsB, hsC, lnB, wrap64, wrap32, simprocAttr] at h) <;> try (exfalso; omega))) <;> conv => whnf)
  · refine FIN.valueK h0 rfl (congrArg SV.bool ?_)
    unfold seesM; rw [List.getElem?_eq_getElem (by omega)]; rfl
  · refine FIN.valueK h0 rfl (congrArg SV.bool ?_)
    unfold seesM; rw [List.getElem?_eq_none (by omega)]
theorem next_tag_doesA (ps : List (List UInt8)) (i m : Nat) (him : i + (m + 1) = ps.length) (p : List UInt8) (hp : ps[i]? = some p) (L E S R : List UInt8) (v x : Nat) (P : List UInt8) :
    Does Tryz.prog tab 183 4 [.ptr (.loc 0) 0 0 0] [(0, rdBoxA i (m + 1) L E S R v x P)] [(1, .rows 1 (ps.map strRow))] (fun r O nx => r = .str p ∧ O = [(0, rdBoxA (i + 1) m L E S R v x P)] ∧ nx = 4) := by
  refine Does.enter tabOK (g := 183) (fn := Tryz.f183) Tryz.call183 Tryz.func183 rfl 19 rfl rfl [.tmp 2] rfl ?_
  intro w0 F η0 h0
  conv => whnf
  repeat' ((first | (refine GET.at (row := strRow p) (by rw [List.getElem?_map, show i + (0 : Int).toNat = i by simp, hp]; rfl) ?_; conv => whnf) | refine AU ?_ | ((with_reducible refine IF.mk (fun h => ?_) (fun h => ?_)) <;> (try simp (disch := omega) only [hsB, hsC, lnB, wrap64, wrap32, simprocAttr] at h) <;> try (exfalso; omega))) <;> conv => whnf)
  exact FIN.here h0 (Oc := [(0, rdBoxA (i + 1) m L E S R v x P)]) rfl rfl rfl ⟨rfl, trivial⟩ ⟨rfl, rfl, rfl⟩
theorem tail_doesA (least : Int) (ps : List (List UInt8)) (hb : bulkM ps + ps.length ≤ 1152921504606846976) (i m : Nat) (him : i + m = ps.length) (L E S R : List UInt8) (v x : Nat) (P : List UInt8) :
    Does Tryz.prog tab 184 4 [.ptr (.loc 0) 0 0 0, .int .i64 least] [(0, rdBoxA i m L E S R v x P)] [(1, .rows 1 (ps.map strRow))]
      (fun r O nx => ∃ (n : Nat) (s : List UInt8), n = spanM (fun s => madeM s least 8 false) (ps.drop i) ∧ s.length ≤ bulkM ps + ps.length ∧ r = .tup [.str s, .bool (decide (n ≠ 0))] ∧ O = [(0, rdBoxA (i + n) (m - n) L E S R v x P)] ∧ nx = 4) := by
  have hsm : ∀ s ∈ ps, Sm s := by
    intro s hs
    obtain ⟨j, hj, rfl⟩ := List.getElem_of_mem hs
    have h1 := sum_le (List.getElem?_eq_getElem hj)
    have h2 := bulk_take ps (j + 1)
    omega
  refine Does.enter tabOK (g := 184) (fn := Tryz.f184) Tryz.call184 Tryz.func184 rfl 18 rfl rfl [.tmp 4, .tmp 5] rfl ?_
  intro w0 F η0 h0
  conv => whnf
  refine LOOP.go tabOK [0, 3] (X := Nat × List UInt8) (fun y => y.1 ≤ m ∧ y.2.length ≤ ((ps.take (i + y.1)).map List.length).sum + (i + y.1) ∧ (y.1 = 0 ↔ y.2 = []) ∧ spanM (fun s => madeM s least 8 false) (ps.drop i) = y.1 + spanM (fun s => madeM s least 8 false) (ps.drop (i + y.1))) (fun y => [(6, .str y.2)]) (fun y => [(0, rdBoxA (i + y.1) (m - y.1) L E S R v x P), (4, .box [.int .i64 least])]) 5 (fun y => m - y.1) (0, []) ⟨by simp, by simp, by simp, by simp⟩ ?_
  conv => whnf
  refine ⟨by exact GOES.cA h0, ?_⟩
  rintro ⟨n, s⟩ ⟨hn, hl, h0s, hspan⟩
  dsimp only at hn hl h0s hspan ⊢
  conv => whnf
  refine CALL.here (seesTail_doesA least ps hsm (i + n) (m - n) (by omega) L E S R v x P) rfl rfl (by first | rfl | (simp only [belowO, belowH, plainLL_below _ (plainStrs _), Bool.and_self, Bool.and_true] <;> rfl)) (by first | rfl | (simp only [belowO, belowH, plainLL_below _ (plainStrs _), Bool.and_self, Bool.and_true] <;> rfl)) (by repeat' (first | exact trivial | exact rfl | ((conv => whnf); refine ⟨?_, ?_⟩))) (by repeat' (first | exact trivial | exact rfl | ((conv => whnf); refine ⟨?_, ?_⟩))) rfl ?_ ?_
  · rintro r O' nx' ⟨rfl, rfl, rfl⟩; exact ⟨rfl, rfl, rfl⟩
  rintro r O' ⟨rfl, rfl, _⟩
  conv => whnf
  refine ⟨fun h => ?_, fun h => ?_⟩
  · obtain ⟨p, hp, hpm⟩ : ∃ p, ps[i + n]? = some p ∧ madeM p least 8 false = true := by
      unfold seesM at h
      cases hp : ps[i + n]? with
      | none => rw [hp] at h; cases h
      | some p => rw [hp] at h; exact ⟨p, rfl, h⟩
    have hlt := (List.getElem?_eq_some_iff.1 hp).1
    have hs1 := sum_le hp
    have hs2 := bulk_take ps (i + n + 1)
    obtain ⟨k, hk⟩ : ∃ k, m - n = k + 1 := ⟨m - n - 1, by omega⟩
    rw [hk]
    conv => whnf
    refine CALL.here (next_tag_doesA ps (i + n) k (by omega) p hp L E S R v x P) rfl rfl (by first | rfl | (simp only [belowO, belowH, plainLL_below _ (plainStrs _), Bool.and_self, Bool.and_true] <;> rfl)) (by first | rfl | (simp only [belowO, belowH, plainLL_below _ (plainStrs _), Bool.and_self, Bool.and_true] <;> rfl)) (by repeat' (first | exact trivial | exact rfl | ((conv => whnf); refine ⟨?_, ?_⟩))) (by repeat' (first | exact trivial | exact rfl | ((conv => whnf); refine ⟨?_, ?_⟩))) rfl ?_ ?_
    · rintro r O' nx' ⟨rfl, rfl, rfl⟩; exact ⟨rfl, rfl, rfl⟩
    rintro r O' ⟨rfl, rfl, _⟩
    conv => whnf
    repeat' ((first | refine AU ?_ | ((with_reducible refine IF.mk (fun h => ?_) (fun h => ?_)) <;> (try simp (disch := omega) only [hsB, hsC, lnB, wrap64, wrap32, simprocAttr] at h) <;> try (exfalso; omega))) <;> conv => whnf)
    have hsp : spanM (fun s => madeM s least 8 false) (ps.drop (i + n)) = spanM (fun s => madeM s least 8 false) (ps.drop (i + (n + 1))) + 1 := by
      rw [List.drop_eq_getElem_cons hlt]
      have : ps[i + n] = p := by
        have := List.getElem?_eq_getElem hlt
        rw [hp] at this; injection this with this; exact this.symm
      rw [this]
      simp only [spanM, hpm, if_true]
      rfl
    refine ⟨(n + 1, s ++ ([45] ++ p)), ⟨by simp only; omega, ?_, by simp, by simp only; omega⟩, by simp only; omega, ?_⟩
    · simp only [List.length_append, List.length_cons, List.length_nil]
      rw [show i + (n + 1) = i + n + 1 by omega, hs1]; omega
    · dsimp only
      rw [show i + (n + 1) = i + n + 1 by omega, show m - (n + 1) = k by omega]
      conv => whnf
      exact GOES.cA h0
  · have hsp : spanM (fun s => madeM s least 8 false) (ps.drop (i + n)) = 0 := by
      unfold seesM at h
      cases hp : ps[i + n]? with
      | none => rw [List.drop_eq_nil_of_le (by simpa using hp)]; rfl
      | some p =>
        rw [hp] at h
        have hlt := (List.getElem?_eq_some_iff.1 hp).1
        rw [List.drop_eq_getElem_cons hlt]
        have : ps[i + n] = p := by
          have := List.getElem?_eq_getElem hlt
          rw [hp] at this; injection this with this; exact this.symm
        rw [this]
        simp only [spanM]
        simp only at h
        simp [h]
    have hs2 := bulk_take ps (i + n)
    conv => whnf
    repeat' ((first | refine AU ?_ | ((with_reducible refine IF.mk (fun h => ?_) (fun h => ?_)) <;> (try simp (disch := omega) only [hsB, hsC, lnB, wrap64, wrap32, simprocAttr] at h) <;> try (exfalso; omega))) <;> conv => whnf)
    refine FIN.here h0 (rc := .tup [.str s, .bool (decide (n ≠ 0))]) (Oc := [(0, rdBoxA (i + n) (m - n) L E S R v x P)]) ?_ rfl rfl ⟨rfl, trivial⟩ ⟨n, s, by omega, by omega, rfl, rfl, rfl⟩
    show SV.tup [SV.str s, SV.bool (s != [])] = SV.tup [SV.str s, SV.bool (decide (n ≠ 0))]
    have : (s != []) = decide (n ≠ 0) := by rw [Bool.eq_iff_iff]; simp [h0s]
    rw [this]
theorem sees_doesC (g : Nat) (p : List UInt8 → Bool) (ps : List (List UInt8)) (hp : ∀ s ∈ ps, Does Tryz.prog tab g 0 [.str s] [] [] (Val (.bool (p s)))) (i m : Nat) (him : i + m = ps.length) (L E S R : List UInt8) (v x : Nat) (P : List UInt8) :
    Does Tryz.prog tab 179 7 [.ptr (.loc 0) 0 0 0, .fn (.func g) [] []] [] [(0, rdBoxC i m L E S R v x P), (1, .rows 1 (ps.map strRow))] (ValK 7 (.bool (seesM p ps i))) := by
  refine Does.enter tabOK (g := 179) (fn := Tryz.f179) Tryz.call179 Tryz.func179 rfl 21 rfl rfl [.tmp 4] rfl ?_
  intro w0 F η0 h0
  conv => whnf
  repeat' ((first | (refine GET.at (row := strRow (ps[i]'(by omega))) (by rw [List.getElem?_map, show i + (0 : Int).toNat = i by simp, List.getElem?_eq_getElem (by omega)]; rfl) ?_; conv => whnf) | refine CALL.value (hp _ (List.getElem_mem (by omega))) rfl rfl ?_ | refine AU ?_ | ((with_reducible refine IF.mk (fun h => ?_) (fun h => ?_)) <;> (try simp (disch := omega) only [hsB, hsC, lnB, wrap64, wrap32, simprocAttr] at h) <;> try (exfalso; omega))) <;> conv => whnf)
  · refine FIN.valueK h0 rfl (congrArg SV.bool ?_)
    unfold seesM; rw [List.getElem?_eq_getElem (by omega)]; rfl
  · refine FIN.valueK h0 rfl (congrArg SV.bool ?_)
    unfold seesM; rw [List.getElem?_eq_none (by omega)]
/-- As sees_doesC, for the function that asks for so many bytes. -/
theorem seesTail_doesC (least : Int) (ps : List (List UInt8)) (hp : ∀ s ∈ ps, Sm s) (i m : Nat) (him : i + m = ps.length) (L E S R : List UInt8) (v x : Nat) (P : List UInt8) :
    Does Tryz.prog tab 179 8 [.ptr (.loc 0) 0 0 0, .fn (.func 211) [] [.ptr (.loc 7) 0 0 0]] [] [(0, rdBoxC i m L E S R v x P), (1, .rows 1 (ps.map strRow)), (7, .box [.int .i64 least])] (ValK 8 (.bool (seesM (fun s => madeM s least 8 false) ps i))) := by
  refine Does.enter tabOK (g := 179) (fn := Tryz.f179) Tryz.call179 Tryz.func179 rfl 21 rfl rfl [.tmp 4] rfl ?_
  intro w0 F η0 h0
  conv => whnf
  repeat' ((first | (refine GET.at (row := strRow (ps[i]'(by omega))) (by rw [List.getElem?_map, show i + (0 : Int).toNat = i by simp, List.getElem?_eq_getElem (by omega)]; rfl) ?_; conv => whnf) | (refine CALL.looks [7] (tail1_does (ps[i]'(by omega)) least (hp _ (List.getElem_mem (by omega)))) rfl rfl rfl rfl ⟨⟨rfl, rfl, rfl⟩, trivial⟩ ?_; conv => whnf) | refine AU ?_ | ((with_reducible refine IF.mk (fun h => ?_) (fun h => ?_)) <;> (try simp (disch := omega) only [hsB, hsC, lnB, wrap64, wrap32, simprocAttr] at h) <;> try (exfalso; omega))) <;> conv => whnf)
  · refine FIN.valueK h0 rfl (congrArg SV.bool ?_)
    unfold seesM; rw [List.getElem?_eq_getElem (by omega)]; rfl
  · refine FIN.valueK h0 rfl (congrArg SV.bool ?_)
    unfold seesM; rw [List.getElem?_eq_none (by omega)]
theorem next_tag_doesC (ps : List (List UInt8)) (i m : Nat) (him : i + (m + 1) = ps.length) (p : List UInt8) (hp : ps[i]? = some p) (L E S R : List UInt8) (v x : Nat) (P : List UInt8) :
    Does Tryz.prog tab 183 7 [.ptr (.loc 0) 0 0 0] [(0, rdBoxC i (m + 1) L E S R v x P)] [(1, .rows 1 (ps.map strRow))] (fun r O nx => r = .str p ∧ O = [(0, rdBoxC (i + 1) m L E S R v x P)] ∧ nx = 7) := by
  refine Does.enter tabOK (g := 183) (fn := Tryz.f183) Tryz.call183 Tryz.func183 rfl 19 rfl rfl [.tmp 2] rfl ?_
  intro w0 F η0 h0
  conv => whnf
  repeat' ((first | (refine GET.at (row := strRow p) (by rw [List.getElem?_map, show i + (0 : Int).toNat = i by simp, hp]; rfl) ?_; conv => whnf) | refine AU ?_ | ((with_reducible refine IF.mk (fun h => ?_) (fun h => ?_)) <;> (try simp (disch := omega) only [hsB, hsC, lnB, wrap64, wrap32, simprocAttr] at h) <;> try (exfalso; omega))) <;> conv => whnf)
  exact FIN.here h0 (Oc := [(0, rdBoxC (i + 1) m L E S R v x P)]) rfl rfl rfl ⟨rfl, trivial⟩ ⟨rfl, rfl, rfl⟩
theorem tail_doesC (least : Int) (ps : List (List UInt8)) (hb : bulkM ps + ps.length ≤ 1152921504606846976) (i m : Nat) (him : i + m = ps.length) (L E S R : List UInt8) (v x : Nat) (P : List UInt8) :
    Does Tryz.prog tab 184 7 [.ptr (.loc 0) 0 0 0, .int .i64 least] [(0, rdBoxC i m L E S R v x P)] [(1, .rows 1 (ps.map strRow))]
      (fun r O nx => ∃ (n : Nat) (s : List UInt8), n = spanM (fun s => madeM s least 8 false) (ps.drop i) ∧ s.length ≤ bulkM ps + ps.length ∧ r = .tup [.str s, .bool (decide (n ≠ 0))] ∧ O = [(0, rdBoxC (i + n) (m - n) L E S R v x P)] ∧ nx = 7) := by
  have hsm : ∀ s ∈ ps, Sm s := by
    intro s hs
    obtain ⟨j, hj, rfl⟩ := List.getElem_of_mem hs
    have h1 := sum_le (List.getElem?_eq_getElem hj)
    have h2 := bulk_take ps (j + 1)
    omega
  refine Does.enter tabOK (g := 184) (fn := Tryz.f184) Tryz.call184 Tryz.func184 rfl 18 rfl rfl [.tmp 4, .tmp 5] rfl ?_
  intro w0 F η0 h0
  conv => whnf
  refine LOOP.go tabOK [0, 3] (X := Nat × List UInt8) (fun y => y.1 ≤ m ∧ y.2.length ≤ ((ps.take (i + y.1)).map List.length).sum + (i + y.1) ∧ (y.1 = 0 ↔ y.2 = []) ∧ spanM (fun s => madeM s least 8 false) (ps.drop i) = y.1 + spanM (fun s => madeM s least 8 false) (ps.drop (i + y.1))) (fun y => [(6, .str y.2)]) (fun y => [(0, rdBoxC (i + y.1) (m - y.1) L E S R v x P), (7, .box [.int .i64 least])]) 8 (fun y => m - y.1) (0, []) ⟨by simp, by simp, by simp, by simp⟩ ?_
  conv => whnf
  refine ⟨by exact GOES.cA h0, ?_⟩
  rintro ⟨n, s⟩ ⟨hn, hl, h0s, hspan⟩
  dsimp only at hn hl h0s hspan ⊢
  conv => whnf
  refine CALL.here (seesTail_doesC least ps hsm (i + n) (m - n) (by omega) L E S R v x P) rfl rfl (by first | rfl | (simp only [belowO, belowH, plainLL_below _ (plainStrs _), Bool.and_self, Bool.and_true] <;> rfl)) (by first | rfl | (simp only [belowO, belowH, plainLL_below _ (plainStrs _), Bool.and_self, Bool.and_true] <;> rfl)) (by repeat' (first | exact trivial | exact rfl | ((conv => whnf); refine ⟨?_, ?_⟩))) (by repeat' (first | exact trivial | exact rfl | ((conv => whnf); refine ⟨?_, ?_⟩))) rfl ?_ ?_
  · rintro r O' nx' ⟨rfl, rfl, rfl⟩; exact ⟨rfl, rfl, rfl⟩
  rintro r O' ⟨rfl, rfl, _⟩
  conv => whnf
  refine ⟨fun h => ?_, fun h => ?_⟩
  · obtain ⟨p, hp, hpm⟩ : ∃ p, ps[i + n]? = some p ∧ madeM p least 8 false = true := by
      unfold seesM at h
      cases hp : ps[i + n]? with
      | none => rw [hp] at h; cases h
      | some p => rw [hp] at h; exact ⟨p, rfl, h⟩
    have hlt := (List.getElem?_eq_some_iff.1 hp).1
    have hs1 := sum_le hp
    have hs2 := bulk_take ps (i + n + 1)
    obtain ⟨k, hk⟩ : ∃ k, m - n = k + 1 := ⟨m - n - 1, by omega⟩
    rw [hk]
    conv => whnf
    refine CALL.here (next_tag_doesC ps (i + n) k (by omega) p hp L E S R v x P) rfl rfl (by first | rfl | (simp only [belowO, belowH, plainLL_below _ (plainStrs _), Bool.and_self, Bool.and_true] <;> rfl)) (by first | rfl | (simp only [belowO, belowH, plainLL_below _ (plainStrs _), Bool.and_self, Bool.and_true] <;> rfl)) (by repeat' (first | exact trivial | exact rfl | ((conv => whnf); refine ⟨?_, ?_⟩))) (by repeat' (first | exact trivial | exact rfl | ((conv => whnf); refine ⟨?_, ?_⟩))) rfl ?_ ?_
    · rintro r O' nx' ⟨rfl, rfl, rfl⟩; exact ⟨rfl, rfl, rfl⟩
    rintro r O' ⟨rfl, rfl, _⟩
    conv => whnf
    repeat' ((first | refine AU ?_ | ((with_reducible refine IF.mk (fun h => ?_) (fun h => ?_)) <;> (try simp (disch := omega) only [hsB, hsC, lnB, wrap64, wrap32, simprocAttr] at h) <;> try (exfalso; omega))) <;> conv => whnf)
    have hsp : spanM (fun s => madeM s least 8 false) (ps.drop (i + n)) = spanM (fun s => madeM s least 8 false) (ps.drop (i + (n + 1))) + 1 := by
      rw [List.drop_eq_getElem_cons hlt]
      have : ps[i + n] = p := by
        have := List.getElem?_eq_getElem hlt
        rw [hp] at this; injection this with this; exact this.symm
      rw [this]
      simp only [spanM, hpm, if_true]
      rfl
    refine ⟨(n + 1, s ++ ([45] ++ p)), ⟨by simp only; omega, ?_, by simp, by simp only; omega⟩, by simp only; omega, ?_⟩
    · simp only [List.length_append, List.length_cons, List.length_nil]
      rw [show i + (n + 1) = i + n + 1 by omega, hs1]; omega
    · dsimp only
      rw [show i + (n + 1) = i + n + 1 by omega, show m - (n + 1) = k by omega]
      conv => whnf
      exact GOES.cA h0
  · have hsp : spanM (fun s => madeM s least 8 false) (ps.drop (i + n)) = 0 := by
      unfold seesM at h
      cases hp : ps[i + n]? with
      | none => rw [List.drop_eq_nil_of_le (by simpa using hp)]; rfl
      | some p =>
        rw [hp] at h
        have hlt := (List.getElem?_eq_some_iff.1 hp).1
        rw [List.drop_eq_getElem_cons hlt]
        have : ps[i + n] = p := by
          have := List.getElem?_eq_getElem hlt
          rw [hp] at this; injection this with this; exact this.symm
        rw [this]
        simp only [spanM]
        simp only at h
        simp [h]
    have hs2 := bulk_take ps (i + n)
    conv => whnf
    repeat' ((first | refine AU ?_ | ((with_reducible refine IF.mk (fun h => ?_) (fun h => ?_)) <;> (try simp (disch := omega) only [hsB, hsC, lnB, wrap64, wrap32, simprocAttr] at h) <;> try (exfalso; omega))) <;> conv => whnf)
    refine FIN.here h0 (rc := .tup [.str s, .bool (decide (n ≠ 0))]) (Oc := [(0, rdBoxC (i + n) (m - n) L E S R v x P)]) ?_ rfl rfl ⟨rfl, trivial⟩ ⟨n, s, by omega, by omega, rfl, rfl, rfl⟩
    show SV.tup [SV.str s, SV.bool (s != [])] = SV.tup [SV.str s, SV.bool (decide (n ≠ 0))]
    have : (s != []) = decide (n ≠ 0) := by rw [Bool.eq_iff_iff]; simp [h0s]
    rw [this]
end Go.Proofs.YtjbbkimodgffiaaGreatDoor
/- names: the reader of tags: language and rest, walked. Conditions: none. -/
set_option linter.unusedVariables false
set_option linter.unusedSimpArgs false
set_option maxRecDepth 20000
set_option maxHeartbeats 8000000
namespace Go.Proofs.YtjbbkimodgffiaaGreatDoor
open Go.Sx Go.Our
def plTag20 : Plan := (.take 0 1 (.take 1 1 (.take 2 1 (.take 3 1 (.take 5 1 (.fork 4 3 6 0 (planOf [(6, 0), (7, 1), (8, 1), (9, 1), (10, 1), (11, 0)]) (planOf [(4, 2), (7, 1), (8, 1), (9, 1), (10, 1), (11, 0)])))))))
theorem bulk_sm {ps : List (List UInt8)} (hb : bulkM ps + ps.length ≤ 1152921504606846976) : ∀ s ∈ ps, Sm s := by
  intro s hs
  obtain ⟨j, hj, rfl⟩ := List.getElem_of_mem hs
  have h1 := sum_le (List.getElem?_eq_getElem hj)
  have h2 := bulk_take ps (j + 1)
  omega
theorem sees_yes {p : List UInt8 → Bool} {ps : List (List UInt8)} {i : Nat} (h : seesM p ps i = true) : ∃ s, ps[i]? = some s ∧ p s = true := by
  unfold seesM at h
  cases hp : ps[i]? with
  | none => rw [hp] at h; cases h
  | some s => rw [hp] at h; exact ⟨s, rfl, h⟩
theorem drop_at {ps : List (List UInt8)} {i : Nat} {s : List UInt8} (h : ps[i]? = some s) : ps.drop i = s :: ps.drop (i + 1) := by
  obtain ⟨h1, rfl⟩ := List.getElem?_eq_some_iff.1 h
  exact List.drop_eq_getElem_cons h1
theorem sees_no {p : List UInt8 → Bool} {ps : List (List UInt8)} {i : Nat} (h : seesM p ps i = false) : ps.drop i = [] ∨ ∃ s, ps[i]? = some s ∧ ps.drop i = s :: ps.drop (i + 1) ∧ p s = false := by
  unfold seesM at h
  cases hp : ps[i]? with
  | none => exact .inl (List.drop_eq_nil_of_le (by simpa using hp))
  | some s => rw [hp] at h; exact .inr ⟨s, rfl, drop_at hp, h⟩
theorem ext_no {n : Nat} {ps : List (List UInt8)} {i : Nat} (h : seesM (fun s => madeM s 3 3 true) ps i = false) : extP n (ps.drop i) = ps.drop i := by
  rcases sees_no h with h | ⟨s, _, h1, h2⟩
  · rw [h]; cases n <;> rfl
  · rw [h1]; cases n with
    | zero => rfl
    | succ n => simp only [extP]; simp [h2]
theorem made_len {s : List UInt8} {a b : Int} {pure : Bool} (h : madeM s a b pure = true) : a ≤ s.length ∧ (s.length : Int) ≤ b := by
  unfold madeM at h; simp at h; omega
theorem language_does (ps : List (List UInt8)) (hb : bulkM ps + ps.length ≤ 1152921504606846976) (i m : Nat) (him : i + m = ps.length) (S R : List UInt8) (v x : Nat) (P : List UInt8) :
    Does Tryz.prog tab 181 4 [.ptr (.loc 0) 0 0 0] [(0, rdBox i m [] [] S R v x P)] [(1, .rows 1 (ps.map strRow))]
      (fun r O nx => ∃ (i' m' : Nat) (L E : List UInt8), i' + m' = ps.length ∧ r = .bool (langP (ps.drop i)).isSome ∧ (∀ l, langP (ps.drop i) = some l → l = ps.drop i') ∧ O = [(0, rdBox i' m' L E S R v x P)] ∧ nx = 4) := by
  have hsm := bulk_sm hb
  refine Does.enter tabOK (g := 181) (fn := Tryz.f181) Tryz.call181 Tryz.func181 rfl 50 rfl rfl [.tmp 2] rfl ?_
  intro w0 F η0 h0
  conv => whnf
  refine CALL.here (sees_does 203 _ ps (fun s hs => lang1_does s (hsm s hs)) i m him [] [] S R v x P) rfl rfl (by first | rfl | (simp only [belowO, belowH, plainLL_below _ (plainStrs _), Bool.and_self, Bool.and_true] <;> rfl)) (by first | rfl | (simp only [belowO, belowH, plainLL_below _ (plainStrs _), Bool.and_self, Bool.and_true] <;> rfl)) (by repeat' (first | exact trivial | exact rfl | ((conv => whnf); refine ⟨?_, ?_⟩))) (by repeat' (first | exact trivial | exact rfl | ((conv => whnf); refine ⟨?_, ?_⟩))) rfl ?_ ?_
  · rintro r O' nx' ⟨rfl, rfl, rfl⟩; exact ⟨rfl, rfl, rfl⟩
  rintro r O' ⟨rfl, rfl, _⟩
  conv => whnf
  refine IF.mk (fun h => ?_) (fun h => ?_)
  · conv => whnf
    have h : seesM (fun s => madeM s 2 8 true) ps i = false := by simpa using h
    have hn : langP (ps.drop i) = none := by
      rcases sees_no h with h | ⟨s, _, h1, h2⟩
      · rw [h]; rfl
      · rw [h1]; simp only [langP]; simp [h2]
    exact FIN.here h0 (Oc := [(0, rdBox i m [] [] S R v x P)]) rfl rfl rfl ⟨rfl, trivial⟩ ⟨i, m, [], [], him, by rw [hn]; rfl, by simp [hn], rfl, rfl⟩
  have h : seesM (fun s => madeM s 2 8 true) ps i = true := by simpa using h
  obtain ⟨p, hp, hpm⟩ := sees_yes h
  have hlt := (List.getElem?_eq_some_iff.1 hp).1
  have hd := drop_at hp
  obtain ⟨k, rfl⟩ : ∃ k, m = k + 1 := ⟨m - 1, by omega⟩
  have hlen := made_len hpm
  conv => whnf
  refine CALL.here (next_tag_does ps i k him p hp [] [] S R v x P) rfl rfl (by first | rfl | (simp only [belowO, belowH, plainLL_below _ (plainStrs _), Bool.and_self, Bool.and_true] <;> rfl)) (by first | rfl | (simp only [belowO, belowH, plainLL_below _ (plainStrs _), Bool.and_self, Bool.and_true] <;> rfl)) (by repeat' (first | exact trivial | exact rfl | ((conv => whnf); refine ⟨?_, ?_⟩))) (by repeat' (first | exact trivial | exact rfl | ((conv => whnf); refine ⟨?_, ?_⟩))) rfl ?_ ?_
  · rintro r O' nx' ⟨rfl, rfl, rfl⟩; exact ⟨rfl, rfl, rfl⟩
  rintro r O' ⟨rfl, rfl, _⟩
  conv => whnf
  refine IF.mk (fun h => ?_) (fun h => ?_)
  · conv => whnf
    have h : 3 < p.length := by simp at h; omega
    exact FIN.here h0 (Oc := [(0, rdBox (i + 1) k p [] S R v x P)]) rfl rfl rfl ⟨rfl, trivial⟩ ⟨i + 1, k, p, [], by omega, by rw [hd]; simp only [langP]; simp [hpm, h], by rw [hd]; simp only [langP]; simp [hpm, h], rfl, rfl⟩
  have h : ¬ 3 < p.length := by simp at h; omega
  have hL : langP (ps.drop i) = some (extP 3 (ps.drop (i + 1))) := by rw [hd]; simp only [langP]; rw [if_pos hpm, if_neg h]
  conv => whnf
  refine LOOP.go tabOK [0] (X := Nat × List UInt8 × Nat) (fun y => y.1 ≤ 3 ∧ y.2.1.length ≤ 4 * y.1 ∧ y.2.2 + (ps.length - y.2.2) = ps.length ∧ extP 3 (ps.drop (i + 1)) = extP (3 - y.1) (ps.drop y.2.2)) (fun y => [(3, .int .i64 (y.1 : Int))]) (fun y => [(0, rdBox y.2.2 (ps.length - y.2.2) p y.2.1 S R v x P)]) 4 (fun y => 3 - y.1) (0, [], i + 1) ⟨by simp, by simp, by simp only; omega, rfl⟩ ?_
  conv => whnf
  rw [show ps.length - (i + 1) = k by omega]
  refine ⟨by exact GOES.cA h0, ?_⟩
  rintro ⟨c, E, a⟩ ⟨hc, hE, ha, hx⟩
  dsimp only at hc hE ha hx ⊢
  conv => whnf
  have fin : seesM (fun s => madeM s 3 3 true) ps a = false ∨ c = 3 → extP 3 (ps.drop (i + 1)) = ps.drop a := by
    rintro (h | h)
    · rw [hx, ext_no h]
    · subst h; rw [hx]; rfl
  refine IF.mk (fun h => ?_) (fun h => ?_)
  · have h : c < 3 := by simp at h; omega
    conv => whnf
    repeat' ((first | refine AU ?_ | ((with_reducible refine IF.mk (fun h => ?_) (fun h => ?_)) <;> (try simp (disch := omega) only [hsB, hsC, lnB, wrap64, wrap32, simprocAttr] at h) <;> try (exfalso; omega))) <;> conv => whnf)
    refine CALL.here (sees_does 205 _ ps (fun s hs => lang2_does s (hsm s hs)) a (ps.length - a) ha p E S R v x P) rfl rfl (by first | rfl | (simp only [belowO, belowH, plainLL_below _ (plainStrs _), Bool.and_self, Bool.and_true] <;> rfl)) (by first | rfl | (simp only [belowO, belowH, plainLL_below _ (plainStrs _), Bool.and_self, Bool.and_true] <;> rfl)) (by repeat' (first | exact trivial | exact rfl | ((conv => whnf); refine ⟨?_, ?_⟩))) (by repeat' (first | exact trivial | exact rfl | ((conv => whnf); refine ⟨?_, ?_⟩))) rfl ?_ ?_
    · rintro r O' nx' ⟨rfl, rfl, rfl⟩; exact ⟨rfl, rfl, rfl⟩
    rintro r O' ⟨rfl, rfl, _⟩
    conv => whnf
    repeat' ((first | refine AU ?_ | ((with_reducible refine IF.mk (fun h => ?_) (fun h => ?_)) <;> (try simp (disch := omega) only [hsB, hsC, lnB, wrap64, wrap32, simprocAttr] at h) <;> try (exfalso; omega))) <;> conv => whnf)
    · obtain ⟨q, hq, hqm⟩ := sees_yes (by assumption)
      have hql := made_len hqm
      obtain ⟨k', hk'⟩ : ∃ k', ps.length - a = k' + 1 := ⟨ps.length - a - 1, by have := (List.getElem?_eq_some_iff.1 hq).1; omega⟩
      rw [hk']
      repeat' ((first | refine DRAWN.of (id := 11) tabOK mixed plTag20 (by kernel_rfl) ?_ | with_reducible refine ADD.mk (fun _ _ => ?_) | with_reducible refine NEED.mk (Det.of rfl) ?_ | refine NEED.mk (det_pos (by omega)) ?_ | with_reducible refine FORK.mk ?_ ?_ | refine AU ?_ | ((with_reducible refine IF.mk (fun h => ?_) (fun h => ?_)) <;> (try simp (disch := omega) only [hsB, hsC, lnB, wrap64, wrap32, simprocAttr] at h) <;> try (exfalso; omega))) <;> conv => whnf)
      all_goals
        refine CALL.here (next_tag_does ps a k' (by omega) q hq p (E ++ [45]) S R v x P) rfl rfl (by first | rfl | (simp only [belowO, belowH, plainLL_below _ (plainStrs _), Bool.and_self, Bool.and_true] <;> rfl)) (by first | rfl | (simp only [belowO, belowH, plainLL_below _ (plainStrs _), Bool.and_self, Bool.and_true] <;> rfl)) (by repeat' (first | exact trivial | exact rfl | ((conv => whnf); refine ⟨?_, ?_⟩))) (by repeat' (first | exact trivial | exact rfl | ((conv => whnf); refine ⟨?_, ?_⟩))) rfl ?_ ?_
        · rintro r O' nx' ⟨rfl, rfl, rfl⟩; exact ⟨rfl, rfl, rfl⟩
        rintro r O' ⟨rfl, rfl, _⟩
        conv => whnf
        repeat' ((first | refine DRAWN.of (id := 11) tabOK mixed plTag20 (by kernel_rfl) ?_ | with_reducible refine ADD.mk (fun _ _ => ?_) | with_reducible refine NEED.mk (Det.of rfl) ?_ | refine NEED.mk (det_pos (by omega)) ?_ | with_reducible refine FORK.mk ?_ ?_ | refine AU ?_ | ((with_reducible refine IF.mk (fun h => ?_) (fun h => ?_)) <;> (try simp (disch := omega) only [hsB, hsC, lnB, wrap64, wrap32, simprocAttr] at h) <;> try (exfalso; omega))) <;> conv => whnf)
        refine ⟨(c + 1, (E ++ [45]) ++ q, a + 1), ⟨by simp only; omega, by simp only [List.length_append, List.length_cons, List.length_nil]; omega, by simp only; omega, ?_⟩, by simp only; omega, ?_⟩
        · rw [hx, drop_at hq, show 3 - c = (3 - (c + 1)) + 1 by omega]; simp only [extP]; rw [if_pos hqm]
        · dsimp only
          rw [show ps.length - (a + 1) = k' by omega]
          conv => whnf
          exact GOES.cA h0
    · obtain ⟨q, hq, hqm⟩ := sees_yes (by assumption)
      have hql := made_len hqm
      obtain ⟨k', hk'⟩ : ∃ k', ps.length - a = k' + 1 := ⟨ps.length - a - 1, by have := (List.getElem?_eq_some_iff.1 hq).1; omega⟩
      rw [hk']
      have hc0 : c = 0 := by omega
      repeat' ((first | refine DRAWN.of (id := 11) tabOK mixed plTag20 (by kernel_rfl) ?_ | with_reducible refine ADD.mk (fun _ _ => ?_) | with_reducible refine NEED.mk (Det.of rfl) ?_ | refine NEED.mk (det_pos (by omega)) ?_ | with_reducible refine FORK.mk ?_ ?_ | refine AU ?_ | ((with_reducible refine IF.mk (fun h => ?_) (fun h => ?_)) <;> (try simp (disch := omega) only [hsB, hsC, lnB, wrap64, wrap32, simprocAttr] at h) <;> try (exfalso; omega))) <;> conv => whnf)
      all_goals
        refine CALL.here (next_tag_does ps a k' (by omega) q hq p (E) S R v x P) rfl rfl (by first | rfl | (simp only [belowO, belowH, plainLL_below _ (plainStrs _), Bool.and_self, Bool.and_true] <;> rfl)) (by first | rfl | (simp only [belowO, belowH, plainLL_below _ (plainStrs _), Bool.and_self, Bool.and_true] <;> rfl)) (by repeat' (first | exact trivial | exact rfl | ((conv => whnf); refine ⟨?_, ?_⟩))) (by repeat' (first | exact trivial | exact rfl | ((conv => whnf); refine ⟨?_, ?_⟩))) rfl ?_ ?_
        · rintro r O' nx' ⟨rfl, rfl, rfl⟩; exact ⟨rfl, rfl, rfl⟩
        rintro r O' ⟨rfl, rfl, _⟩
        conv => whnf
        repeat' ((first | refine DRAWN.of (id := 11) tabOK mixed plTag20 (by kernel_rfl) ?_ | with_reducible refine ADD.mk (fun _ _ => ?_) | with_reducible refine NEED.mk (Det.of rfl) ?_ | refine NEED.mk (det_pos (by omega)) ?_ | with_reducible refine FORK.mk ?_ ?_ | refine AU ?_ | ((with_reducible refine IF.mk (fun h => ?_) (fun h => ?_)) <;> (try simp (disch := omega) only [hsB, hsC, lnB, wrap64, wrap32, simprocAttr] at h) <;> try (exfalso; omega))) <;> conv => whnf)
        refine ⟨(c + 1, (E) ++ q, a + 1), ⟨by simp only; omega, by simp only [List.length_append, List.length_cons, List.length_nil]; omega, by simp only; omega, ?_⟩, by simp only; omega, ?_⟩
        · rw [hx, drop_at hq, show 3 - c = (3 - (c + 1)) + 1 by omega]; simp only [extP]; rw [if_pos hqm]
        · dsimp only
          rw [show ps.length - (a + 1) = k' by omega]
          conv => whnf
          exact GOES.cA h0
    · exact FIN.here h0 (Oc := [(0, rdBox a (ps.length - a) p E S R v x P)]) rfl rfl rfl ⟨rfl, trivial⟩ ⟨a, ps.length - a, p, E, ha, by rw [hL]; rfl, by rw [hL]; rintro l ⟨⟩; exact fin (.inl (by assumption)), rfl, rfl⟩
  · have h : c = 3 := by simp at h; omega
    conv => whnf
    repeat' ((first | refine AU ?_ | ((with_reducible refine IF.mk (fun h => ?_) (fun h => ?_)) <;> (try simp (disch := omega) only [hsB, hsC, lnB, wrap64, wrap32, simprocAttr] at h) <;> try (exfalso; omega))) <;> conv => whnf)
    exact FIN.here h0 (Oc := [(0, rdBox a (ps.length - a) p E S R v x P)]) rfl rfl rfl ⟨rfl, trivial⟩ ⟨a, ps.length - a, p, E, ha, by rw [hL]; rfl, by rw [hL]; rintro l ⟨⟩; exact fin (.inr h), rfl, rfl⟩
theorem skip_no {p : List UInt8 → Bool} {ps : List (List UInt8)} {i : Nat} (h : seesM p ps i = false) : skipIf p (ps.drop i) = ps.drop i := by
  rcases sees_no h with h | ⟨s, _, h1, h2⟩
  · rw [h]; rfl
  · rw [h1]; simp only [skipIf]; rw [if_neg (by simp [h2])]
theorem skip_yes {p : List UInt8 → Bool} {ps : List (List UInt8)} {i : Nat} {s : List UInt8} (h : ps[i]? = some s) (hp : p s = true) : skipIf p (ps.drop i) = ps.drop (i + 1) := by
  rw [drop_at h]; simp only [skipIf]; rw [if_pos hp]
theorem index_st_does (l : List (List UInt8)) (s : List UInt8) (hl : l.length ≤ 1152921504606846976) : Does Tryz.prog tab 221 1 [.sl (.loc 0) 0 1 l.length none, .str s] [] [(0, .rows 1 (l.map strRow))]
    (fun r O nx => ∃ n : Int, (0 ≤ n ↔ s ∈ l) ∧ r = .int .i64 n ∧ O = [] ∧ nx = 1) := by
  refine Does.enter tabOK (g := 221) (fn := Tryz.f221) Tryz.call221 Tryz.func221 rfl 19 rfl rfl [.tmp 4] rfl ?_
  intro w0 F η0 h0
  conv => whnf
  refine LOOP.go tabOK [0, 1, 7] (X := Nat) (fun i => i ≤ l.length ∧ s ∉ l.take i) (fun i => [(8, .int .i64 (i : Int))]) (fun i => []) 1 (fun i => l.length - i) 0 ⟨by omega, by simp⟩ ?_
  conv => whnf
  refine ⟨by exact GOES.cA h0, ?_⟩
  rintro i ⟨hi, hc⟩
  conv => whnf
  repeat' ((first | (refine GET.at (row := strRow (l[i]'(by omega))) (by rw [List.getElem?_map, show 0 + (i : Int).toNat = i by omega, List.getElem?_eq_getElem (by omega)]; rfl) ?_; conv => whnf) | refine AU ?_ | ((with_reducible refine IF.mk (fun h => ?_) (fun h => ?_)) <;> (try simp (disch := omega) only [hsB, hsC, lnB, wrap64, wrap32, simprocAttr] at h) <;> try (exfalso; omega))) <;> conv => whnf)
  · have hl : i < l.length := by omega
    exact FIN.val h0 rfl ⟨i, ⟨fun _ => by subst h; exact List.getElem_mem hl, fun _ => by omega⟩, rfl, rfl, rfl⟩
  · have hl : i < l.length := by omega
    refine ⟨i + 1, ⟨by omega, ?_⟩, by omega, ?_⟩
    · rw [List.take_succ_eq_append_getElem hl]
      simp only [List.mem_append, List.mem_singleton]
      rintro (h1 | h1)
      · exact hc h1
      · exact h h1
    · conv => whnf
      exact GOES.cA h0
  · refine FIN.val h0 rfl ⟨-1, ⟨fun h => by omega, fun h1 => ?_⟩, rfl, rfl, rfl⟩
    rw [List.take_of_length_le (by omega)] at hc
    exact (hc h1).elim
theorem contains_does (l : List (List UInt8)) (s : List UInt8) (hl : l.length ≤ 1152921504606846976) : Does Tryz.prog tab 209 1 [.sl (.loc 0) 0 1 l.length none, .str s] [] [(0, .rows 1 (l.map strRow))] (ValK 1 (.bool (decide (s ∈ l)))) := by
  refine Does.enter tabOK (g := 209) (fn := Tryz.f209) Tryz.call209 Tryz.func209 rfl 9 rfl rfl [.tmp 4] rfl ?_
  intro w0 F η0 h0
  conv => whnf
  refine CALL.here (index_st_does l s hl) rfl rfl (by first | rfl | (simp only [belowO, belowH, plainLL_below _ (plainStrs _), Bool.and_self, Bool.and_true] <;> rfl)) (by first | rfl | (simp only [belowO, belowH, plainLL_below _ (plainStrs _), Bool.and_self, Bool.and_true] <;> rfl)) (by repeat' (first | exact trivial | exact rfl | ((conv => whnf); refine ⟨?_, ?_⟩))) (by repeat' (first | exact trivial | exact rfl | ((conv => whnf); refine ⟨?_, ?_⟩))) rfl ?_ ?_
  · rintro r O' nx' ⟨n, _, rfl, rfl, rfl⟩; exact ⟨rfl, rfl, rfl⟩
  rintro r O' ⟨n, hn, rfl, rfl, _⟩
  conv => whnf
  exact FIN.valueK h0 rfl (congrArg SV.bool (decide_eq_decide.2 hn))
def orE : List Int → Int
  | [] => 0
  | a :: l => if a ≠ 0 then a else orE l
def intRowE (a : Int) : List SV := [.int .i64 a]
theorem cmpOrErr_does (xs : List Int) (hn : xs.length ≤ 1152921504606846976) : Does Tryz.prog tab 52 1 [.sl (.loc 0) 0 1 xs.length none] [] [(0, .rows 1 (xs.map intRowE))] (ValK 1 (.int .i64 (orE xs))) := by
  refine Does.enter tabOK (g := 52) (fn := Tryz.f52) Tryz.call52 Tryz.func52 rfl 18 rfl rfl [.tmp 2] rfl ?_
  intro w0 F η0 h0
  conv => whnf
  refine LOOP.go tabOK [3, 6, 7] (X := Nat) (fun i => i ≤ xs.length ∧ orE xs = orE (xs.drop i)) (fun i => [(8, .int .i64 (i : Int))]) (fun i => []) 1 (fun i => xs.length - i) 0 ⟨by omega, rfl⟩ ?_
  conv => whnf
  refine ⟨by exact GOES.cA h0, ?_⟩
  rintro i ⟨hi, ho⟩
  conv => whnf
  repeat' ((first | (refine GET.at (row := intRowE (xs[i]'(by omega))) (by rw [List.getElem?_map, show 0 + (i : Int).toNat = i by omega, List.getElem?_eq_getElem (by omega)]; rfl) ?_; conv => whnf) | refine AU ?_ | ((with_reducible refine IF.mk (fun h => ?_) (fun h => ?_)) <;> (try simp (disch := omega) only [hsB, hsC, lnB, wrap64, wrap32, simprocAttr] at h) <;> try (exfalso; omega))) <;> conv => whnf)
  · have hl : i < xs.length := by omega
    refine FIN.valueK h0 rfl (congrArg (SV.int _) ?_)
    rw [ho, List.drop_eq_getElem_cons hl]; simp only [orE]; rw [if_pos h]
  · have hl : i < xs.length := by omega
    refine ⟨i + 1, ⟨by omega, ?_⟩, by omega, ?_⟩
    · rw [ho, List.drop_eq_getElem_cons hl]; simp only [orE]; rw [if_neg (by simpa using h)]
    · conv => whnf
      exact GOES.cA h0
  · refine FIN.valueK h0 rfl (congrArg (SV.int _) ?_)
    rw [ho, List.drop_eq_nil_of_le (by omega)]; rfl
end Go.Proofs.YtjbbkimodgffiaaGreatDoor
/- names: the reader of tags: what stands behind the language, walked. Conditions: none. -/
set_option linter.unusedVariables false
set_option linter.unusedSimpArgs false
set_option maxRecDepth 20000
set_option maxHeartbeats 8000000
namespace Go.Proofs.YtjbbkimodgffiaaGreatDoor
open Go.Sx Go.Our
theorem rest_does (ps : List (List UInt8)) (hb : bulkM ps + ps.length ≤ 68719476736) (i m : Nat) (him : i + m = ps.length) (L E : List UInt8) (P : List UInt8) :
    Does Tryz.prog tab 182 4 [.ptr (.loc 0) 0 0 0] [(0, rdBox i m L E [] [] 0 0 P), (2, .rows 1 []), (3, .rows 1 [])] [(1, .rows 1 (ps.map strRow))]
      (fun r O nx => ∃ (i' m' : Nat) (S R : List UInt8), i' + m' = ps.length ∧ r = .bool (restP (ps.drop i)).isSome ∧ (∀ l, restP (ps.drop i) = some l → l = ps.drop i') ∧ O = [(0, rdBoxA i' m' L E S R 0 0 P)] ∧ nx = 4) := by
  have hsm := bulk_sm (ps := ps) (by omega)
  refine Does.enter tabOK (g := 182) (fn := Tryz.f182) Tryz.call182 Tryz.func182 rfl 85 rfl rfl [.tmp 2] rfl ?_
  intro w0 F η0 h0
  conv => whnf
  refine CALL.here (sees_does 206 _ ps (fun s hs => rest1_does s (hsm s hs)) i m him L E [] [] 0 0 P) rfl rfl (by first | rfl | (simp only [belowO, belowH, plainLL_below _ (plainStrs _), Bool.and_self, Bool.and_true] <;> rfl)) (by first | rfl | (simp only [belowO, belowH, plainLL_below _ (plainStrs _), Bool.and_self, Bool.and_true] <;> rfl)) (by repeat' (first | exact trivial | exact rfl | ((conv => whnf); refine ⟨?_, ?_⟩))) (by repeat' (first | exact trivial | exact rfl | ((conv => whnf); refine ⟨?_, ?_⟩))) rfl ?_ ?_
  · rintro r O' nx' ⟨rfl, rfl, rfl⟩; exact ⟨rfl, rfl, rfl⟩
  rintro r O' ⟨rfl, rfl, _⟩
  conv => whnf
  refine IF.mk (fun h1 => ?_) (fun h1 => ?_)
  · obtain ⟨p, hp, hpm⟩ := sees_yes h1
    have hlt := (List.getElem?_eq_some_iff.1 hp).1
    have hk1 := skip_yes (p := fun s => madeM s 4 4 true) hp hpm
    obtain ⟨k, rfl⟩ : ∃ k, m = k + 1 := ⟨m - 1, by omega⟩
    conv => whnf
    refine CALL.here (next_tag_does ps i k him p hp L E [] [] 0 0 P) rfl rfl (by first | rfl | (simp only [belowO, belowH, plainLL_below _ (plainStrs _), Bool.and_self, Bool.and_true] <;> rfl)) (by first | rfl | (simp only [belowO, belowH, plainLL_below _ (plainStrs _), Bool.and_self, Bool.and_true] <;> rfl)) (by repeat' (first | exact trivial | exact rfl | ((conv => whnf); refine ⟨?_, ?_⟩))) (by repeat' (first | exact trivial | exact rfl | ((conv => whnf); refine ⟨?_, ?_⟩))) rfl ?_ ?_
    · rintro r O' nx' ⟨rfl, rfl, rfl⟩; exact ⟨rfl, rfl, rfl⟩
    rintro r O' ⟨rfl, rfl, _⟩
    conv => whnf
    refine CALL.here (sees_does 207 _ ps (fun s hs => region_does s (hsm s hs)) (i + 1) k (by omega) L E p [] 0 0 P) rfl rfl (by first | rfl | (simp only [belowO, belowH, plainLL_below _ (plainStrs _), Bool.and_self, Bool.and_true] <;> rfl)) (by first | rfl | (simp only [belowO, belowH, plainLL_below _ (plainStrs _), Bool.and_self, Bool.and_true] <;> rfl)) (by repeat' (first | exact trivial | exact rfl | ((conv => whnf); refine ⟨?_, ?_⟩))) (by repeat' (first | exact trivial | exact rfl | ((conv => whnf); refine ⟨?_, ?_⟩))) rfl ?_ ?_
    · rintro r O' nx' ⟨rfl, rfl, rfl⟩; exact ⟨rfl, rfl, rfl⟩
    rintro r O' ⟨rfl, rfl, _⟩
    conv => whnf
    refine IF.mk (fun h1 => ?_) (fun h1 => ?_)
    · obtain ⟨q, hq, hqm⟩ := sees_yes h1
      have hlt := (List.getElem?_eq_some_iff.1 hq).1
      obtain ⟨k2, rfl⟩ : ∃ k2, k = k2 + 1 := ⟨k - 1, by omega⟩
      have he : skipIf regionM (skipIf (fun s => madeM s 4 4 true) (ps.drop i)) = ps.drop (i + 1 + 1) := by rw [hk1, skip_yes hq hqm]
      conv => whnf
      refine CALL.here (next_tag_does ps (i + 1) k2 (by omega) q hq L E p [] 0 0 P) rfl rfl (by first | rfl | (simp only [belowO, belowH, plainLL_below _ (plainStrs _), Bool.and_self, Bool.and_true] <;> rfl)) (by first | rfl | (simp only [belowO, belowH, plainLL_below _ (plainStrs _), Bool.and_self, Bool.and_true] <;> rfl)) (by repeat' (first | exact trivial | exact rfl | ((conv => whnf); refine ⟨?_, ?_⟩))) (by repeat' (first | exact trivial | exact rfl | ((conv => whnf); refine ⟨?_, ?_⟩))) rfl ?_ ?_
      · rintro r O' nx' ⟨rfl, rfl, rfl⟩; exact ⟨rfl, rfl, rfl⟩
      rintro r O' ⟨rfl, rfl, _⟩
      conv => whnf
      refine LOOP.nil 3 1 rfl ?_
      refine LOOP.go tabOK [0] (X := Nat × List (List UInt8) × List (List UInt8)) (fun y => y.1 ≤ ps.length ∧ y.2.1.length ≤ y.1 ∧ y.2.2.length ≤ y.1 ∧ varsP [] (ps.drop (i + 1 + 1)) = varsP y.2.1 (ps.drop y.1)) (fun y => [(3, .sl (.loc 6) 0 1 y.2.1.length none)]) (fun y => [(0, rdBoxC y.1 (ps.length - y.1) L E (p) (q) y.2.2.length 0 P), (4, .rows 1 (y.2.2.map strRow)), (5, .rows 1 []), (6, .rows 1 (y.2.1.map strRow))]) 7 (fun y => ps.length - y.1) (i + 1 + 1, [], []) ⟨by simp only; omega, by simp, by simp, rfl⟩ ?_
      conv => whnf
      try rw [show ps.length - (i + 1 + 1) = k2 by omega]
      refine ⟨by (refine GOES.keeping h0 [2, 3, 4] rfl rfl rfl (by first | rfl | (simp only [belowO, belowH, plainLL_below _ (plainStrs _), Bool.and_self, Bool.and_true] <;> rfl)) ?_ ?_ <;> (repeat' (first | (with_reducible rfl) | (exact rows_eq (plainStrs _) (renLL_plain _ (plainStrs _))) | (exact rows_eq (plainStrs _) (by simp [strRow, ofVal, List.take_of_length_le])) | (exact sl_eq rfl (by first | (simp; done) | omega | (simp; omega))) | (exact congrArg (SV.int _) (by first | omega | (simp (disch := omega) only [lnB, wrap64, wrap32] <;> omega) | (simp; done) | (simp <;> omega))) | ((conv => whnf); refine ⟨?_, ?_⟩) | exact trivial | (simp only [ren, renB]; done) | rfl))), ?_⟩
      rintro ⟨a, seen, vs⟩ ⟨ha, hs, hv, hx⟩
      dsimp only at ha hs hv hx ⊢
      conv => whnf
      refine CALL.here (sees_doesC 208 _ ps (fun s hs => variant_does s (hsm s hs)) a (ps.length - a) (by omega) L E (p) (q) vs.length 0 P) rfl rfl (by first | rfl | (simp only [belowO, belowH, plainLL_below _ (plainStrs _), Bool.and_self, Bool.and_true] <;> rfl)) (by first | rfl | (simp only [belowO, belowH, plainLL_below _ (plainStrs _), Bool.and_self, Bool.and_true] <;> rfl)) (by repeat' (first | exact trivial | exact rfl | ((conv => whnf); refine ⟨?_, ?_⟩))) (by repeat' (first | exact trivial | exact rfl | ((conv => whnf); refine ⟨?_, ?_⟩))) rfl ?_ ?_
      · rintro r O' nx' ⟨rfl, rfl, rfl⟩; exact ⟨rfl, rfl, rfl⟩
      rintro r O' ⟨rfl, rfl, _⟩
      conv => whnf
      refine IF.mk (fun h => ?_) (fun h => ?_)
      · obtain ⟨w, hw, hwm⟩ := sees_yes h
        have hlt := (List.getElem?_eq_some_iff.1 hw).1
        obtain ⟨k', hk'⟩ : ∃ k', ps.length - a = k' + 1 := ⟨ps.length - a - 1, by omega⟩
        have hpl := hsm w (List.mem_of_getElem? hw)
        have hxa : varsP seen (ps.drop a) = if lowerM w ∈ seen then none else varsP (seen ++ [lowerM w]) (ps.drop (a + 1)) := by
          rw [drop_at hw]; simp only [varsP]; rw [if_pos hwm]
        rw [hk']
        conv => whnf
        refine CALL.here (next_tag_doesC ps a k' (by omega) w hw L E (p) (q) vs.length 0 P) rfl rfl (by first | rfl | (simp only [belowO, belowH, plainLL_below _ (plainStrs _), Bool.and_self, Bool.and_true] <;> rfl)) (by first | rfl | (simp only [belowO, belowH, plainLL_below _ (plainStrs _), Bool.and_self, Bool.and_true] <;> rfl)) (by repeat' (first | exact trivial | exact rfl | ((conv => whnf); refine ⟨?_, ?_⟩))) (by repeat' (first | exact trivial | exact rfl | ((conv => whnf); refine ⟨?_, ?_⟩))) rfl ?_ ?_
        · rintro r O' nx' ⟨rfl, rfl, rfl⟩; exact ⟨rfl, rfl, rfl⟩
        rintro r O' ⟨rfl, rfl, _⟩
        conv => whnf
        repeat' ((first | refine CALL.value (lower_does _ hpl) rfl rfl ?_ | (refine CALL.look1 6 (contains_does seen (lowerM w) (by omega)) rfl rfl rfl rfl (plainStrs _) rfl ?_; conv => whnf) | refine AU ?_ | ((with_reducible refine IF.mk (fun h => ?_) (fun h => ?_)) <;> (try simp (disch := omega) only [hsB, hsC, lnB, wrap64, wrap32, simprocAttr] at h) <;> try (exfalso; omega))) <;> conv => whnf)
        · have hin : lowerM w ∈ seen := by simpa using h
          have hn : restP (ps.drop i) = none := by unfold restP; rw [he, hx, hxa, if_pos hin]
          exact FIN.loose h0 0 [.sl (.loc 1) (a + 1) 1 (k') none, .str L, .str E, .str (p), .str (q), .any, .any, .str P] rfl rfl rfl ⟨.inr ⟨rfl, rfl⟩, .inr ⟨rfl, rfl⟩, .inr ⟨rfl, rfl⟩, .inr ⟨rfl, rfl⟩, .inr ⟨rfl, rfl⟩, .inl rfl, .inl rfl, .inr ⟨rfl, rfl⟩, trivial⟩ ⟨a + 1, k', p, q, by omega, by rw [hn]; rfl, by simp [hn], rfl, rfl⟩
        · have hin : ¬ lowerM w ∈ seen := by simpa using h
          refine ⟨(a + 1, seen ++ [lowerM w], vs ++ [w]), ⟨by simp only; omega, by simp; omega, by simp; omega, by simp only; rw [hx, hxa, if_neg hin]⟩, by simp only; omega, ?_⟩
          dsimp only
          rw [show ps.length - (a + 1) = k' by omega, show (vs ++ [w]).length = vs.length + 1 by simp]
          conv => whnf
          (refine GOES.keeping h0 [10, 5, 8] rfl rfl rfl (by first | rfl | (simp only [belowO, belowH, plainLL_below _ (plainStrs _), Bool.and_self, Bool.and_true] <;> rfl)) ?_ ?_ <;> (repeat' (first | (with_reducible rfl) | (exact rows_eq (plainStrs _) (renLL_plain _ (plainStrs _))) | (exact rows_eq (plainStrs _) (by simp [strRow, ofVal, List.take_of_length_le])) | (exact sl_eq rfl (by first | (simp; done) | omega | (simp; omega))) | (exact congrArg (SV.int _) (by first | omega | (simp (disch := omega) only [lnB, wrap64, wrap32] <;> omega) | (simp; done) | (simp <;> omega))) | ((conv => whnf); refine ⟨?_, ?_⟩) | exact trivial | (simp only [ren, renB]; done) | rfl)))
      · have hv0 : varsP seen (ps.drop a) = some (ps.drop a, seen) := by
          rcases sees_no h with h | ⟨s, _, h1, h2⟩
          · rw [h]; rfl
          · rw [h1]; simp only [varsP]; rw [if_neg (by simp [h2])]
        have hr0 : restP (ps.drop i) = extsP seen (ps.drop a) := by unfold restP; rw [he, hx, hv0]
        conv => whnf
        refine LOOP.go tabOK [0] (X := Nat × List (List UInt8) × List (List UInt8)) (fun y => y.1 ≤ ps.length ∧ y.2.1.length ≤ y.1 ∧ y.2.2.length ≤ y.1 ∧ restP (ps.drop i) = extsP y.2.1 (ps.drop y.1)) (fun y => [(3, .sl (.loc 6) 0 1 y.2.1.length none)]) (fun y => [(0, rdBoxC y.1 (ps.length - y.1) L E (p) (q) vs.length y.2.2.length P), (4, .rows 1 (vs.map strRow)), (5, .rows 1 (y.2.2.map strRow)), (6, .rows 1 (y.2.1.map strRow))]) 7 (fun y => ps.length - y.1) (a, seen, []) ⟨by simp only; omega, by simp only; omega, by simp, hr0⟩ ?_
        conv => whnf
        refine ⟨by (refine GOES.keeping h0 [4, 5, 6] rfl rfl rfl (by first | rfl | (simp only [belowO, belowH, plainLL_below _ (plainStrs _), Bool.and_self, Bool.and_true] <;> rfl)) ?_ ?_ <;> (repeat' (first | (with_reducible rfl) | (exact rows_eq (plainStrs _) (renLL_plain _ (plainStrs _))) | (exact rows_eq (plainStrs _) (by simp [strRow, ofVal, List.take_of_length_le])) | (exact sl_eq rfl (by first | (simp; done) | omega | (simp; omega))) | (exact congrArg (SV.int _) (by first | omega | (simp (disch := omega) only [lnB, wrap64, wrap32] <;> omega) | (simp; done) | (simp <;> omega))) | ((conv => whnf); refine ⟨?_, ?_⟩) | exact trivial | (simp only [ren, renB]; done) | rfl))), ?_⟩
        clear hr0 hv0 hx hs hv
        rintro ⟨a, seen, xs⟩ ⟨ha, hs, hv, hx⟩
        dsimp only at ha hs hv hx ⊢
        conv => whnf
        refine CALL.here (sees_doesC 210 _ ps (fun s hs => rest2_does s (hsm s hs)) a (ps.length - a) (by omega) L E (p) (q) vs.length xs.length P) rfl rfl (by first | rfl | (simp only [belowO, belowH, plainLL_below _ (plainStrs _), Bool.and_self, Bool.and_true] <;> rfl)) (by first | rfl | (simp only [belowO, belowH, plainLL_below _ (plainStrs _), Bool.and_self, Bool.and_true] <;> rfl)) (by repeat' (first | exact trivial | exact rfl | ((conv => whnf); refine ⟨?_, ?_⟩))) (by repeat' (first | exact trivial | exact rfl | ((conv => whnf); refine ⟨?_, ?_⟩))) rfl ?_ ?_
        · rintro r O' nx' ⟨rfl, rfl, rfl⟩; exact ⟨rfl, rfl, rfl⟩
        rintro r O' ⟨rfl, rfl, _⟩
        conv => whnf
        refine IF.mk (fun h => ?_) (fun h => ?_)
        · obtain ⟨w, hw, hwm⟩ := sees_yes h
          have hlt := (List.getElem?_eq_some_iff.1 hw).1
          obtain ⟨k', hk'⟩ : ∃ k', ps.length - a = k' + 1 := ⟨ps.length - a - 1, by omega⟩
          have hpl := hsm w (List.mem_of_getElem? hw)
          rw [hk']
          conv => whnf
          refine CALL.here (next_tag_doesC ps a k' (by omega) w hw L E (p) (q) vs.length xs.length P) rfl rfl (by first | rfl | (simp only [belowO, belowH, plainLL_below _ (plainStrs _), Bool.and_self, Bool.and_true] <;> rfl)) (by first | rfl | (simp only [belowO, belowH, plainLL_below _ (plainStrs _), Bool.and_self, Bool.and_true] <;> rfl)) (by repeat' (first | exact trivial | exact rfl | ((conv => whnf); refine ⟨?_, ?_⟩))) (by repeat' (first | exact trivial | exact rfl | ((conv => whnf); refine ⟨?_, ?_⟩))) rfl ?_ ?_
          · rintro r O' nx' ⟨rfl, rfl, rfl⟩; exact ⟨rfl, rfl, rfl⟩
          rintro r O' ⟨rfl, rfl, _⟩
          conv => whnf
          refine CALL.here (tail_doesC 2 ps (by omega) (a + 1) k' (by omega) L E (p) (q) vs.length xs.length P) rfl rfl (by first | rfl | (simp only [belowO, belowH, plainLL_below _ (plainStrs _), Bool.and_self, Bool.and_true] <;> rfl)) (by first | rfl | (simp only [belowO, belowH, plainLL_below _ (plainStrs _), Bool.and_self, Bool.and_true] <;> rfl)) (by repeat' (first | exact trivial | exact rfl | ((conv => whnf); refine ⟨?_, ?_⟩))) (by repeat' (first | exact trivial | exact rfl | ((conv => whnf); refine ⟨?_, ?_⟩))) rfl ?_ ?_
          · rintro r O' nx' ⟨n, s, _, _, rfl, rfl, rfl⟩; exact ⟨rfl, rfl, rfl⟩
          rintro r O' ⟨n, s, hn, hsl, rfl, rfl, _⟩
          have hnle : n ≤ (ps.drop (a + 1)).length := by rw [hn]; exact span_le _ _
          rw [List.length_drop] at hnle
          have hxa : extsP seen (ps.drop a) = if n = 0 ∨ lowerM w ∈ seen then none else extsP (seen ++ [lowerM w]) (ps.drop (a + 1 + n)) := by
            rw [drop_at hw, extsP, if_pos hwm, ← hn, List.drop_drop]
          conv => whnf
          refine IF.mk (fun h1 => ?_) (fun h1 => ?_)
          · have h0n : n = 0 := by simpa using h1
            have hn : restP (ps.drop i) = none := by rw [hx, hxa, if_pos (.inl h0n)]
            conv => whnf
            repeat' ((first | refine AU ?_ | ((with_reducible refine IF.mk (fun h => ?_) (fun h => ?_)) <;> (try simp (disch := omega) only [hsB, hsC, lnB, wrap64, wrap32, simprocAttr] at h) <;> try (exfalso; omega))) <;> conv => whnf)
            exact FIN.loose h0 0 [.sl (.loc 1) (a + 1 + n) 1 (k' - n) none, .str L, .str E, .str (p), .str (q), .any, .any, .str P] rfl rfl rfl ⟨.inr ⟨rfl, rfl⟩, .inr ⟨rfl, rfl⟩, .inr ⟨rfl, rfl⟩, .inr ⟨rfl, rfl⟩, .inr ⟨rfl, rfl⟩, .inl rfl, .inl rfl, .inr ⟨rfl, rfl⟩, trivial⟩ ⟨a + 1 + n, k' - n, p, q, by omega, by rw [hn]; rfl, by simp [hn], rfl, rfl⟩
          · have h0n : n ≠ 0 := by simpa using h1
            conv => whnf
            repeat' ((first | refine CALL.value (lower_does _ hpl) rfl rfl ?_ | (refine CALL.look1 6 (contains_does seen (lowerM w) (by omega)) rfl rfl rfl rfl (plainStrs _) rfl ?_; conv => whnf) | refine AU ?_ | ((with_reducible refine IF.mk (fun h => ?_) (fun h => ?_)) <;> (try simp (disch := omega) only [hsB, hsC, lnB, wrap64, wrap32, simprocAttr] at h) <;> try (exfalso; omega))) <;> conv => whnf)
            · have hin : lowerM w ∈ seen := by simp_all
              have hn : restP (ps.drop i) = none := by rw [hx, hxa, if_pos (.inr hin)]
              exact FIN.loose h0 0 [.sl (.loc 1) (a + 1 + n) 1 (k' - n) none, .str L, .str E, .str (p), .str (q), .any, .any, .str P] rfl rfl rfl ⟨.inr ⟨rfl, rfl⟩, .inr ⟨rfl, rfl⟩, .inr ⟨rfl, rfl⟩, .inr ⟨rfl, rfl⟩, .inr ⟨rfl, rfl⟩, .inl rfl, .inl rfl, .inr ⟨rfl, rfl⟩, trivial⟩ ⟨a + 1 + n, k' - n, p, q, by omega, by rw [hn]; rfl, by simp [hn], rfl, rfl⟩
            · have hin : ¬ lowerM w ∈ seen := by simp_all
              refine ⟨(a + 1 + n, seen ++ [lowerM w], xs ++ [w ++ s]), ⟨by simp only; omega, by simp; omega, by simp; omega, by simp only; rw [hx, hxa, if_neg (by simp [h0n, hin])]⟩, by simp only; omega, ?_⟩
              dsimp only
              rw [show ps.length - (a + 1 + n) = k' - n by omega, show (xs ++ [w ++ s]).length = xs.length + 1 by simp]
              conv => whnf
              (refine GOES.keeping h0 [4, 10, 8] rfl rfl rfl (by first | rfl | (simp only [belowO, belowH, plainLL_below _ (plainStrs _), Bool.and_self, Bool.and_true] <;> rfl)) ?_ ?_ <;> (repeat' (first | (with_reducible rfl) | (exact rows_eq (plainStrs _) (renLL_plain _ (plainStrs _))) | (exact rows_eq (plainStrs _) (by simp [strRow, ofVal, List.take_of_length_le])) | (exact sl_eq rfl (by first | (simp; done) | omega | (simp; omega))) | (exact congrArg (SV.int _) (by first | omega | (simp (disch := omega) only [lnB, wrap64, wrap32] <;> omega) | (simp; done) | (simp <;> omega))) | ((conv => whnf); refine ⟨?_, ?_⟩) | exact trivial | (simp only [ren, renB]; done) | rfl)))
        · have hv0 : extsP seen (ps.drop a) = some (ps.drop a) := by
            rcases sees_no h with h | ⟨s, _, h1, h2⟩
            · rw [h, extsP]
            · rw [h1, extsP, if_neg (by simp [h2])]
          conv => whnf
          exact FIN.loose h0 0 [.sl (.loc 1) (a) 1 (ps.length - a) none, .str L, .str E, .str (p), .str (q), .any, .any, .str P] rfl rfl rfl ⟨.inr ⟨rfl, rfl⟩, .inr ⟨rfl, rfl⟩, .inr ⟨rfl, rfl⟩, .inr ⟨rfl, rfl⟩, .inr ⟨rfl, rfl⟩, .inl rfl, .inl rfl, .inr ⟨rfl, rfl⟩, trivial⟩ ⟨a, ps.length - a, p, q, by omega, by rw [hx, hv0]; rfl, by rw [hx, hv0]; rintro l ⟨⟩; rfl, rfl, rfl⟩
    · have he : skipIf regionM (skipIf (fun s => madeM s 4 4 true) (ps.drop i)) = ps.drop (i + 1) := by rw [hk1, skip_no h1]
      conv => whnf
      refine LOOP.nil 3 1 rfl ?_
      refine LOOP.go tabOK [0] (X := Nat × List (List UInt8) × List (List UInt8)) (fun y => y.1 ≤ ps.length ∧ y.2.1.length ≤ y.1 ∧ y.2.2.length ≤ y.1 ∧ varsP [] (ps.drop (i + 1)) = varsP y.2.1 (ps.drop y.1)) (fun y => [(3, .sl (.loc 6) 0 1 y.2.1.length none)]) (fun y => [(0, rdBoxC y.1 (ps.length - y.1) L E (p) ([]) y.2.2.length 0 P), (4, .rows 1 (y.2.2.map strRow)), (5, .rows 1 []), (6, .rows 1 (y.2.1.map strRow))]) 7 (fun y => ps.length - y.1) (i + 1, [], []) ⟨by simp only; omega, by simp, by simp, rfl⟩ ?_
      conv => whnf
      try rw [show ps.length - (i + 1) = k by omega]
      refine ⟨by (refine GOES.keeping h0 [2, 3, 4] rfl rfl rfl (by first | rfl | (simp only [belowO, belowH, plainLL_below _ (plainStrs _), Bool.and_self, Bool.and_true] <;> rfl)) ?_ ?_ <;> (repeat' (first | (with_reducible rfl) | (exact rows_eq (plainStrs _) (renLL_plain _ (plainStrs _))) | (exact rows_eq (plainStrs _) (by simp [strRow, ofVal, List.take_of_length_le])) | (exact sl_eq rfl (by first | (simp; done) | omega | (simp; omega))) | (exact congrArg (SV.int _) (by first | omega | (simp (disch := omega) only [lnB, wrap64, wrap32] <;> omega) | (simp; done) | (simp <;> omega))) | ((conv => whnf); refine ⟨?_, ?_⟩) | exact trivial | (simp only [ren, renB]; done) | rfl))), ?_⟩
      rintro ⟨a, seen, vs⟩ ⟨ha, hs, hv, hx⟩
      dsimp only at ha hs hv hx ⊢
      conv => whnf
      refine CALL.here (sees_doesC 208 _ ps (fun s hs => variant_does s (hsm s hs)) a (ps.length - a) (by omega) L E (p) ([]) vs.length 0 P) rfl rfl (by first | rfl | (simp only [belowO, belowH, plainLL_below _ (plainStrs _), Bool.and_self, Bool.and_true] <;> rfl)) (by first | rfl | (simp only [belowO, belowH, plainLL_below _ (plainStrs _), Bool.and_self, Bool.and_true] <;> rfl)) (by repeat' (first | exact trivial | exact rfl | ((conv => whnf); refine ⟨?_, ?_⟩))) (by repeat' (first | exact trivial | exact rfl | ((conv => whnf); refine ⟨?_, ?_⟩))) rfl ?_ ?_
      · rintro r O' nx' ⟨rfl, rfl, rfl⟩; exact ⟨rfl, rfl, rfl⟩
      rintro r O' ⟨rfl, rfl, _⟩
      conv => whnf
      refine IF.mk (fun h => ?_) (fun h => ?_)
      · obtain ⟨w, hw, hwm⟩ := sees_yes h
        have hlt := (List.getElem?_eq_some_iff.1 hw).1
        obtain ⟨k', hk'⟩ : ∃ k', ps.length - a = k' + 1 := ⟨ps.length - a - 1, by omega⟩
        have hpl := hsm w (List.mem_of_getElem? hw)
        have hxa : varsP seen (ps.drop a) = if lowerM w ∈ seen then none else varsP (seen ++ [lowerM w]) (ps.drop (a + 1)) := by
          rw [drop_at hw]; simp only [varsP]; rw [if_pos hwm]
        rw [hk']
        conv => whnf
        refine CALL.here (next_tag_doesC ps a k' (by omega) w hw L E (p) ([]) vs.length 0 P) rfl rfl (by first | rfl | (simp only [belowO, belowH, plainLL_below _ (plainStrs _), Bool.and_self, Bool.and_true] <;> rfl)) (by first | rfl | (simp only [belowO, belowH, plainLL_below _ (plainStrs _), Bool.and_self, Bool.and_true] <;> rfl)) (by repeat' (first | exact trivial | exact rfl | ((conv => whnf); refine ⟨?_, ?_⟩))) (by repeat' (first | exact trivial | exact rfl | ((conv => whnf); refine ⟨?_, ?_⟩))) rfl ?_ ?_
        · rintro r O' nx' ⟨rfl, rfl, rfl⟩; exact ⟨rfl, rfl, rfl⟩
        rintro r O' ⟨rfl, rfl, _⟩
        conv => whnf
        repeat' ((first | refine CALL.value (lower_does _ hpl) rfl rfl ?_ | (refine CALL.look1 6 (contains_does seen (lowerM w) (by omega)) rfl rfl rfl rfl (plainStrs _) rfl ?_; conv => whnf) | refine AU ?_ | ((with_reducible refine IF.mk (fun h => ?_) (fun h => ?_)) <;> (try simp (disch := omega) only [hsB, hsC, lnB, wrap64, wrap32, simprocAttr] at h) <;> try (exfalso; omega))) <;> conv => whnf)
        · have hin : lowerM w ∈ seen := by simpa using h
          have hn : restP (ps.drop i) = none := by unfold restP; rw [he, hx, hxa, if_pos hin]
          exact FIN.loose h0 0 [.sl (.loc 1) (a + 1) 1 (k') none, .str L, .str E, .str (p), .str ([]), .any, .any, .str P] rfl rfl rfl ⟨.inr ⟨rfl, rfl⟩, .inr ⟨rfl, rfl⟩, .inr ⟨rfl, rfl⟩, .inr ⟨rfl, rfl⟩, .inr ⟨rfl, rfl⟩, .inl rfl, .inl rfl, .inr ⟨rfl, rfl⟩, trivial⟩ ⟨a + 1, k', p, [], by omega, by rw [hn]; rfl, by simp [hn], rfl, rfl⟩
        · have hin : ¬ lowerM w ∈ seen := by simpa using h
          refine ⟨(a + 1, seen ++ [lowerM w], vs ++ [w]), ⟨by simp only; omega, by simp; omega, by simp; omega, by simp only; rw [hx, hxa, if_neg hin]⟩, by simp only; omega, ?_⟩
          dsimp only
          rw [show ps.length - (a + 1) = k' by omega, show (vs ++ [w]).length = vs.length + 1 by simp]
          conv => whnf
          (refine GOES.keeping h0 [10, 5, 8] rfl rfl rfl (by first | rfl | (simp only [belowO, belowH, plainLL_below _ (plainStrs _), Bool.and_self, Bool.and_true] <;> rfl)) ?_ ?_ <;> (repeat' (first | (with_reducible rfl) | (exact rows_eq (plainStrs _) (renLL_plain _ (plainStrs _))) | (exact rows_eq (plainStrs _) (by simp [strRow, ofVal, List.take_of_length_le])) | (exact sl_eq rfl (by first | (simp; done) | omega | (simp; omega))) | (exact congrArg (SV.int _) (by first | omega | (simp (disch := omega) only [lnB, wrap64, wrap32] <;> omega) | (simp; done) | (simp <;> omega))) | ((conv => whnf); refine ⟨?_, ?_⟩) | exact trivial | (simp only [ren, renB]; done) | rfl)))
      · have hv0 : varsP seen (ps.drop a) = some (ps.drop a, seen) := by
          rcases sees_no h with h | ⟨s, _, h1, h2⟩
          · rw [h]; rfl
          · rw [h1]; simp only [varsP]; rw [if_neg (by simp [h2])]
        have hr0 : restP (ps.drop i) = extsP seen (ps.drop a) := by unfold restP; rw [he, hx, hv0]
        conv => whnf
        refine LOOP.go tabOK [0] (X := Nat × List (List UInt8) × List (List UInt8)) (fun y => y.1 ≤ ps.length ∧ y.2.1.length ≤ y.1 ∧ y.2.2.length ≤ y.1 ∧ restP (ps.drop i) = extsP y.2.1 (ps.drop y.1)) (fun y => [(3, .sl (.loc 6) 0 1 y.2.1.length none)]) (fun y => [(0, rdBoxC y.1 (ps.length - y.1) L E (p) ([]) vs.length y.2.2.length P), (4, .rows 1 (vs.map strRow)), (5, .rows 1 (y.2.2.map strRow)), (6, .rows 1 (y.2.1.map strRow))]) 7 (fun y => ps.length - y.1) (a, seen, []) ⟨by simp only; omega, by simp only; omega, by simp, hr0⟩ ?_
        conv => whnf
        refine ⟨by (refine GOES.keeping h0 [4, 5, 6] rfl rfl rfl (by first | rfl | (simp only [belowO, belowH, plainLL_below _ (plainStrs _), Bool.and_self, Bool.and_true] <;> rfl)) ?_ ?_ <;> (repeat' (first | (with_reducible rfl) | (exact rows_eq (plainStrs _) (renLL_plain _ (plainStrs _))) | (exact rows_eq (plainStrs _) (by simp [strRow, ofVal, List.take_of_length_le])) | (exact sl_eq rfl (by first | (simp; done) | omega | (simp; omega))) | (exact congrArg (SV.int _) (by first | omega | (simp (disch := omega) only [lnB, wrap64, wrap32] <;> omega) | (simp; done) | (simp <;> omega))) | ((conv => whnf); refine ⟨?_, ?_⟩) | exact trivial | (simp only [ren, renB]; done) | rfl))), ?_⟩
        clear hr0 hv0 hx hs hv
        rintro ⟨a, seen, xs⟩ ⟨ha, hs, hv, hx⟩
        dsimp only at ha hs hv hx ⊢
        conv => whnf
        refine CALL.here (sees_doesC 210 _ ps (fun s hs => rest2_does s (hsm s hs)) a (ps.length - a) (by omega) L E (p) ([]) vs.length xs.length P) rfl rfl (by first | rfl | (simp only [belowO, belowH, plainLL_below _ (plainStrs _), Bool.and_self, Bool.and_true] <;> rfl)) (by first | rfl | (simp only [belowO, belowH, plainLL_below _ (plainStrs _), Bool.and_self, Bool.and_true] <;> rfl)) (by repeat' (first | exact trivial | exact rfl | ((conv => whnf); refine ⟨?_, ?_⟩))) (by repeat' (first | exact trivial | exact rfl | ((conv => whnf); refine ⟨?_, ?_⟩))) rfl ?_ ?_
        · rintro r O' nx' ⟨rfl, rfl, rfl⟩; exact ⟨rfl, rfl, rfl⟩
        rintro r O' ⟨rfl, rfl, _⟩
        conv => whnf
        refine IF.mk (fun h => ?_) (fun h => ?_)
        · obtain ⟨w, hw, hwm⟩ := sees_yes h
          have hlt := (List.getElem?_eq_some_iff.1 hw).1
          obtain ⟨k', hk'⟩ : ∃ k', ps.length - a = k' + 1 := ⟨ps.length - a - 1, by omega⟩
          have hpl := hsm w (List.mem_of_getElem? hw)
          rw [hk']
          conv => whnf
          refine CALL.here (next_tag_doesC ps a k' (by omega) w hw L E (p) ([]) vs.length xs.length P) rfl rfl (by first | rfl | (simp only [belowO, belowH, plainLL_below _ (plainStrs _), Bool.and_self, Bool.and_true] <;> rfl)) (by first | rfl | (simp only [belowO, belowH, plainLL_below _ (plainStrs _), Bool.and_self, Bool.and_true] <;> rfl)) (by repeat' (first | exact trivial | exact rfl | ((conv => whnf); refine ⟨?_, ?_⟩))) (by repeat' (first | exact trivial | exact rfl | ((conv => whnf); refine ⟨?_, ?_⟩))) rfl ?_ ?_
          · rintro r O' nx' ⟨rfl, rfl, rfl⟩; exact ⟨rfl, rfl, rfl⟩
          rintro r O' ⟨rfl, rfl, _⟩
          conv => whnf
          refine CALL.here (tail_doesC 2 ps (by omega) (a + 1) k' (by omega) L E (p) ([]) vs.length xs.length P) rfl rfl (by first | rfl | (simp only [belowO, belowH, plainLL_below _ (plainStrs _), Bool.and_self, Bool.and_true] <;> rfl)) (by first | rfl | (simp only [belowO, belowH, plainLL_below _ (plainStrs _), Bool.and_self, Bool.and_true] <;> rfl)) (by repeat' (first | exact trivial | exact rfl | ((conv => whnf); refine ⟨?_, ?_⟩))) (by repeat' (first | exact trivial | exact rfl | ((conv => whnf); refine ⟨?_, ?_⟩))) rfl ?_ ?_
          · rintro r O' nx' ⟨n, s, _, _, rfl, rfl, rfl⟩; exact ⟨rfl, rfl, rfl⟩
          rintro r O' ⟨n, s, hn, hsl, rfl, rfl, _⟩
          have hnle : n ≤ (ps.drop (a + 1)).length := by rw [hn]; exact span_le _ _
          rw [List.length_drop] at hnle
          have hxa : extsP seen (ps.drop a) = if n = 0 ∨ lowerM w ∈ seen then none else extsP (seen ++ [lowerM w]) (ps.drop (a + 1 + n)) := by
            rw [drop_at hw, extsP, if_pos hwm, ← hn, List.drop_drop]
          conv => whnf
          refine IF.mk (fun h1 => ?_) (fun h1 => ?_)
          · have h0n : n = 0 := by simpa using h1
            have hn : restP (ps.drop i) = none := by rw [hx, hxa, if_pos (.inl h0n)]
            conv => whnf
            repeat' ((first | refine AU ?_ | ((with_reducible refine IF.mk (fun h => ?_) (fun h => ?_)) <;> (try simp (disch := omega) only [hsB, hsC, lnB, wrap64, wrap32, simprocAttr] at h) <;> try (exfalso; omega))) <;> conv => whnf)
            exact FIN.loose h0 0 [.sl (.loc 1) (a + 1 + n) 1 (k' - n) none, .str L, .str E, .str (p), .str ([]), .any, .any, .str P] rfl rfl rfl ⟨.inr ⟨rfl, rfl⟩, .inr ⟨rfl, rfl⟩, .inr ⟨rfl, rfl⟩, .inr ⟨rfl, rfl⟩, .inr ⟨rfl, rfl⟩, .inl rfl, .inl rfl, .inr ⟨rfl, rfl⟩, trivial⟩ ⟨a + 1 + n, k' - n, p, [], by omega, by rw [hn]; rfl, by simp [hn], rfl, rfl⟩
          · have h0n : n ≠ 0 := by simpa using h1
            conv => whnf
            repeat' ((first | refine CALL.value (lower_does _ hpl) rfl rfl ?_ | (refine CALL.look1 6 (contains_does seen (lowerM w) (by omega)) rfl rfl rfl rfl (plainStrs _) rfl ?_; conv => whnf) | refine AU ?_ | ((with_reducible refine IF.mk (fun h => ?_) (fun h => ?_)) <;> (try simp (disch := omega) only [hsB, hsC, lnB, wrap64, wrap32, simprocAttr] at h) <;> try (exfalso; omega))) <;> conv => whnf)
            · have hin : lowerM w ∈ seen := by simp_all
              have hn : restP (ps.drop i) = none := by rw [hx, hxa, if_pos (.inr hin)]
              exact FIN.loose h0 0 [.sl (.loc 1) (a + 1 + n) 1 (k' - n) none, .str L, .str E, .str (p), .str ([]), .any, .any, .str P] rfl rfl rfl ⟨.inr ⟨rfl, rfl⟩, .inr ⟨rfl, rfl⟩, .inr ⟨rfl, rfl⟩, .inr ⟨rfl, rfl⟩, .inr ⟨rfl, rfl⟩, .inl rfl, .inl rfl, .inr ⟨rfl, rfl⟩, trivial⟩ ⟨a + 1 + n, k' - n, p, [], by omega, by rw [hn]; rfl, by simp [hn], rfl, rfl⟩
            · have hin : ¬ lowerM w ∈ seen := by simp_all
              refine ⟨(a + 1 + n, seen ++ [lowerM w], xs ++ [w ++ s]), ⟨by simp only; omega, by simp; omega, by simp; omega, by simp only; rw [hx, hxa, if_neg (by simp [h0n, hin])]⟩, by simp only; omega, ?_⟩
              dsimp only
              rw [show ps.length - (a + 1 + n) = k' - n by omega, show (xs ++ [w ++ s]).length = xs.length + 1 by simp]
              conv => whnf
              (refine GOES.keeping h0 [4, 10, 8] rfl rfl rfl (by first | rfl | (simp only [belowO, belowH, plainLL_below _ (plainStrs _), Bool.and_self, Bool.and_true] <;> rfl)) ?_ ?_ <;> (repeat' (first | (with_reducible rfl) | (exact rows_eq (plainStrs _) (renLL_plain _ (plainStrs _))) | (exact rows_eq (plainStrs _) (by simp [strRow, ofVal, List.take_of_length_le])) | (exact sl_eq rfl (by first | (simp; done) | omega | (simp; omega))) | (exact congrArg (SV.int _) (by first | omega | (simp (disch := omega) only [lnB, wrap64, wrap32] <;> omega) | (simp; done) | (simp <;> omega))) | ((conv => whnf); refine ⟨?_, ?_⟩) | exact trivial | (simp only [ren, renB]; done) | rfl)))
        · have hv0 : extsP seen (ps.drop a) = some (ps.drop a) := by
            rcases sees_no h with h | ⟨s, _, h1, h2⟩
            · rw [h, extsP]
            · rw [h1, extsP, if_neg (by simp [h2])]
          conv => whnf
          exact FIN.loose h0 0 [.sl (.loc 1) (a) 1 (ps.length - a) none, .str L, .str E, .str (p), .str ([]), .any, .any, .str P] rfl rfl rfl ⟨.inr ⟨rfl, rfl⟩, .inr ⟨rfl, rfl⟩, .inr ⟨rfl, rfl⟩, .inr ⟨rfl, rfl⟩, .inr ⟨rfl, rfl⟩, .inl rfl, .inl rfl, .inr ⟨rfl, rfl⟩, trivial⟩ ⟨a, ps.length - a, p, [], by omega, by rw [hx, hv0]; rfl, by rw [hx, hv0]; rintro l ⟨⟩; rfl, rfl, rfl⟩
  · have hk1 := skip_no h1
    conv => whnf
    refine CALL.here (sees_does 207 _ ps (fun s hs => region_does s (hsm s hs)) i m (by omega) L E [] [] 0 0 P) rfl rfl (by first | rfl | (simp only [belowO, belowH, plainLL_below _ (plainStrs _), Bool.and_self, Bool.and_true] <;> rfl)) (by first | rfl | (simp only [belowO, belowH, plainLL_below _ (plainStrs _), Bool.and_self, Bool.and_true] <;> rfl)) (by repeat' (first | exact trivial | exact rfl | ((conv => whnf); refine ⟨?_, ?_⟩))) (by repeat' (first | exact trivial | exact rfl | ((conv => whnf); refine ⟨?_, ?_⟩))) rfl ?_ ?_
    · rintro r O' nx' ⟨rfl, rfl, rfl⟩; exact ⟨rfl, rfl, rfl⟩
    rintro r O' ⟨rfl, rfl, _⟩
    conv => whnf
    refine IF.mk (fun h1 => ?_) (fun h1 => ?_)
    · obtain ⟨q, hq, hqm⟩ := sees_yes h1
      have hlt := (List.getElem?_eq_some_iff.1 hq).1
      obtain ⟨k2, rfl⟩ : ∃ k2, m = k2 + 1 := ⟨m - 1, by omega⟩
      have he : skipIf regionM (skipIf (fun s => madeM s 4 4 true) (ps.drop i)) = ps.drop (i + 1) := by rw [hk1, skip_yes hq hqm]
      conv => whnf
      refine CALL.here (next_tag_does ps i k2 (by omega) q hq L E [] [] 0 0 P) rfl rfl (by first | rfl | (simp only [belowO, belowH, plainLL_below _ (plainStrs _), Bool.and_self, Bool.and_true] <;> rfl)) (by first | rfl | (simp only [belowO, belowH, plainLL_below _ (plainStrs _), Bool.and_self, Bool.and_true] <;> rfl)) (by repeat' (first | exact trivial | exact rfl | ((conv => whnf); refine ⟨?_, ?_⟩))) (by repeat' (first | exact trivial | exact rfl | ((conv => whnf); refine ⟨?_, ?_⟩))) rfl ?_ ?_
      · rintro r O' nx' ⟨rfl, rfl, rfl⟩; exact ⟨rfl, rfl, rfl⟩
      rintro r O' ⟨rfl, rfl, _⟩
      conv => whnf
      refine LOOP.nil 3 1 rfl ?_
      refine LOOP.go tabOK [0] (X := Nat × List (List UInt8) × List (List UInt8)) (fun y => y.1 ≤ ps.length ∧ y.2.1.length ≤ y.1 ∧ y.2.2.length ≤ y.1 ∧ varsP [] (ps.drop (i + 1)) = varsP y.2.1 (ps.drop y.1)) (fun y => [(3, .sl (.loc 6) 0 1 y.2.1.length none)]) (fun y => [(0, rdBoxC y.1 (ps.length - y.1) L E ([]) (q) y.2.2.length 0 P), (4, .rows 1 (y.2.2.map strRow)), (5, .rows 1 []), (6, .rows 1 (y.2.1.map strRow))]) 7 (fun y => ps.length - y.1) (i + 1, [], []) ⟨by simp only; omega, by simp, by simp, rfl⟩ ?_
      conv => whnf
      try rw [show ps.length - (i + 1) = k2 by omega]
      refine ⟨by (refine GOES.keeping h0 [2, 3, 4] rfl rfl rfl (by first | rfl | (simp only [belowO, belowH, plainLL_below _ (plainStrs _), Bool.and_self, Bool.and_true] <;> rfl)) ?_ ?_ <;> (repeat' (first | (with_reducible rfl) | (exact rows_eq (plainStrs _) (renLL_plain _ (plainStrs _))) | (exact rows_eq (plainStrs _) (by simp [strRow, ofVal, List.take_of_length_le])) | (exact sl_eq rfl (by first | (simp; done) | omega | (simp; omega))) | (exact congrArg (SV.int _) (by first | omega | (simp (disch := omega) only [lnB, wrap64, wrap32] <;> omega) | (simp; done) | (simp <;> omega))) | ((conv => whnf); refine ⟨?_, ?_⟩) | exact trivial | (simp only [ren, renB]; done) | rfl))), ?_⟩
      rintro ⟨a, seen, vs⟩ ⟨ha, hs, hv, hx⟩
      dsimp only at ha hs hv hx ⊢
      conv => whnf
      refine CALL.here (sees_doesC 208 _ ps (fun s hs => variant_does s (hsm s hs)) a (ps.length - a) (by omega) L E ([]) (q) vs.length 0 P) rfl rfl (by first | rfl | (simp only [belowO, belowH, plainLL_below _ (plainStrs _), Bool.and_self, Bool.and_true] <;> rfl)) (by first | rfl | (simp only [belowO, belowH, plainLL_below _ (plainStrs _), Bool.and_self, Bool.and_true] <;> rfl)) (by repeat' (first | exact trivial | exact rfl | ((conv => whnf); refine ⟨?_, ?_⟩))) (by repeat' (first | exact trivial | exact rfl | ((conv => whnf); refine ⟨?_, ?_⟩))) rfl ?_ ?_
      · rintro r O' nx' ⟨rfl, rfl, rfl⟩; exact ⟨rfl, rfl, rfl⟩
      rintro r O' ⟨rfl, rfl, _⟩
      conv => whnf
      refine IF.mk (fun h => ?_) (fun h => ?_)
      · obtain ⟨w, hw, hwm⟩ := sees_yes h
        have hlt := (List.getElem?_eq_some_iff.1 hw).1
        obtain ⟨k', hk'⟩ : ∃ k', ps.length - a = k' + 1 := ⟨ps.length - a - 1, by omega⟩
        have hpl := hsm w (List.mem_of_getElem? hw)
        have hxa : varsP seen (ps.drop a) = if lowerM w ∈ seen then none else varsP (seen ++ [lowerM w]) (ps.drop (a + 1)) := by
          rw [drop_at hw]; simp only [varsP]; rw [if_pos hwm]
        rw [hk']
        conv => whnf
        refine CALL.here (next_tag_doesC ps a k' (by omega) w hw L E ([]) (q) vs.length 0 P) rfl rfl (by first | rfl | (simp only [belowO, belowH, plainLL_below _ (plainStrs _), Bool.and_self, Bool.and_true] <;> rfl)) (by first | rfl | (simp only [belowO, belowH, plainLL_below _ (plainStrs _), Bool.and_self, Bool.and_true] <;> rfl)) (by repeat' (first | exact trivial | exact rfl | ((conv => whnf); refine ⟨?_, ?_⟩))) (by repeat' (first | exact trivial | exact rfl | ((conv => whnf); refine ⟨?_, ?_⟩))) rfl ?_ ?_
        · rintro r O' nx' ⟨rfl, rfl, rfl⟩; exact ⟨rfl, rfl, rfl⟩
        rintro r O' ⟨rfl, rfl, _⟩
        conv => whnf
        repeat' ((first | refine CALL.value (lower_does _ hpl) rfl rfl ?_ | (refine CALL.look1 6 (contains_does seen (lowerM w) (by omega)) rfl rfl rfl rfl (plainStrs _) rfl ?_; conv => whnf) | refine AU ?_ | ((with_reducible refine IF.mk (fun h => ?_) (fun h => ?_)) <;> (try simp (disch := omega) only [hsB, hsC, lnB, wrap64, wrap32, simprocAttr] at h) <;> try (exfalso; omega))) <;> conv => whnf)
        · have hin : lowerM w ∈ seen := by simpa using h
          have hn : restP (ps.drop i) = none := by unfold restP; rw [he, hx, hxa, if_pos hin]
          exact FIN.loose h0 0 [.sl (.loc 1) (a + 1) 1 (k') none, .str L, .str E, .str ([]), .str (q), .any, .any, .str P] rfl rfl rfl ⟨.inr ⟨rfl, rfl⟩, .inr ⟨rfl, rfl⟩, .inr ⟨rfl, rfl⟩, .inr ⟨rfl, rfl⟩, .inr ⟨rfl, rfl⟩, .inl rfl, .inl rfl, .inr ⟨rfl, rfl⟩, trivial⟩ ⟨a + 1, k', [], q, by omega, by rw [hn]; rfl, by simp [hn], rfl, rfl⟩
        · have hin : ¬ lowerM w ∈ seen := by simpa using h
          refine ⟨(a + 1, seen ++ [lowerM w], vs ++ [w]), ⟨by simp only; omega, by simp; omega, by simp; omega, by simp only; rw [hx, hxa, if_neg hin]⟩, by simp only; omega, ?_⟩
          dsimp only
          rw [show ps.length - (a + 1) = k' by omega, show (vs ++ [w]).length = vs.length + 1 by simp]
          conv => whnf
          (refine GOES.keeping h0 [10, 5, 8] rfl rfl rfl (by first | rfl | (simp only [belowO, belowH, plainLL_below _ (plainStrs _), Bool.and_self, Bool.and_true] <;> rfl)) ?_ ?_ <;> (repeat' (first | (with_reducible rfl) | (exact rows_eq (plainStrs _) (renLL_plain _ (plainStrs _))) | (exact rows_eq (plainStrs _) (by simp [strRow, ofVal, List.take_of_length_le])) | (exact sl_eq rfl (by first | (simp; done) | omega | (simp; omega))) | (exact congrArg (SV.int _) (by first | omega | (simp (disch := omega) only [lnB, wrap64, wrap32] <;> omega) | (simp; done) | (simp <;> omega))) | ((conv => whnf); refine ⟨?_, ?_⟩) | exact trivial | (simp only [ren, renB]; done) | rfl)))
      · have hv0 : varsP seen (ps.drop a) = some (ps.drop a, seen) := by
          rcases sees_no h with h | ⟨s, _, h1, h2⟩
          · rw [h]; rfl
          · rw [h1]; simp only [varsP]; rw [if_neg (by simp [h2])]
        have hr0 : restP (ps.drop i) = extsP seen (ps.drop a) := by unfold restP; rw [he, hx, hv0]
        conv => whnf
        refine LOOP.go tabOK [0] (X := Nat × List (List UInt8) × List (List UInt8)) (fun y => y.1 ≤ ps.length ∧ y.2.1.length ≤ y.1 ∧ y.2.2.length ≤ y.1 ∧ restP (ps.drop i) = extsP y.2.1 (ps.drop y.1)) (fun y => [(3, .sl (.loc 6) 0 1 y.2.1.length none)]) (fun y => [(0, rdBoxC y.1 (ps.length - y.1) L E ([]) (q) vs.length y.2.2.length P), (4, .rows 1 (vs.map strRow)), (5, .rows 1 (y.2.2.map strRow)), (6, .rows 1 (y.2.1.map strRow))]) 7 (fun y => ps.length - y.1) (a, seen, []) ⟨by simp only; omega, by simp only; omega, by simp, hr0⟩ ?_
        conv => whnf
        refine ⟨by (refine GOES.keeping h0 [4, 5, 6] rfl rfl rfl (by first | rfl | (simp only [belowO, belowH, plainLL_below _ (plainStrs _), Bool.and_self, Bool.and_true] <;> rfl)) ?_ ?_ <;> (repeat' (first | (with_reducible rfl) | (exact rows_eq (plainStrs _) (renLL_plain _ (plainStrs _))) | (exact rows_eq (plainStrs _) (by simp [strRow, ofVal, List.take_of_length_le])) | (exact sl_eq rfl (by first | (simp; done) | omega | (simp; omega))) | (exact congrArg (SV.int _) (by first | omega | (simp (disch := omega) only [lnB, wrap64, wrap32] <;> omega) | (simp; done) | (simp <;> omega))) | ((conv => whnf); refine ⟨?_, ?_⟩) | exact trivial | (simp only [ren, renB]; done) | rfl))), ?_⟩
        clear hr0 hv0 hx hs hv
        rintro ⟨a, seen, xs⟩ ⟨ha, hs, hv, hx⟩
        dsimp only at ha hs hv hx ⊢
        conv => whnf
        refine CALL.here (sees_doesC 210 _ ps (fun s hs => rest2_does s (hsm s hs)) a (ps.length - a) (by omega) L E ([]) (q) vs.length xs.length P) rfl rfl (by first | rfl | (simp only [belowO, belowH, plainLL_below _ (plainStrs _), Bool.and_self, Bool.and_true] <;> rfl)) (by first | rfl | (simp only [belowO, belowH, plainLL_below _ (plainStrs _), Bool.and_self, Bool.and_true] <;> rfl)) (by repeat' (first | exact trivial | exact rfl | ((conv => whnf); refine ⟨?_, ?_⟩))) (by repeat' (first | exact trivial | exact rfl | ((conv => whnf); refine ⟨?_, ?_⟩))) rfl ?_ ?_
        · rintro r O' nx' ⟨rfl, rfl, rfl⟩; exact ⟨rfl, rfl, rfl⟩
        rintro r O' ⟨rfl, rfl, _⟩
        conv => whnf
        refine IF.mk (fun h => ?_) (fun h => ?_)
        · obtain ⟨w, hw, hwm⟩ := sees_yes h
          have hlt := (List.getElem?_eq_some_iff.1 hw).1
          obtain ⟨k', hk'⟩ : ∃ k', ps.length - a = k' + 1 := ⟨ps.length - a - 1, by omega⟩
          have hpl := hsm w (List.mem_of_getElem? hw)
          rw [hk']
          conv => whnf
          refine CALL.here (next_tag_doesC ps a k' (by omega) w hw L E ([]) (q) vs.length xs.length P) rfl rfl (by first | rfl | (simp only [belowO, belowH, plainLL_below _ (plainStrs _), Bool.and_self, Bool.and_true] <;> rfl)) (by first | rfl | (simp only [belowO, belowH, plainLL_below _ (plainStrs _), Bool.and_self, Bool.and_true] <;> rfl)) (by repeat' (first | exact trivial | exact rfl | ((conv => whnf); refine ⟨?_, ?_⟩))) (by repeat' (first | exact trivial | exact rfl | ((conv => whnf); refine ⟨?_, ?_⟩))) rfl ?_ ?_
          · rintro r O' nx' ⟨rfl, rfl, rfl⟩; exact ⟨rfl, rfl, rfl⟩
          rintro r O' ⟨rfl, rfl, _⟩
          conv => whnf
          refine CALL.here (tail_doesC 2 ps (by omega) (a + 1) k' (by omega) L E ([]) (q) vs.length xs.length P) rfl rfl (by first | rfl | (simp only [belowO, belowH, plainLL_below _ (plainStrs _), Bool.and_self, Bool.and_true] <;> rfl)) (by first | rfl | (simp only [belowO, belowH, plainLL_below _ (plainStrs _), Bool.and_self, Bool.and_true] <;> rfl)) (by repeat' (first | exact trivial | exact rfl | ((conv => whnf); refine ⟨?_, ?_⟩))) (by repeat' (first | exact trivial | exact rfl | ((conv => whnf); refine ⟨?_, ?_⟩))) rfl ?_ ?_
          · rintro r O' nx' ⟨n, s, _, _, rfl, rfl, rfl⟩; exact ⟨rfl, rfl, rfl⟩
          rintro r O' ⟨n, s, hn, hsl, rfl, rfl, _⟩
          have hnle : n ≤ (ps.drop (a + 1)).length := by rw [hn]; exact span_le _ _
          rw [List.length_drop] at hnle
          have hxa : extsP seen (ps.drop a) = if n = 0 ∨ lowerM w ∈ seen then none else extsP (seen ++ [lowerM w]) (ps.drop (a + 1 + n)) := by
            rw [drop_at hw, extsP, if_pos hwm, ← hn, List.drop_drop]
          conv => whnf
          refine IF.mk (fun h1 => ?_) (fun h1 => ?_)
          · have h0n : n = 0 := by simpa using h1
            have hn : restP (ps.drop i) = none := by rw [hx, hxa, if_pos (.inl h0n)]
            conv => whnf
            repeat' ((first | refine AU ?_ | ((with_reducible refine IF.mk (fun h => ?_) (fun h => ?_)) <;> (try simp (disch := omega) only [hsB, hsC, lnB, wrap64, wrap32, simprocAttr] at h) <;> try (exfalso; omega))) <;> conv => whnf)
            exact FIN.loose h0 0 [.sl (.loc 1) (a + 1 + n) 1 (k' - n) none, .str L, .str E, .str ([]), .str (q), .any, .any, .str P] rfl rfl rfl ⟨.inr ⟨rfl, rfl⟩, .inr ⟨rfl, rfl⟩, .inr ⟨rfl, rfl⟩, .inr ⟨rfl, rfl⟩, .inr ⟨rfl, rfl⟩, .inl rfl, .inl rfl, .inr ⟨rfl, rfl⟩, trivial⟩ ⟨a + 1 + n, k' - n, [], q, by omega, by rw [hn]; rfl, by simp [hn], rfl, rfl⟩
          · have h0n : n ≠ 0 := by simpa using h1
            conv => whnf
            repeat' ((first | refine CALL.value (lower_does _ hpl) rfl rfl ?_ | (refine CALL.look1 6 (contains_does seen (lowerM w) (by omega)) rfl rfl rfl rfl (plainStrs _) rfl ?_; conv => whnf) | refine AU ?_ | ((with_reducible refine IF.mk (fun h => ?_) (fun h => ?_)) <;> (try simp (disch := omega) only [hsB, hsC, lnB, wrap64, wrap32, simprocAttr] at h) <;> try (exfalso; omega))) <;> conv => whnf)
            · have hin : lowerM w ∈ seen := by simp_all
              have hn : restP (ps.drop i) = none := by rw [hx, hxa, if_pos (.inr hin)]
              exact FIN.loose h0 0 [.sl (.loc 1) (a + 1 + n) 1 (k' - n) none, .str L, .str E, .str ([]), .str (q), .any, .any, .str P] rfl rfl rfl ⟨.inr ⟨rfl, rfl⟩, .inr ⟨rfl, rfl⟩, .inr ⟨rfl, rfl⟩, .inr ⟨rfl, rfl⟩, .inr ⟨rfl, rfl⟩, .inl rfl, .inl rfl, .inr ⟨rfl, rfl⟩, trivial⟩ ⟨a + 1 + n, k' - n, [], q, by omega, by rw [hn]; rfl, by simp [hn], rfl, rfl⟩
            · have hin : ¬ lowerM w ∈ seen := by simp_all
              refine ⟨(a + 1 + n, seen ++ [lowerM w], xs ++ [w ++ s]), ⟨by simp only; omega, by simp; omega, by simp; omega, by simp only; rw [hx, hxa, if_neg (by simp [h0n, hin])]⟩, by simp only; omega, ?_⟩
              dsimp only
              rw [show ps.length - (a + 1 + n) = k' - n by omega, show (xs ++ [w ++ s]).length = xs.length + 1 by simp]
              conv => whnf
              (refine GOES.keeping h0 [4, 10, 8] rfl rfl rfl (by first | rfl | (simp only [belowO, belowH, plainLL_below _ (plainStrs _), Bool.and_self, Bool.and_true] <;> rfl)) ?_ ?_ <;> (repeat' (first | (with_reducible rfl) | (exact rows_eq (plainStrs _) (renLL_plain _ (plainStrs _))) | (exact rows_eq (plainStrs _) (by simp [strRow, ofVal, List.take_of_length_le])) | (exact sl_eq rfl (by first | (simp; done) | omega | (simp; omega))) | (exact congrArg (SV.int _) (by first | omega | (simp (disch := omega) only [lnB, wrap64, wrap32] <;> omega) | (simp; done) | (simp <;> omega))) | ((conv => whnf); refine ⟨?_, ?_⟩) | exact trivial | (simp only [ren, renB]; done) | rfl)))
        · have hv0 : extsP seen (ps.drop a) = some (ps.drop a) := by
            rcases sees_no h with h | ⟨s, _, h1, h2⟩
            · rw [h, extsP]
            · rw [h1, extsP, if_neg (by simp [h2])]
          conv => whnf
          exact FIN.loose h0 0 [.sl (.loc 1) (a) 1 (ps.length - a) none, .str L, .str E, .str ([]), .str (q), .any, .any, .str P] rfl rfl rfl ⟨.inr ⟨rfl, rfl⟩, .inr ⟨rfl, rfl⟩, .inr ⟨rfl, rfl⟩, .inr ⟨rfl, rfl⟩, .inr ⟨rfl, rfl⟩, .inl rfl, .inl rfl, .inr ⟨rfl, rfl⟩, trivial⟩ ⟨a, ps.length - a, [], q, by omega, by rw [hx, hv0]; rfl, by rw [hx, hv0]; rintro l ⟨⟩; rfl, rfl, rfl⟩
    · have he : skipIf regionM (skipIf (fun s => madeM s 4 4 true) (ps.drop i)) = ps.drop i := by rw [hk1, skip_no h1]
      conv => whnf
      refine LOOP.nil 3 1 rfl ?_
      refine LOOP.go tabOK [0] (X := Nat × List (List UInt8) × List (List UInt8)) (fun y => y.1 ≤ ps.length ∧ y.2.1.length ≤ y.1 ∧ y.2.2.length ≤ y.1 ∧ varsP [] (ps.drop (i)) = varsP y.2.1 (ps.drop y.1)) (fun y => [(3, .sl (.loc 6) 0 1 y.2.1.length none)]) (fun y => [(0, rdBoxC y.1 (ps.length - y.1) L E ([]) ([]) y.2.2.length 0 P), (4, .rows 1 (y.2.2.map strRow)), (5, .rows 1 []), (6, .rows 1 (y.2.1.map strRow))]) 7 (fun y => ps.length - y.1) (i, [], []) ⟨by simp only; omega, by simp, by simp, rfl⟩ ?_
      conv => whnf
      try rw [show ps.length - (i) = m by omega]
      refine ⟨by (refine GOES.keeping h0 [2, 3, 4] rfl rfl rfl (by first | rfl | (simp only [belowO, belowH, plainLL_below _ (plainStrs _), Bool.and_self, Bool.and_true] <;> rfl)) ?_ ?_ <;> (repeat' (first | (with_reducible rfl) | (exact rows_eq (plainStrs _) (renLL_plain _ (plainStrs _))) | (exact rows_eq (plainStrs _) (by simp [strRow, ofVal, List.take_of_length_le])) | (exact sl_eq rfl (by first | (simp; done) | omega | (simp; omega))) | (exact congrArg (SV.int _) (by first | omega | (simp (disch := omega) only [lnB, wrap64, wrap32] <;> omega) | (simp; done) | (simp <;> omega))) | ((conv => whnf); refine ⟨?_, ?_⟩) | exact trivial | (simp only [ren, renB]; done) | rfl))), ?_⟩
      rintro ⟨a, seen, vs⟩ ⟨ha, hs, hv, hx⟩
      dsimp only at ha hs hv hx ⊢
      conv => whnf
      refine CALL.here (sees_doesC 208 _ ps (fun s hs => variant_does s (hsm s hs)) a (ps.length - a) (by omega) L E ([]) ([]) vs.length 0 P) rfl rfl (by first | rfl | (simp only [belowO, belowH, plainLL_below _ (plainStrs _), Bool.and_self, Bool.and_true] <;> rfl)) (by first | rfl | (simp only [belowO, belowH, plainLL_below _ (plainStrs _), Bool.and_self, Bool.and_true] <;> rfl)) (by repeat' (first | exact trivial | exact rfl | ((conv => whnf); refine ⟨?_, ?_⟩))) (by repeat' (first | exact trivial | exact rfl | ((conv => whnf); refine ⟨?_, ?_⟩))) rfl ?_ ?_
      · rintro r O' nx' ⟨rfl, rfl, rfl⟩; exact ⟨rfl, rfl, rfl⟩
      rintro r O' ⟨rfl, rfl, _⟩
      conv => whnf
      refine IF.mk (fun h => ?_) (fun h => ?_)
      · obtain ⟨w, hw, hwm⟩ := sees_yes h
        have hlt := (List.getElem?_eq_some_iff.1 hw).1
        obtain ⟨k', hk'⟩ : ∃ k', ps.length - a = k' + 1 := ⟨ps.length - a - 1, by omega⟩
        have hpl := hsm w (List.mem_of_getElem? hw)
        have hxa : varsP seen (ps.drop a) = if lowerM w ∈ seen then none else varsP (seen ++ [lowerM w]) (ps.drop (a + 1)) := by
          rw [drop_at hw]; simp only [varsP]; rw [if_pos hwm]
        rw [hk']
        conv => whnf
        refine CALL.here (next_tag_doesC ps a k' (by omega) w hw L E ([]) ([]) vs.length 0 P) rfl rfl (by first | rfl | (simp only [belowO, belowH, plainLL_below _ (plainStrs _), Bool.and_self, Bool.and_true] <;> rfl)) (by first | rfl | (simp only [belowO, belowH, plainLL_below _ (plainStrs _), Bool.and_self, Bool.and_true] <;> rfl)) (by repeat' (first | exact trivial | exact rfl | ((conv => whnf); refine ⟨?_, ?_⟩))) (by repeat' (first | exact trivial | exact rfl | ((conv => whnf); refine ⟨?_, ?_⟩))) rfl ?_ ?_
        · rintro r O' nx' ⟨rfl, rfl, rfl⟩; exact ⟨rfl, rfl, rfl⟩
        rintro r O' ⟨rfl, rfl, _⟩
        conv => whnf
        repeat' ((first | refine CALL.value (lower_does _ hpl) rfl rfl ?_ | (refine CALL.look1 6 (contains_does seen (lowerM w) (by omega)) rfl rfl rfl rfl (plainStrs _) rfl ?_; conv => whnf) | refine AU ?_ | ((with_reducible refine IF.mk (fun h => ?_) (fun h => ?_)) <;> (try simp (disch := omega) only [hsB, hsC, lnB, wrap64, wrap32, simprocAttr] at h) <;> try (exfalso; omega))) <;> conv => whnf)
        · have hin : lowerM w ∈ seen := by simpa using h
          have hn : restP (ps.drop i) = none := by unfold restP; rw [he, hx, hxa, if_pos hin]
          exact FIN.loose h0 0 [.sl (.loc 1) (a + 1) 1 (k') none, .str L, .str E, .str ([]), .str ([]), .any, .any, .str P] rfl rfl rfl ⟨.inr ⟨rfl, rfl⟩, .inr ⟨rfl, rfl⟩, .inr ⟨rfl, rfl⟩, .inr ⟨rfl, rfl⟩, .inr ⟨rfl, rfl⟩, .inl rfl, .inl rfl, .inr ⟨rfl, rfl⟩, trivial⟩ ⟨a + 1, k', [], [], by omega, by rw [hn]; rfl, by simp [hn], rfl, rfl⟩
        · have hin : ¬ lowerM w ∈ seen := by simpa using h
          refine ⟨(a + 1, seen ++ [lowerM w], vs ++ [w]), ⟨by simp only; omega, by simp; omega, by simp; omega, by simp only; rw [hx, hxa, if_neg hin]⟩, by simp only; omega, ?_⟩
          dsimp only
          rw [show ps.length - (a + 1) = k' by omega, show (vs ++ [w]).length = vs.length + 1 by simp]
          conv => whnf
          (refine GOES.keeping h0 [10, 5, 8] rfl rfl rfl (by first | rfl | (simp only [belowO, belowH, plainLL_below _ (plainStrs _), Bool.and_self, Bool.and_true] <;> rfl)) ?_ ?_ <;> (repeat' (first | (with_reducible rfl) | (exact rows_eq (plainStrs _) (renLL_plain _ (plainStrs _))) | (exact rows_eq (plainStrs _) (by simp [strRow, ofVal, List.take_of_length_le])) | (exact sl_eq rfl (by first | (simp; done) | omega | (simp; omega))) | (exact congrArg (SV.int _) (by first | omega | (simp (disch := omega) only [lnB, wrap64, wrap32] <;> omega) | (simp; done) | (simp <;> omega))) | ((conv => whnf); refine ⟨?_, ?_⟩) | exact trivial | (simp only [ren, renB]; done) | rfl)))
      · have hv0 : varsP seen (ps.drop a) = some (ps.drop a, seen) := by
          rcases sees_no h with h | ⟨s, _, h1, h2⟩
          · rw [h]; rfl
          · rw [h1]; simp only [varsP]; rw [if_neg (by simp [h2])]
        have hr0 : restP (ps.drop i) = extsP seen (ps.drop a) := by unfold restP; rw [he, hx, hv0]
        conv => whnf
        refine LOOP.go tabOK [0] (X := Nat × List (List UInt8) × List (List UInt8)) (fun y => y.1 ≤ ps.length ∧ y.2.1.length ≤ y.1 ∧ y.2.2.length ≤ y.1 ∧ restP (ps.drop i) = extsP y.2.1 (ps.drop y.1)) (fun y => [(3, .sl (.loc 6) 0 1 y.2.1.length none)]) (fun y => [(0, rdBoxC y.1 (ps.length - y.1) L E ([]) ([]) vs.length y.2.2.length P), (4, .rows 1 (vs.map strRow)), (5, .rows 1 (y.2.2.map strRow)), (6, .rows 1 (y.2.1.map strRow))]) 7 (fun y => ps.length - y.1) (a, seen, []) ⟨by simp only; omega, by simp only; omega, by simp, hr0⟩ ?_
        conv => whnf
        refine ⟨by (refine GOES.keeping h0 [4, 5, 6] rfl rfl rfl (by first | rfl | (simp only [belowO, belowH, plainLL_below _ (plainStrs _), Bool.and_self, Bool.and_true] <;> rfl)) ?_ ?_ <;> (repeat' (first | (with_reducible rfl) | (exact rows_eq (plainStrs _) (renLL_plain _ (plainStrs _))) | (exact rows_eq (plainStrs _) (by simp [strRow, ofVal, List.take_of_length_le])) | (exact sl_eq rfl (by first | (simp; done) | omega | (simp; omega))) | (exact congrArg (SV.int _) (by first | omega | (simp (disch := omega) only [lnB, wrap64, wrap32] <;> omega) | (simp; done) | (simp <;> omega))) | ((conv => whnf); refine ⟨?_, ?_⟩) | exact trivial | (simp only [ren, renB]; done) | rfl))), ?_⟩
        clear hr0 hv0 hx hs hv
        rintro ⟨a, seen, xs⟩ ⟨ha, hs, hv, hx⟩
        dsimp only at ha hs hv hx ⊢
        conv => whnf
        refine CALL.here (sees_doesC 210 _ ps (fun s hs => rest2_does s (hsm s hs)) a (ps.length - a) (by omega) L E ([]) ([]) vs.length xs.length P) rfl rfl (by first | rfl | (simp only [belowO, belowH, plainLL_below _ (plainStrs _), Bool.and_self, Bool.and_true] <;> rfl)) (by first | rfl | (simp only [belowO, belowH, plainLL_below _ (plainStrs _), Bool.and_self, Bool.and_true] <;> rfl)) (by repeat' (first | exact trivial | exact rfl | ((conv => whnf); refine ⟨?_, ?_⟩))) (by repeat' (first | exact trivial | exact rfl | ((conv => whnf); refine ⟨?_, ?_⟩))) rfl ?_ ?_
        · rintro r O' nx' ⟨rfl, rfl, rfl⟩; exact ⟨rfl, rfl, rfl⟩
        rintro r O' ⟨rfl, rfl, _⟩
        conv => whnf
        refine IF.mk (fun h => ?_) (fun h => ?_)
        · obtain ⟨w, hw, hwm⟩ := sees_yes h
          have hlt := (List.getElem?_eq_some_iff.1 hw).1
          obtain ⟨k', hk'⟩ : ∃ k', ps.length - a = k' + 1 := ⟨ps.length - a - 1, by omega⟩
          have hpl := hsm w (List.mem_of_getElem? hw)
          rw [hk']
          conv => whnf
          refine CALL.here (next_tag_doesC ps a k' (by omega) w hw L E ([]) ([]) vs.length xs.length P) rfl rfl (by first | rfl | (simp only [belowO, belowH, plainLL_below _ (plainStrs _), Bool.and_self, Bool.and_true] <;> rfl)) (by first | rfl | (simp only [belowO, belowH, plainLL_below _ (plainStrs _), Bool.and_self, Bool.and_true] <;> rfl)) (by repeat' (first | exact trivial | exact rfl | ((conv => whnf); refine ⟨?_, ?_⟩))) (by repeat' (first | exact trivial | exact rfl | ((conv => whnf); refine ⟨?_, ?_⟩))) rfl ?_ ?_
          · rintro r O' nx' ⟨rfl, rfl, rfl⟩; exact ⟨rfl, rfl, rfl⟩
          rintro r O' ⟨rfl, rfl, _⟩
          conv => whnf
          refine CALL.here (tail_doesC 2 ps (by omega) (a + 1) k' (by omega) L E ([]) ([]) vs.length xs.length P) rfl rfl (by first | rfl | (simp only [belowO, belowH, plainLL_below _ (plainStrs _), Bool.and_self, Bool.and_true] <;> rfl)) (by first | rfl | (simp only [belowO, belowH, plainLL_below _ (plainStrs _), Bool.and_self, Bool.and_true] <;> rfl)) (by repeat' (first | exact trivial | exact rfl | ((conv => whnf); refine ⟨?_, ?_⟩))) (by repeat' (first | exact trivial | exact rfl | ((conv => whnf); refine ⟨?_, ?_⟩))) rfl ?_ ?_
          · rintro r O' nx' ⟨n, s, _, _, rfl, rfl, rfl⟩; exact ⟨rfl, rfl, rfl⟩
          rintro r O' ⟨n, s, hn, hsl, rfl, rfl, _⟩
          have hnle : n ≤ (ps.drop (a + 1)).length := by rw [hn]; exact span_le _ _
          rw [List.length_drop] at hnle
          have hxa : extsP seen (ps.drop a) = if n = 0 ∨ lowerM w ∈ seen then none else extsP (seen ++ [lowerM w]) (ps.drop (a + 1 + n)) := by
            rw [drop_at hw, extsP, if_pos hwm, ← hn, List.drop_drop]
          conv => whnf
          refine IF.mk (fun h1 => ?_) (fun h1 => ?_)
          · have h0n : n = 0 := by simpa using h1
            have hn : restP (ps.drop i) = none := by rw [hx, hxa, if_pos (.inl h0n)]
            conv => whnf
            repeat' ((first | refine AU ?_ | ((with_reducible refine IF.mk (fun h => ?_) (fun h => ?_)) <;> (try simp (disch := omega) only [hsB, hsC, lnB, wrap64, wrap32, simprocAttr] at h) <;> try (exfalso; omega))) <;> conv => whnf)
            exact FIN.loose h0 0 [.sl (.loc 1) (a + 1 + n) 1 (k' - n) none, .str L, .str E, .str ([]), .str ([]), .any, .any, .str P] rfl rfl rfl ⟨.inr ⟨rfl, rfl⟩, .inr ⟨rfl, rfl⟩, .inr ⟨rfl, rfl⟩, .inr ⟨rfl, rfl⟩, .inr ⟨rfl, rfl⟩, .inl rfl, .inl rfl, .inr ⟨rfl, rfl⟩, trivial⟩ ⟨a + 1 + n, k' - n, [], [], by omega, by rw [hn]; rfl, by simp [hn], rfl, rfl⟩
          · have h0n : n ≠ 0 := by simpa using h1
            conv => whnf
            repeat' ((first | refine CALL.value (lower_does _ hpl) rfl rfl ?_ | (refine CALL.look1 6 (contains_does seen (lowerM w) (by omega)) rfl rfl rfl rfl (plainStrs _) rfl ?_; conv => whnf) | refine AU ?_ | ((with_reducible refine IF.mk (fun h => ?_) (fun h => ?_)) <;> (try simp (disch := omega) only [hsB, hsC, lnB, wrap64, wrap32, simprocAttr] at h) <;> try (exfalso; omega))) <;> conv => whnf)
            · have hin : lowerM w ∈ seen := by simp_all
              have hn : restP (ps.drop i) = none := by rw [hx, hxa, if_pos (.inr hin)]
              exact FIN.loose h0 0 [.sl (.loc 1) (a + 1 + n) 1 (k' - n) none, .str L, .str E, .str ([]), .str ([]), .any, .any, .str P] rfl rfl rfl ⟨.inr ⟨rfl, rfl⟩, .inr ⟨rfl, rfl⟩, .inr ⟨rfl, rfl⟩, .inr ⟨rfl, rfl⟩, .inr ⟨rfl, rfl⟩, .inl rfl, .inl rfl, .inr ⟨rfl, rfl⟩, trivial⟩ ⟨a + 1 + n, k' - n, [], [], by omega, by rw [hn]; rfl, by simp [hn], rfl, rfl⟩
            · have hin : ¬ lowerM w ∈ seen := by simp_all
              refine ⟨(a + 1 + n, seen ++ [lowerM w], xs ++ [w ++ s]), ⟨by simp only; omega, by simp; omega, by simp; omega, by simp only; rw [hx, hxa, if_neg (by simp [h0n, hin])]⟩, by simp only; omega, ?_⟩
              dsimp only
              rw [show ps.length - (a + 1 + n) = k' - n by omega, show (xs ++ [w ++ s]).length = xs.length + 1 by simp]
              conv => whnf
              (refine GOES.keeping h0 [4, 10, 8] rfl rfl rfl (by first | rfl | (simp only [belowO, belowH, plainLL_below _ (plainStrs _), Bool.and_self, Bool.and_true] <;> rfl)) ?_ ?_ <;> (repeat' (first | (with_reducible rfl) | (exact rows_eq (plainStrs _) (renLL_plain _ (plainStrs _))) | (exact rows_eq (plainStrs _) (by simp [strRow, ofVal, List.take_of_length_le])) | (exact sl_eq rfl (by first | (simp; done) | omega | (simp; omega))) | (exact congrArg (SV.int _) (by first | omega | (simp (disch := omega) only [lnB, wrap64, wrap32] <;> omega) | (simp; done) | (simp <;> omega))) | ((conv => whnf); refine ⟨?_, ?_⟩) | exact trivial | (simp only [ren, renB]; done) | rfl)))
        · have hv0 : extsP seen (ps.drop a) = some (ps.drop a) := by
            rcases sees_no h with h | ⟨s, _, h1, h2⟩
            · rw [h, extsP]
            · rw [h1, extsP, if_neg (by simp [h2])]
          conv => whnf
          exact FIN.loose h0 0 [.sl (.loc 1) (a) 1 (ps.length - a) none, .str L, .str E, .str ([]), .str ([]), .any, .any, .str P] rfl rfl rfl ⟨.inr ⟨rfl, rfl⟩, .inr ⟨rfl, rfl⟩, .inr ⟨rfl, rfl⟩, .inr ⟨rfl, rfl⟩, .inr ⟨rfl, rfl⟩, .inl rfl, .inl rfl, .inr ⟨rfl, rfl⟩, trivial⟩ ⟨a, ps.length - a, [], [], by omega, by rw [hx, hv0]; rfl, by rw [hx, hv0]; rintro l ⟨⟩; rfl, rfl, rfl⟩
end Go.Proofs.YtjbbkimodgffiaaGreatDoor
/- names: a tag, walked: whether it is one. Conditions: none. -/
set_option linter.unusedVariables false
set_option linter.unusedSimpArgs false
set_option maxRecDepth 20000
set_option maxHeartbeats 8000000
namespace Go.Proofs.YtjbbkimodgffiaaGreatDoor
open Go.Sx Go.Our
theorem head_sees {p : List UInt8 → Bool} {ps : List (List UInt8)} : seesM p ps 0 = headIs p ps := by
  unfold seesM
  cases ps <;> rfl
theorem tag_does (s : List UInt8) (hs : s.length ≤ 34359738368) : Does Tryz.prog tab 143 0 [.str s] [] [] (Val (.tup [.agg (anyN 7), .int .i64 (if tagP (splitM s) = true then 0 else 61)])) := by
  have hbulk := split_bulk s
  have hlen := split_len s
  generalize hps : splitM s = ps at *
  have hb : bulkM ps + ps.length ≤ 68719476736 := by unfold bulkM; omega
  have hsm := bulk_sm (ps := ps) (by omega)
  refine Does.enter tabOK (g := 143) (fn := Tryz.f143) Tryz.call143 Tryz.func143 rfl 56 rfl rfl [.cell 2 147, .tmp 3] rfl ?_
  intro w0 F η0 h0
  conv => whnf
  refine CALL.newS (split_does s (by omega)) rfl (plainStrs _) ?_
  rw [hps, List.length_map]
  conv => whnf
  refine CALL.nilCell 2 5 1 rfl rfl ?_
  refine CALL.nilCell 2 6 1 rfl rfl ?_
  refine CALL.aA [2, 1, 3, 4] (sees_does 180 _ ps (fun s hs => private_does s) 0 ps.length (by omega) [] [] [] [] 0 0 []) ?_
  rintro r O' nx' ⟨rfl, rfl, rfl⟩
  rw [head_sees]
  conv => whnf
  refine IF.mk (fun h1 => ?_) (fun h1 => ?_)
  · have h1 : headIs privateM ps = false := by simpa using h1
    conv => whnf
    repeat' ((first | refine AU ?_ | ((with_reducible refine IF.mk (fun h => ?_) (fun h => ?_)) <;> (try simp (disch := omega) only [hsB, hsC, lnB, wrap64, wrap32, simprocAttr] at h) <;> try (exfalso; omega))) <;> conv => whnf)
    refine CALL.aA [2, 1, 3, 4] (language_does ps (by omega) 0 ps.length (by omega) [] [] 0 0 []) ?_
    rintro r O' nx' ⟨i1, m1, L, E, him1, rfl, hL, rfl, rfl⟩
    cases h2 : langP (ps.drop 0) with
    | none =>
      have htag : tagP ps = false := by
        have h2 : langP ps = none := h2
        unfold tagP; rw [if_neg (by simp [h1]), h2]
      rw [Option.isSome_none]
      conv => whnf
      repeat' ((first | refine AU ?_ | ((with_reducible refine IF.mk (fun h => ?_) (fun h => ?_)) <;> (try simp (disch := omega) only [hsB, hsC, lnB, wrap64, wrap32, simprocAttr] at h) <;> try (exfalso; omega))) <;> conv => whnf)
      refine FIN.anyA 7 h0 rfl rfl rfl ⟨?_, rfl, rfl⟩
      rw [htag]; rfl
    | some l1 =>
      have hl1 := hL l1 h2
      subst hl1
      rw [Option.isSome_some]
      conv => whnf
      repeat' ((first | refine AU ?_ | ((with_reducible refine IF.mk (fun h => ?_) (fun h => ?_)) <;> (try simp (disch := omega) only [hsB, hsC, lnB, wrap64, wrap32, simprocAttr] at h) <;> try (exfalso; omega))) <;> conv => whnf)
      refine CALL.aA [2, 1, 3, 4] (rest_does ps (by omega) i1 m1 him1 L E []) ?_
      rintro r O' nx' ⟨i2, m2, S, R, him2, rfl, hR, rfl, rfl⟩
      cases h3 : restP (ps.drop i1) with
      | none =>
        have htag : tagP ps = false := by
          have h2 : langP ps = _ := h2
          unfold tagP; rw [if_neg (by simp [h1]), h2]; simp only [h3]
        rw [Option.isSome_none]
        conv => whnf
        repeat' ((first | refine AU ?_ | ((with_reducible refine IF.mk (fun h => ?_) (fun h => ?_)) <;> (try simp (disch := omega) only [hsB, hsC, lnB, wrap64, wrap32, simprocAttr] at h) <;> try (exfalso; omega))) <;> conv => whnf)
        refine FIN.anyA 7 h0 rfl rfl rfl ⟨?_, rfl, rfl⟩
        rw [htag]; rfl
      | some l2 =>
        have hl2 := hR l2 h3
        subst hl2
        have htag : tagP ps = lastP (ps.drop i2) := by
          have h2 : langP ps = _ := h2
          unfold tagP; rw [if_neg (by simp [h1]), h2]; simp only [h3]
        rw [Option.isSome_some]
        conv => whnf
        repeat' ((first | refine AU ?_ | ((with_reducible refine IF.mk (fun h => ?_) (fun h => ?_)) <;> (try simp (disch := omega) only [hsB, hsC, lnB, wrap64, wrap32, simprocAttr] at h) <;> try (exfalso; omega))) <;> conv => whnf)
        refine CALL.aA [2, 1, 3, 4] (sees_doesA 180 _ ps (fun s hs => private_does s) (i2) (m2) (by omega) L E S R 0 0 []) ?_
        rintro r O' nx' ⟨rfl, rfl, rfl⟩
        conv => whnf
        refine IF.mk (fun h1 => ?_) (fun h1 => ?_)
        · obtain ⟨w, hw, hwm⟩ := sees_yes h1
          have hlt := (List.getElem?_eq_some_iff.1 hw).1
          have hlast : lastP (ps.drop (i2)) = decide (spanM (partOK 1) (ps.drop (i2 + 1)) ≠ 0 ∧ spanM (partOK 1) (ps.drop (i2 + 1)) = (ps.drop (i2 + 1)).length) := by rw [drop_at hw]; simp only [lastP]; rw [if_pos hwm]
          rw [List.length_drop] at hlast
          obtain ⟨k', hk'⟩ : ∃ k', m2 = k' + 1 := ⟨m2 - 1, by omega⟩
          have hwl := hsm w (List.mem_of_getElem? hw)
          rw [hk']
          conv => whnf
          refine CALL.aA [2, 1, 3, 4] (next_tag_doesA ps (i2) k' (by omega) w hw L E S R 0 0 []) ?_
          rintro r O' nx' ⟨rfl, rfl, rfl⟩
          conv => whnf
          refine CALL.aA [2, 1, 3, 4] (tail_doesA 1 ps (by omega) (i2 + 1) k' (by omega) L E S R 0 0 []) ?_
          rintro r O' nx' ⟨n, x, hn, hxl, rfl, rfl, rfl⟩
          have hn : n = spanM (partOK 1) (ps.drop (i2 + 1)) := hn
          have hnle : n ≤ (ps.drop (i2 + 1)).length := by rw [hn]; exact span_le _ _
          rw [List.length_drop] at hnle
          rw [← hn] at hlast
          conv => whnf
          repeat' ((first | refine AU ?_ | ((with_reducible refine IF.mk (fun h => ?_) (fun h => ?_)) <;> (try simp (disch := omega) only [hsB, hsC, lnB, wrap64, wrap32, simprocAttr] at h) <;> try (exfalso; omega))) <;> conv => whnf)
          all_goals
            refine FIN.anyA 7 h0 rfl rfl rfl ⟨?_, rfl, rfl⟩
            rw [htag, hlast]
          · rw [if_neg (by simp_all)]
          · rw [if_neg (by simp; omega)]
          · rw [if_pos (by simp; simp at *; omega)]
        · have hlast : lastP (ps.drop (i2)) = decide (m2 = 0) := by
            rcases sees_no h1 with h2 | ⟨x, h3, h2, h4⟩
            · rw [h2]; have := congrArg List.length h2; rw [List.length_drop, List.length_nil] at this; simp only [lastP]; symm; exact decide_eq_true (by omega)
            · have := (List.getElem?_eq_some_iff.1 h3).1
              rw [h2]; simp only [lastP]; rw [if_neg (by simp [h4])]; symm; exact decide_eq_false (by omega)
          conv => whnf
          repeat' ((first | refine AU ?_ | ((with_reducible refine IF.mk (fun h => ?_) (fun h => ?_)) <;> (try simp (disch := omega) only [hsB, hsC, lnB, wrap64, wrap32, simprocAttr] at h) <;> try (exfalso; omega))) <;> conv => whnf)
          all_goals
            refine FIN.anyA 7 h0 rfl rfl rfl ⟨?_, rfl, rfl⟩
            rw [htag, hlast]
          · rw [if_neg (by rw [decide_eq_true_iff]; omega)]
          · rw [if_pos (by rw [decide_eq_true_iff]; omega)]
  · have h1 : headIs privateM ps = true := by simpa using h1
    have htag : tagP ps = lastP (ps.drop 0) := by unfold tagP; rw [if_pos h1]; rfl
    conv => whnf
    repeat' ((first | refine AU ?_ | ((with_reducible refine IF.mk (fun h => ?_) (fun h => ?_)) <;> (try simp (disch := omega) only [hsB, hsC, lnB, wrap64, wrap32, simprocAttr] at h) <;> try (exfalso; omega))) <;> conv => whnf)
    refine CALL.aA [2, 1, 3, 4] (sees_does 180 _ ps (fun s hs => private_does s) (0) (ps.length) (by omega) [] [] [] [] 0 0 []) ?_
    rintro r O' nx' ⟨rfl, rfl, rfl⟩
    conv => whnf
    refine IF.mk (fun h1 => ?_) (fun h1 => ?_)
    · obtain ⟨w, hw, hwm⟩ := sees_yes h1
      have hlt := (List.getElem?_eq_some_iff.1 hw).1
      have hlast : lastP (ps.drop (0)) = decide (spanM (partOK 1) (ps.drop (0 + 1)) ≠ 0 ∧ spanM (partOK 1) (ps.drop (0 + 1)) = (ps.drop (0 + 1)).length) := by rw [drop_at hw]; simp only [lastP]; rw [if_pos hwm]
      rw [List.length_drop] at hlast
      obtain ⟨k', hk'⟩ : ∃ k', ps.length = k' + 1 := ⟨ps.length - 1, by omega⟩
      have hwl := hsm w (List.mem_of_getElem? hw)
      rw [hk']
      conv => whnf
      refine CALL.aA [2, 1, 3, 4] (next_tag_does ps (0) k' (by omega) w hw [] [] [] [] 0 0 []) ?_
      rintro r O' nx' ⟨rfl, rfl, rfl⟩
      conv => whnf
      refine CALL.aA [2, 1, 3, 4] (tail_does 1 ps (by omega) (0 + 1) k' (by omega) [] [] [] [] 0 0 []) ?_
      rintro r O' nx' ⟨n, x, hn, hxl, rfl, rfl, rfl⟩
      have hn : n = spanM (partOK 1) (ps.drop (0 + 1)) := hn
      have hnle : n ≤ (ps.drop (0 + 1)).length := by rw [hn]; exact span_le _ _
      rw [List.length_drop] at hnle
      rw [← hn] at hlast
      conv => whnf
      repeat' ((first | refine AU ?_ | ((with_reducible refine IF.mk (fun h => ?_) (fun h => ?_)) <;> (try simp (disch := omega) only [hsB, hsC, lnB, wrap64, wrap32, simprocAttr] at h) <;> try (exfalso; omega))) <;> conv => whnf)
      all_goals
        refine FIN.anyA 7 h0 rfl rfl rfl ⟨?_, rfl, rfl⟩
        rw [htag, hlast]
      · rw [if_neg (by simp_all)]
      · rw [if_neg (by simp; omega)]
      · rw [if_pos (by simp; simp at *; omega)]
    · have hlast : lastP (ps.drop (0)) = decide (ps.length = 0) := by
        rcases sees_no h1 with h2 | ⟨x, h3, h2, h4⟩
        · rw [h2]; have := congrArg List.length h2; rw [List.length_drop, List.length_nil] at this; simp only [lastP]; symm; exact decide_eq_true (by omega)
        · have := (List.getElem?_eq_some_iff.1 h3).1
          rw [h2]; simp only [lastP]; rw [if_neg (by simp [h4])]; symm; exact decide_eq_false (by omega)
      conv => whnf
      repeat' ((first | refine AU ?_ | ((with_reducible refine IF.mk (fun h => ?_) (fun h => ?_)) <;> (try simp (disch := omega) only [hsB, hsC, lnB, wrap64, wrap32, simprocAttr] at h) <;> try (exfalso; omega))) <;> conv => whnf)
      all_goals
        refine FIN.anyA 7 h0 rfl rfl rfl ⟨?_, rfl, rfl⟩
        rw [htag, hlast]
      · rw [if_neg (by rw [decide_eq_true_iff]; omega)]
      · rw [if_pos (by rw [decide_eq_true_iff]; omega)]
end Go.Proofs.YtjbbkimodgffiaaGreatDoor
/- term and its reference: Check and CheckQuad, walked. Conditions: none. -/
set_option linter.unusedVariables false
set_option linter.unusedSimpArgs false
set_option maxRecDepth 20000
set_option maxHeartbeats 8000000
namespace Go.Proofs.YtjbbkimodgffiaaGreatDoor
open Go.Sx Go.Our
def plTerm10 : Plan := (planOf [(0, 1), (1, 1), (2, 1), (3, 1), (6, 1), (4, 2), (7, 2), (5, 3), (8, 1), (9, 1)])
theorem literal_does (k : Int) (t y l : List UInt8) (ht : Sm t) (hy : Sm y) (hl : Sm l) : Does Tryz.prog tab 116 0 [.agg [.int .i64 k, .str t, .str y, .str l]] [] [] (Val (.int .i64 (litM t y l))) := by
  refine Does.enter tabOK (g := 116) (fn := Tryz.f116) Tryz.call116 Tryz.func116 rfl 55 rfl rfl [.tmp 2] rfl ?_
  intro w0 F η0 h0
  conv => whnf
  repeat' ((first | refine DRAWN.of (id := 12) tabOK mixed plTerm10 (by kernel_rfl) ?_ | with_reducible refine ADD.mk (fun _ _ => ?_) | with_reducible refine NEED.mk (Det.of rfl) ?_ | refine NEED.mk (det_pos (by omega)) ?_ | with_reducible refine FORK.mk ?_ ?_ | refine CALL.value (check_does _ ht) rfl rfl ?_ | refine CALL.value (iriCheck_does _ hy) rfl rfl ?_ | refine CALL.value (tag_does _ (by omega)) rfl rfl ?_ | refine CALL.value (lower_does _ hl) rfl rfl ?_ | (refine CALL.look1 2 (cmpOrErr_does [(if tagP (splitM l) = true then 0 else 61), 61] (by simp)) rfl rfl rfl rfl rfl rfl ?_; conv => whnf) | refine AU ?_ | ((with_reducible refine IF.mk (fun h => ?_) (fun h => ?_)) <;> (try simp (disch := omega) only [hsB, hsC, lnB, wrap64, wrap32, simprocAttr] at h) <;> try (exfalso; omega))) <;> conv => whnf)
  all_goals
    refine FIN.value h0 rfl (congrArg (SV.int _) ?_)
    by_cases hy0 : y = taggedB
    · have hyb : (y == taggedB) = true := by simp [hy0]
      unfold taggedB at hyb
      try rw [hyb] at h
      by_cases htg : tagP (splitM l) = true <;> by_cases hlw : lowerM l = l <;> by_cases hl0 : l = [] <;> simp_all [litM, taggedB, orE] <;> omega
    · have hyb : (y == taggedB) = false := by simp [hy0]
      unfold taggedB at hyb
      try rw [hyb] at h
      by_cases htg : tagP (splitM l) = true <;> by_cases hlw : lowerM l = l <;> by_cases hl0 : l = [] <;> simp_all [litM, taggedB, orE] <;> omega
theorem tcheck_does (x : Tm) (hx : TmSm x) : Does Tryz.prog tab 90 0 [.agg [.int .i64 x.k, .str x.t, .str x.y, .str x.l]] [] [] (Val (.int .i64 (checkM x))) := by
  obtain ⟨ht, hy, hl⟩ := hx
  obtain ⟨k, t, y, l⟩ := x
  dsimp only at ht hy hl ⊢
  refine Does.enter tabOK (g := 90) (fn := Tryz.f90) Tryz.call90 Tryz.func90 rfl 33 rfl rfl [.tmp 2] rfl ?_
  intro w0 F η0 h0
  conv => whnf
  repeat' ((first | refine CALL.value (literal_does _ _ _ _ ht hy hl) rfl rfl ?_ | refine CALL.value (iriCheck_does _ ht) rfl rfl ?_ | refine CALL.value (nLabel_does _ ht) rfl rfl ?_ | refine AU ?_ | ((with_reducible refine IF.mk (fun h => ?_) (fun h => ?_)) <;> (try simp (disch := omega) only [hsB, hsC, lnB, wrap64, wrap32, simprocAttr] at h) <;> try (exfalso; omega))) <;> conv => whnf)
  all_goals
    refine FIN.value h0 rfl (congrArg (SV.int _) ?_)
    unfold checkM
    first
      | (simp_all; done)
      | (simp_all <;> omega)
theorem stands0_does (x : Tm) : Does Tryz.prog tab 89 0 [.int .i64 0, .agg [.int .i64 x.k, .str x.t, .str x.y, .str x.l]] [] [] (Val (.bool (decide (x.k = 1 ∨ x.k = 2)))) := by
  refine Does.enter tabOK (g := 89) (fn := Tryz.f89) Tryz.call89 Tryz.func89 rfl 49 rfl rfl [.tmp 4] rfl ?_
  intro w0 F η0 h0
  conv => whnf
  repeat' ((first | refine AU ?_ | ((with_reducible refine IF.mk (fun h => ?_) (fun h => ?_)) <;> (try simp (disch := omega) only [hsB, hsC, lnB, wrap64, wrap32, simprocAttr] at h) <;> try (exfalso; omega))) <;> conv => whnf)
  all_goals
    refine FIN.value h0 rfl (congrArg SV.bool ?_)
    by_cases h1 : x.k = 1 <;> by_cases h2 : x.k = 2 <;> simp_all
theorem stands1_does (x : Tm) : Does Tryz.prog tab 89 0 [.int .i64 1, .agg [.int .i64 x.k, .str x.t, .str x.y, .str x.l]] [] [] (Val (.bool (decide (x.k = 1)))) := by
  refine Does.enter tabOK (g := 89) (fn := Tryz.f89) Tryz.call89 Tryz.func89 rfl 49 rfl rfl [.tmp 4] rfl ?_
  intro w0 F η0 h0
  conv => whnf
  repeat' ((first | refine AU ?_ | ((with_reducible refine IF.mk (fun h => ?_) (fun h => ?_)) <;> (try simp (disch := omega) only [hsB, hsC, lnB, wrap64, wrap32, simprocAttr] at h) <;> try (exfalso; omega))) <;> conv => whnf)
  all_goals
    refine FIN.value h0 rfl (congrArg SV.bool ?_)
    by_cases h1 : x.k = 1 <;> simp_all
theorem stands2_does (x : Tm) : Does Tryz.prog tab 89 0 [.int .i64 2, .agg [.int .i64 x.k, .str x.t, .str x.y, .str x.l]] [] [] (Val (.bool (decide (x.k = 1 ∨ x.k = 2 ∨ x.k = 3)))) := by
  refine Does.enter tabOK (g := 89) (fn := Tryz.f89) Tryz.call89 Tryz.func89 rfl 49 rfl rfl [.tmp 4] rfl ?_
  intro w0 F η0 h0
  conv => whnf
  repeat' ((first | refine AU ?_ | ((with_reducible refine IF.mk (fun h => ?_) (fun h => ?_)) <;> (try simp (disch := omega) only [hsB, hsC, lnB, wrap64, wrap32, simprocAttr] at h) <;> try (exfalso; omega))) <;> conv => whnf)
  all_goals
    refine FIN.value h0 rfl (congrArg SV.bool ?_)
    by_cases h1 : x.k = 1 <;> by_cases h2 : x.k = 2 <;> by_cases h3 : x.k = 3 <;> simp_all
theorem stands3_does (x : Tm) : Does Tryz.prog tab 89 0 [.int .i64 3, .agg [.int .i64 x.k, .str x.t, .str x.y, .str x.l]] [] [] (Val (.bool (decide (x.k = 1 ∨ x.k = 2 ∨ x = zeroTm)))) := by
  obtain ⟨k, t, y, l⟩ := x
  dsimp only
  refine Does.enter tabOK (g := 89) (fn := Tryz.f89) Tryz.call89 Tryz.func89 rfl 49 rfl rfl [.tmp 4] rfl ?_
  intro w0 F η0 h0
  conv => whnf
  repeat' ((first | refine AU ?_ | ((with_reducible refine IF.mk (fun h => ?_) (fun h => ?_)) <;> (try simp (disch := omega) only [hsB, hsC, lnB, wrap64, wrap32, simprocAttr] at h) <;> try (exfalso; omega))) <;> conv => whnf)
  all_goals
    refine FIN.value h0 rfl (congrArg SV.bool ?_)
    unfold zeroTm
    by_cases h1 : k = 1 <;> by_cases h2 : k = 2 <;> by_cases h3 : k = 0 <;> cases t <;> cases y <;> cases l <;> simp_all
theorem tcheckQuad_does (q : Qd) (hq : QdSm q) : Does Tryz.prog tab 61 0 [q.sv] [] [] (Val (.int .i64 (cquadM q))) := by
  obtain ⟨hs, hp, ho, hg⟩ := hq
  unfold Qd.sv
  refine Does.enter tabOK (g := 61) (fn := Tryz.f61) Tryz.call61 Tryz.func61 rfl 36 rfl rfl [.tmp 2] rfl ?_
  intro w0 F η0 h0
  conv => whnf
  repeat' ((first | (refine LOOP.once tabOK ?_; conv => whnf) | refine CALL.value (stands0_does q.s) rfl rfl ?_ | refine CALL.value (stands1_does q.p) rfl rfl ?_ | refine CALL.value (stands2_does q.o) rfl rfl ?_ | refine CALL.value (stands3_does q.g) rfl rfl ?_ | refine CALL.value (tcheck_does q.s hs) rfl rfl ?_ | refine CALL.value (tcheck_does q.p hp) rfl rfl ?_ | refine CALL.value (tcheck_does q.o ho) rfl rfl ?_ | refine CALL.value (tcheck_does q.g hg) rfl rfl ?_ | refine AU ?_ | ((with_reducible refine IF.mk (fun h => ?_) (fun h => ?_)) <;> (try simp (disch := omega) only [hsB, hsC, lnB, wrap64, wrap32, simprocAttr] at h) <;> try (exfalso; omega))) <;> conv => whnf)
  all_goals
    refine FIN.value h0 rfl (congrArg (SV.int _) ?_)
    have hco := @check_other q.o
    have hz : q.g = zeroTm → q.g.k = 0 := fun h => by rw [h]; rfl
    unfold cquadM
    clear hs hp ho hg
    by_cases hgz : q.g = zeroTm
    · have := hz hgz; simp_all
    · by_cases g1 : q.g.k = 1
      · simp_all
      · by_cases g2 : q.g.k = 2
        · simp_all
        · simp_all
end Go.Proofs.YtjbbkimodgffiaaGreatDoor
/- The reference's names: labels, walked. Conditions: none. -/
set_option linter.unusedVariables false
set_option linter.unusedSimpArgs false
set_option maxRecDepth 20000
set_option maxHeartbeats 8000000
namespace Go.Proofs.YtjbbkimodgffiaaGreatDoor
open Go.Sx Go.Our
theorem r6Digit_does (r : Int) : Does Tryz.prog tab 124 0 [.int .i64 r] [] [] (Val (.bool (decide (DigitI r)))) := by
  refine Does.enter tabOK (g := 124) (fn := Tryz.f124) Tryz.call124 Tryz.func124 rfl 9 rfl rfl [.tmp 2] rfl ?_
  intro w0 F η0 h0
  conv => whnf
  repeat' ((first | refine AU ?_ | ((with_reducible refine IF.mk (fun h => ?_) (fun h => ?_)) <;> (try simp (disch := omega) only [hsB, hsC, lnB, wrap64, wrap32, simprocAttr] at h) <;> try (exfalso; omega))) <;> conv => whnf)
  refine FIN.value h0 rfl (congrArg SV.bool ?_)
  rw [Bool.eq_iff_iff]
  simp only [Bool.cond_eq_ite, decide_eq_true_eq, Bool.if_false_right, Bool.if_true_left, Bool.and_eq_true, Bool.or_eq_true]
  rfl
def baseRows : List (List SV) := [65, 90, 97, 122, 192, 214, 216, 246, 248, 767, 880, 893, 895, 8191, 8204, 8205, 8304, 8591, 11264, 12271, 12289, 55295, 63744, 64975, 65008, 65533, 65536, 983039].map fun x => [SV.int .i64 x]
theorem r6bases_does : Does Tryz.prog tab 189 0 [] [] [] (Val (.arr 1 baseRows)) := by
  refine Does.enter tabOK (g := 189) (fn := Tryz.f189) Tryz.call189 Tryz.func189 rfl 2 rfl rfl [.cell 0 204] rfl ?_
  intro w0 F η0 h0
  conv => whnf
  repeat' ((first | refine AU ?_ | ((with_reducible refine IF.mk (fun h => ?_) (fun h => ?_)) <;> (try simp (disch := omega) only [hsB, hsC, lnB, wrap64, wrap32, simprocAttr] at h) <;> try (exfalso; omega))) <;> conv => whnf)
  exact FIN.value h0 rfl rfl
theorem r6Base_does (r : Int) : Does Tryz.prog tab 157 0 [.int .i64 r] [] [] (Val (.bool (decide (BaseI r)))) := by
  refine Does.enter tabOK (g := 157) (fn := Tryz.f157) Tryz.call157 Tryz.func157 rfl 23 rfl rfl [.tmp 2] rfl ?_
  intro w0 F η0 h0
  conv => whnf
  repeat' ((first | refine CALL.value (r6bases_does) rfl rfl ?_ | (refine LOOP.once tabOK ?_; conv => whnf) | (refine NEED.mk ⟨rfl, rfl, rfl, rfl, rfl⟩ ?_; conv => whnf) | refine AU ?_ | ((with_reducible refine IF.mk (fun h => ?_) (fun h => ?_)) <;> (try simp (disch := omega) only [hsB, hsC, lnB, wrap64, wrap32, simprocAttr] at h) <;> try (exfalso; omega))) <;> conv => whnf)
  all_goals
    refine FIN.value h0 rfl (congrArg SV.bool ?_)
    first
      | exact (decide_eq_true (by unfold BaseI; omega)).symm
      | exact (decide_eq_false (by unfold BaseI; omega)).symm
theorem r6Starter_does (r : Int) : Does Tryz.prog tab 123 0 [.int .i64 r] [] [] (Val (.bool (decide (StartI r)))) := by
  refine Does.enter tabOK (g := 123) (fn := Tryz.f123) Tryz.call123 Tryz.func123 rfl 9 rfl rfl [.tmp 2] rfl ?_
  intro w0 F η0 h0
  conv => whnf
  repeat' ((first | refine CALL.value (r6Base_does _) rfl rfl ?_ | refine AU ?_ | ((with_reducible refine IF.mk (fun h => ?_) (fun h => ?_)) <;> (try simp (disch := omega) only [hsB, hsC, lnB, wrap64, wrap32, simprocAttr] at h) <;> try (exfalso; omega))) <;> conv => whnf)
  all_goals
    refine FIN.value h0 rfl (congrArg SV.bool ?_)
    rw [Bool.eq_iff_iff, decide_eq_true_iff]
    unfold StartI
    simp
theorem r6Follower_does (r : Int) : Does Tryz.prog tab 158 0 [.int .i64 r] [] [] (Val (.bool (decide (FollowI r)))) := by
  refine Does.enter tabOK (g := 158) (fn := Tryz.f158) Tryz.call158 Tryz.func158 rfl 33 rfl rfl [.tmp 2] rfl ?_
  intro w0 F η0 h0
  conv => whnf
  repeat' ((first | refine CALL.value (r6Starter_does _) rfl rfl ?_ | refine CALL.value (r6Digit_does _) rfl rfl ?_ | refine AU ?_ | ((with_reducible refine IF.mk (fun h => ?_) (fun h => ?_)) <;> (try simp (disch := omega) only [hsB, hsC, lnB, wrap64, wrap32, simprocAttr] at h) <;> try (exfalso; omega))) <;> conv => whnf)
  all_goals
    refine FIN.value h0 rfl (congrArg SV.bool ?_)
    rw [Bool.eq_iff_iff]
    unfold FollowI
    simp_all
    try omega
/-- A row of a list of numbers. -/
def intRow (x : Int) : List SV := [.int .i64 x]
theorem plainInts (l : List Int) : plainLL (l.map intRow) = true := plainLL_map _ (fun _ => rfl) l
instance : PlF intRow := ⟨fun _ => rfl⟩
theorem shaped_drop {l : List Int} {i : Nat} (h : i < l.length) : shapedM (l.drop i) = if i + 1 = l.length then decide (FollowI l[i]) else (decide (FollowI l[i] ∨ l[i] = 46) && shapedM (l.drop (i + 1))) := by
  rw [List.drop_eq_getElem_cons h]
  cases hd : l.drop (i + 1) with
  | nil =>
    have := congrArg List.length hd
    simp at this
    rw [if_pos (by omega)]; rfl
  | cons q t =>
    have := congrArg List.length hd
    simp at this
    rw [if_neg (by omega)]; rfl
theorem r6shaped_does (l : List Int) (hl : l.length ≤ 1152921504606846976) : Does Tryz.prog tab 125 1 [.sl (.loc 0) 0 1 l.length none] [] [(0, .rows 1 (l.map intRow))] (ValK 1 (.bool (shapedM (l.drop 1)))) := by
  refine Does.enter tabOK (g := 125) (fn := Tryz.f125) Tryz.call125 Tryz.func125 rfl 30 rfl rfl [.tmp 2] rfl ?_
  intro w0 F η0 h0
  conv => whnf
  refine LOOP.go tabOK [0] (X := Nat) (fun i => 1 ≤ i ∧ shapedM (l.drop i) = shapedM (l.drop 1)) (fun i => [(3, .int .i64 (i : Int))]) (fun i => []) 1 (fun i => l.length - i) 1 ⟨by omega, rfl⟩ ?_
  conv => whnf
  refine ⟨by exact GOES.cA h0, ?_⟩
  rintro i ⟨hi, hc⟩
  conv => whnf
  repeat' ((first | refine CALL.value (r6Follower_does _) rfl rfl ?_ | (refine GET.map (by omega) ?_; conv => whnf) | (refine GETG.at (row := intRow (l[0 + (i : Int).toNat]'(by omega))) (by rw [List.getElem?_map, List.getElem?_eq_getElem (by omega)]; rfl) ?_; conv => whnf) | refine AU ?_ | ((with_reducible refine IF.mk (fun h => ?_) (fun h => ?_)) <;> (try simp (disch := omega) only [hsB, hsC, lnB, wrap64, wrap32, simprocAttr] at h) <;> try (exfalso; omega))) <;> conv => whnf)
  · rename_i h1
    have h1 : i < l.length := by omega
    have e : l[0 + (i : Int).toNat] = l[i] := by congr 1; omega
    rw [e] at h
    refine FIN.valueK h0 rfl (congrArg SV.bool ?_)
    rw [← hc, shaped_drop h1]
    split
    · simp [h.1]
    · rcases h.2 with h2 | h2
      · simp [h.1, h2]
      · omega
  · rename_i h1
    have h1 : i < l.length := by omega
    have e : l[0 + (i : Int).toNat] = l[i] := by congr 1; omega
    rw [e] at h
    refine ⟨i + 1, ⟨by omega, ?_⟩, by omega, ?_⟩
    · rw [← hc, shaped_drop h1]
      by_cases hf : FollowI l[i]
      · split
        · rename_i h2; rw [List.drop_eq_nil_of_le (by omega)]; simp [hf, shapedM]
        · simp [hf]
      · have := h hf
        rw [if_neg (by omega)]; simp [this.1]
    · conv => whnf
      exact GOES.cA h0
  · refine FIN.valueK h0 rfl (congrArg SV.bool ?_)
    rw [← hc, List.drop_eq_nil_of_le (by omega)]; rfl
/-- What is left of the scalars, and whether all is UTF-8. -/
def ScalarsQ (o : Option (List Int)) : SV → Hps → Nat → Prop := fun r O nx => match o with
  | some l => r = .tup [.sl (.loc 0) 0 1 l.length none, .bool true] ∧ O = [(0, .rows 1 (l.map intRow))] ∧ nx = 1
  | none => r = .tup [.val (.slice none 0 0), .bool false] ∧ O = [] ∧ nx = 0
theorem r6scalars_does (s : List UInt8) (hs : s.length ≤ 68719476736) : Does Tryz.prog tab 122 0 [.str s] [] [] (ScalarsQ (scalarsM s 0)) := by
  refine Does.enter tabOK (g := 122) (fn := Tryz.f122) Tryz.call122 Tryz.func122 rfl 28 rfl rfl [.tmp 2, .tmp 3] rfl ?_
  intro w0 F η0 h0
  conv => whnf
  refine LOOP.nil 4 1 rfl ?_
  refine LOOP.go tabOK [0] (X := Nat × List Int) (fun x => x.1 ≤ s.length ∧ x.2.length ≤ x.1 ∧ scalarsM s 0 = (scalarsM s x.1).map (x.2 ++ ·)) (fun x => [(5, .int .i64 (x.1 : Int)), (4, .sl (.loc 0) 0 1 x.2.length none)]) (fun x => [(0, .rows 1 (x.2.map intRow))]) 1 (fun x => s.length - x.1) (0, []) ⟨by simp, by simp, by cases scalarsM s 0 <;> simp⟩ ?_
  conv => whnf
  refine ⟨by exact GOES.cA h0, ?_⟩
  rintro ⟨i, l⟩ ⟨hi, hl, hc⟩
  simp only at hi hl hc
  have hn := nextAt_n s i
  dsimp only
  conv => whnf
  repeat' ((first | refine CALL.value (ref04Next_does s _ (by omega)) rfl rfl ?_ | refine AU ?_ | ((with_reducible refine IF.mk (fun h => ?_) (fun h => ?_)) <;> (try simp (disch := omega) only [hsB, hsC, lnB, wrap64, wrap32, simprocAttr] at h) <;> try (exfalso; omega))) <;> conv => whnf)
  · rename_i h1
    refine FIN.val h0 rfl ?_
    have : scalarsM s i = none := by rw [scalarsM, dif_pos (by omega), dif_neg (by simpa using h)]
    rw [hc, this]
    exact ⟨rfl, rfl, rfl⟩
  · rename_i h1
    refine ⟨(i + (nextAt s i).2.toNat, l ++ [(nextAt s i).1]), ⟨by simp only; omega, by simp only [List.length_append, List.length_cons, List.length_nil]; omega, ?_⟩, by simp only; omega, ?_⟩
    · rw [hc]
      conv => lhs; rw [scalarsM, dif_pos (by omega), dif_pos (by simpa using h)]
      cases scalarsM s (i + (nextAt s i).2.toNat) <;> simp
    · dsimp only
      conv => whnf
      (refine GOES.keeping h0 [2] rfl rfl rfl (by first | rfl | (simp only [belowO, belowH, plainLL_below _ (plainInts _), Bool.and_self, Bool.and_true] <;> rfl)) ?_ ?_ <;> (repeat' (first | (with_reducible rfl) | (exact rows_eq (plainInts _) (renLL_plain _ (plainInts _))) | (exact rows_eq (plainInts _) (by simp [intRow, ofVal, List.take_of_length_le])) | (exact sl_eq rfl (by first | (simp; done) | omega | (simp; omega))) | (exact congrArg (SV.int _) (by first | omega | (simp (disch := omega) only [lnB, wrap64, wrap32] <;> omega) | (simp; done) | (simp <;> omega))) | ((conv => whnf); refine ⟨?_, ?_⟩) | exact trivial | (simp only [ren, renB]; done) | rfl)))
  · refine FIN.rowsT h0 0 1 _ rfl rfl rfl (plainInts _) rfl ?_
    have : scalarsM s i = some [] := by rw [scalarsM, dif_neg (by omega)]
    rw [hc, this]
    simp [ScalarsQ]
theorem scalars_len (s : List UInt8) (i : Nat) : ∀ l, scalarsM s i = some l → l.length ≤ s.length - i := by
  induction i using scalarsM.induct s with
  | case1 i h h0 ih =>
    intro l hl
    have hn := nextAt_n s i
    rw [scalarsM, dif_pos h, dif_pos h0] at hl
    cases hc : scalarsM s (i + (nextAt s i).2.toNat) with
    | none => rw [hc] at hl; cases hl
    | some t =>
      rw [hc] at hl
      simp only [Option.map_some, Option.some.injEq] at hl
      subst hl
      have := ih t hc
      simp only [List.length_cons]; omega
  | case2 i h h0 => intro l hl; rw [scalarsM, dif_pos h, dif_neg h0] at hl; cases hl
  | case3 i h => intro l hl; rw [scalarsM, dif_neg h] at hl; injection hl with hl; subst hl; simp
theorem r6Label_does (s : List UInt8) (hs : s.length ≤ 68719476736) : Does Tryz.prog tab 106 0 [.str s] [] [] (Val (.int .i64 (labelR s))) := by
  refine Does.enter tabOK (g := 106) (fn := Tryz.f106) Tryz.call106 Tryz.func106 rfl 36 rfl rfl [.tmp 2] rfl ?_
  intro w0 F η0 h0
  conv => whnf
  unfold labelR
  cases hc : scalarsM s 0 with
  | none =>
    have sp := (r6scalars_does s hs).mono (Q' := Val (.tup [.val (.slice none 0 0), .bool false])) (fun r O nx hq => by rw [hc] at hq; exact hq)
    refine CALL.value sp rfl rfl ?_
    conv => whnf
    repeat' ((first | refine AU ?_ | ((with_reducible refine IF.mk (fun h => ?_) (fun h => ?_)) <;> (try simp (disch := omega) only [hsB, hsC, lnB, wrap64, wrap32, simprocAttr] at h) <;> try (exfalso; omega))) <;> conv => whnf)
    exact FIN.value h0 rfl rfl
  | some l =>
    have sp := (r6scalars_does s hs).mono (Q' := NewT 1 (l.map intRow) [.bool true]) (fun r O nx hq => by rw [hc] at hq; simpa [NewT, ScalarsQ] using hq)
    refine CALL.newT sp rfl (plainInts l) rfl ?_
    have hlen : (l.map intRow).length = l.length := by simp
    rw [hlen]
    conv => whnf
    cases l with
    | nil =>
      repeat' ((first | refine AU ?_ | ((with_reducible refine IF.mk (fun h => ?_) (fun h => ?_)) <;> (try simp (disch := omega) only [hsB, hsC, lnB, wrap64, wrap32, simprocAttr] at h) <;> try (exfalso; omega))) <;> conv => whnf)
      exact FIN.value h0 rfl rfl
    | cons r l =>
      have hL : (r :: l).length ≤ 1152921504606846976 := by have := scalars_len s 0 _ hc; omega
      repeat' ((first | (refine GET.at (row := intRow r) rfl ?_; conv => whnf) | refine CALL.value (r6Starter_does _) rfl rfl ?_ | refine CALL.value (r6Digit_does _) rfl rfl ?_ | (refine CALL.look1 _ (r6shaped_does (r :: l) hL) rfl rfl rfl rfl (plainInts _) rfl ?_; conv => whnf) | refine AU ?_ | ((with_reducible refine IF.mk (fun h => ?_) (fun h => ?_)) <;> (try simp (disch := omega) only [hsB, hsC, lnB, wrap64, wrap32, simprocAttr] at h) <;> try (exfalso; omega))) <;> conv => whnf)
      all_goals
        refine FIN.value h0 rfl (congrArg (SV.int _) ?_)
        try simp only [List.drop_succ_cons, List.drop_zero] at h
        unfold LabelI
        simp [*]
end Go.Proofs.YtjbbkimodgffiaaGreatDoor
/- The reference's names: parts of tags, walked. Conditions: none. -/
set_option linter.unusedVariables false
set_option linter.unusedSimpArgs false
set_option maxRecDepth 20000
set_option maxHeartbeats 8000000
namespace Go.Proofs.YtjbbkimodgffiaaGreatDoor
open Go.Sx Go.Our
theorem r6letters_does (s : List UInt8) (hs : Sm s) : Does Tryz.prog tab 192 0 [.str s] [] [] (Val (.bool (allB letterB s 0))) := by
  refine Does.enter tabOK (g := 192) (fn := Tryz.f192) Tryz.call192 Tryz.func192 rfl 29 rfl rfl [.tmp 2] rfl ?_
  intro w0 F η0 h0
  conv => whnf
  refine LOOP.go tabOK [0] (X := Nat) (fun i => i ≤ s.length ∧ allB letterB s i = allB letterB s 0) (fun i => [(3, .int .i64 (i : Int))]) (fun i => []) 0 (fun i => s.length - i) 0 ⟨by omega, rfl⟩ ?_
  conv => whnf
  refine ⟨by exact GOES.cA h0, ?_⟩
  rintro i ⟨hi, hc⟩
  conv => whnf
  repeat' ((first | refine AU ?_ | ((with_reducible refine IF.mk (fun h => ?_) (fun h => ?_)) <;> (try simp (disch := omega) only [hsB, hsC, lnB, wrap64, wrap32, simprocAttr] at h) <;> try (exfalso; omega))) <;> conv => whnf)
  · refine FIN.value h0 rfl (congrArg SV.bool ?_)
    rw [← hc, allB_at (by omega), show letterB (byteAt s i) = false from decide_eq_false (by unfold LetterI; omega)]; rfl
  · refine ⟨i + 1, ⟨by omega, ?_⟩, by omega, ?_⟩
    · rw [← hc, allB_at (i := i) (by omega), show letterB (byteAt s i) = true from decide_eq_true (by unfold LetterI; omega), Bool.true_and]
    · conv => whnf
      exact GOES.cA h0
  · refine FIN.value h0 rfl (congrArg SV.bool ?_)
    rw [← hc, allB_end (by omega)]
theorem r6numerals_does (s : List UInt8) (hs : Sm s) : Does Tryz.prog tab 191 0 [.str s] [] [] (Val (.bool (allB digitB s 0))) := by
  refine Does.enter tabOK (g := 191) (fn := Tryz.f191) Tryz.call191 Tryz.func191 rfl 20 rfl rfl [.tmp 2] rfl ?_
  intro w0 F η0 h0
  conv => whnf
  refine LOOP.go tabOK [0] (X := Nat) (fun i => i ≤ s.length ∧ allB digitB s i = allB digitB s 0) (fun i => [(3, .int .i64 (i : Int))]) (fun i => []) 0 (fun i => s.length - i) 0 ⟨by omega, rfl⟩ ?_
  conv => whnf
  refine ⟨by exact GOES.cA h0, ?_⟩
  rintro i ⟨hi, hc⟩
  conv => whnf
  repeat' ((first | refine AU ?_ | ((with_reducible refine IF.mk (fun h => ?_) (fun h => ?_)) <;> (try simp (disch := omega) only [hsB, hsC, lnB, wrap64, wrap32, simprocAttr] at h) <;> try (exfalso; omega))) <;> conv => whnf)
  · refine FIN.value h0 rfl (congrArg SV.bool ?_)
    rw [← hc, allB_at (by omega), show digitB (byteAt s i) = false from decide_eq_false (by unfold DigitI; omega)]; rfl
  · refine ⟨i + 1, ⟨by omega, ?_⟩, by omega, ?_⟩
    · rw [← hc, allB_at (i := i) (by omega), show digitB (byteAt s i) = true from decide_eq_true (by unfold DigitI; omega), Bool.true_and]
    · conv => whnf
      exact GOES.cA h0
  · refine FIN.value h0 rfl (congrArg SV.bool ?_)
    rw [← hc, allB_end (by omega)]
theorem cutB {s : List UInt8} {i : Nat} (h : i < s.length) : (s.drop (i : Int).toNat).take (((i : Int) + 1).toNat - (i : Int).toNat) = [s.getD i 0] := by
  rw [show ((i : Int) + 1).toNat - (i : Int).toNat = 1 by omega, Int.toNat_natCast, drop_cons h]; rfl
theorem bn_get (s : List UInt8) (i : Nat) : bn (s.getD i 0) = byteAt s i := rfl
theorem r6both_does (s : List UInt8) (least most : Int) (hs : Sm s) : Does Tryz.prog tab 165 0 [.str s, .int .i64 least, .int .i64 most] [] [] (Val (.bool (madeM s least most false))) := by
  refine Does.enter tabOK (g := 165) (fn := Tryz.f165) Tryz.call165 Tryz.func165 rfl 40 rfl rfl [.tmp 6] rfl ?_
  intro w0 F η0 h0
  conv => whnf
  refine LOOP.go tabOK [0, 1, 2] (X := Nat) (fun i => i ≤ s.length ∧ allB (partB false) s i = allB (partB false) s 0) (fun i => [(7, .int .i64 (i : Int))]) (fun i => []) 0 (fun i => s.length - i) 0 ⟨by omega, rfl⟩ ?_
  conv => whnf
  refine ⟨by exact GOES.cA h0, ?_⟩
  rintro i ⟨hi, hc⟩
  conv => whnf
  have sm : ∀ n m, Sm ((s.drop n).take m) := fun n m => by simp; omega
  repeat' ((first | refine CALL.value (r6letters_does _ (sm _ _)) rfl rfl ?_ | refine CALL.value (r6numerals_does _ (sm _ _)) rfl rfl ?_ | refine AU ?_ | ((with_reducible refine IF.mk (fun h => ?_) (fun h => ?_)) <;> (try simp (disch := omega) only [hsB, hsC, lnB, wrap64, wrap32, simprocAttr] at h) <;> try (exfalso; omega))) <;> conv => whnf)
  all_goals first
    | (have hl : i < s.length := by omega
       simp only [cutB hl, allB_one, bn_get] at *
       first
         | (refine FIN.value h0 rfl (congrArg SV.bool ?_)
            have h1 : partB false (byteAt s i) = false := by unfold partB; simp [*]
            unfold madeM; rw [← hc, allB_at hl, h1]; rfl)
         | (have h1 : partB false (byteAt s i) = true := by unfold partB; simp [*]
            refine ⟨i + 1, ⟨by omega, ?_⟩, by omega, ?_⟩
            · rw [← hc, allB_at (i := i) hl, h1, Bool.true_and]
            · conv => whnf
              exact GOES.cA h0))
    | (refine FIN.value h0 rfl (congrArg SV.bool ?_)
       unfold madeM; rw [← hc, allB_end (by omega), Bool.eq_iff_iff]
       simp [Bool.cond_eq_ite])
theorem r6variant_does (s : List UInt8) (hs : Sm s) : Does Tryz.prog tab 164 0 [.str s] [] [] (Val (.bool (variantM s))) := by
  have hm : madeM s 4 4 false = true → s.length = 4 := by unfold madeM; simp; omega
  have sm : ∀ m, Sm (s.take m) := fun m => by simp; omega
  refine Does.enter tabOK (g := 164) (fn := Tryz.f164) Tryz.call164 Tryz.func164 rfl 14 rfl rfl [.tmp 2] rfl ?_
  intro w0 F η0 h0
  conv => whnf
  repeat' ((first | refine CALL.value (r6both_does _ _ _ hs) rfl rfl ?_ | refine CALL.value (r6numerals_does _ (sm _)) rfl rfl ?_ | (refine NEED.mk (by have := hm (by assumption); omega) ?_; conv => whnf) | refine AU ?_ | ((with_reducible refine IF.mk (fun h => ?_) (fun h => ?_)) <;> (try simp (disch := omega) only [hsB, hsC, lnB, wrap64, wrap32, simprocAttr] at h) <;> try (exfalso; omega))) <;> conv => whnf)
  all_goals
    refine FIN.value h0 rfl (congrArg SV.bool ?_)
    unfold variantM
    by_cases h4 : madeM s 4 4 false = true
    · have := hm h4
      cases s with
      | nil => simp at this
      | cons a t =>
        have ht : (a :: t).take (1 : Int).toNat = [a] := rfl
        have hb : bn a = byteAt (a :: t) 0 := rfl
        try simp only [ht, allB_one, hb] at *
        simp_all
    · simp_all
theorem r6lower_does (s : List UInt8) (hs : Sm s) : Does Tryz.prog tab 160 0 [.str s] [] [] (Val (.str (lowerM s))) := by
  refine Does.enter tabOK (g := 160) (fn := Tryz.f160) Tryz.call160 Tryz.func160 rfl 35 rfl rfl [.tmp 2] rfl ?_
  intro w0 F η0 h0
  conv => whnf
  repeat' ((first | refine AU ?_ | ((with_reducible refine IF.mk (fun h => ?_) (fun h => ?_)) <;> (try simp (disch := omega) only [hsB, hsC, lnB, wrap64, wrap32, simprocAttr] at h) <;> try (exfalso; omega))) <;> conv => whnf)
  refine LOOP.go tabOK [3] (X := Nat) (fun i => i ≤ s.length) (fun i => [(4, .int .i64 (i : Int))]) (fun i => [(0, .rows 1 ((curL s i).map Sx.bytesRow))]) 1 (fun i => s.length - i) 0 (by omega) ?_
  conv => whnf
  refine ⟨by (refine GOES.cutting h0 rfl rfl rfl (by first | rfl | (simp only [belowO, belowH, plainLL_below _ (plainBytes _), Bool.and_self, Bool.and_true] <;> rfl)) ?_ ?_ <;> (repeat' (first | (with_reducible rfl) | (exact sl_eq rfl (by first | (simp; done) | omega | (simp; omega))) | (exact congrArg (SV.int _) (by first | omega | (simp (disch := omega) only [lnB, wrap64, wrap32] <;> omega) | (simp; done) | (simp <;> omega))) | (exact congrArg (Hp.rows _) (by rw [curL_zero])) | ((conv => whnf); refine ⟨?_, ?_⟩) | exact trivial | rfl))), ?_⟩
  intro i hi
  have hlen := curL_len s i
  conv => whnf
  repeat' ((first | (refine GET.at (row := Sx.bytesRow (s[i]'(by omega))) (by rw [show 0 + (i : Int).toNat = i by omega]; exact rowL_get (by omega)) ?_; conv => whnf) | (refine GETG.at (row := Sx.bytesRow (s[i]'(by omega))) (by rw [show 0 + (i : Int).toNat = i by omega]; exact rowL_get (by omega)) ?_; conv => whnf) | refine AU ?_ | ((with_reducible refine IF.mk (fun h => ?_) (fun h => ?_)) <;> (try simp (disch := omega) only [hsB, hsC, lnB, wrap64, wrap32, simprocAttr] at h) <;> try (exfalso; omega))) <;> conv => whnf)
  · have hl : i < s.length := by omega
    refine ⟨i + 1, by omega, by omega, ?_⟩
    conv => whnf
    (refine GOES.cutting h0 rfl rfl rfl (by first | rfl | (simp only [belowO, belowH, plainLL_below _ (plainBytes _), Bool.and_self, Bool.and_true] <;> rfl)) ?_ ?_ <;> (repeat' (first | (with_reducible rfl) | (exact sl_eq rfl (by first | (simp; done) | omega | (simp; omega))) | (exact congrArg (SV.int _) (by first | omega | (simp (disch := omega) only [lnB, wrap64, wrap32] <;> omega) | (simp; done) | (simp <;> omega))) | (exact congrArg (Hp.rows _) (by rw [lowB_up h, show 0 + (i : Int).toNat = i by omega, rowL_set hl])) | ((conv => whnf); refine ⟨?_, ?_⟩) | exact trivial | rfl)))
  · have hl : i < s.length := by omega
    refine ⟨i + 1, by omega, by omega, ?_⟩
    conv => whnf
    (refine GOES.cutting h0 rfl rfl rfl (by first | rfl | (simp only [belowO, belowH, plainLL_below _ (plainBytes _), Bool.and_self, Bool.and_true] <;> rfl)) ?_ ?_ <;> (repeat' (first | (with_reducible rfl) | (exact sl_eq rfl (by first | (simp; done) | omega | (simp; omega))) | (exact congrArg (SV.int _) (by first | omega | (simp (disch := omega) only [lnB, wrap64, wrap32] <;> omega) | (simp; done) | (simp <;> omega))) | (exact congrArg (Hp.rows _) (by rw [curL_same hl (lowB_id (by omega))])) | ((conv => whnf); refine ⟨?_, ?_⟩) | exact trivial | rfl)))
  · refine NEED.mk (needText (by omega)) ?_
    conv => whnf
    refine FIN.value h0 rfl (congrArg SV.str ?_)
    have := textAll (curL s i)
    rw [hlen] at this
    rw [this, curL_all (by omega)]
end Go.Proofs.YtjbbkimodgffiaaGreatDoor
/- The reference's tags: parts, joined parts, the reader, walked. Conditions: none. -/
set_option linter.unusedVariables false
set_option linter.unusedSimpArgs false
set_option maxRecDepth 20000
set_option maxHeartbeats 8000000
namespace Go.Proofs.YtjbbkimodgffiaaGreatDoor
open Go.Sx Go.Our
theorem byte_is {s : List UInt8} {i : Nat} {c : UInt8} (h : i < s.length) : byteAt s i = (c.toNat : Int) ↔ s[i]? = some c := by
  unfold byteAt
  rw [Int.toNat_natCast, List.getD, List.getElem?_eq_getElem h]
  simp only [Option.getD_some, Option.some.injEq]
  constructor
  · intro h1; exact UInt8.toNat_inj.1 (by omega)
  · intro h1; rw [h1]
theorem r6parts_does (s : List UInt8) (hs : s.length ≤ 34359738368) : Does Tryz.prog tab 159 0 [.str s] [] [] (NewS 1 ((splitM s).map strRow)) := by
  have hlen := split_len s
  refine Does.enter tabOK (g := 159) (fn := Tryz.f159) Tryz.call159 Tryz.func159 rfl 31 rfl rfl [.tmp 2] rfl ?_
  intro w0 F η0 h0
  conv => whnf
  refine LOOP.nil 3 1 rfl ?_
  refine LOOP.go tabOK [0] (X := List (List UInt8) × Nat × Nat) (fun y => y.2.1 ≤ y.2.2 ∧ y.2.2 ≤ s.length ∧ splitM s = y.1 ++ splitM (s.drop y.2.1) ∧ ∀ c ∈ (s.drop y.2.1).take (y.2.2 - y.2.1), c ≠ 45) (fun y => [(3, .sl (.loc 0) 0 1 y.1.length none), (4, .int .i64 (y.2.1 : Int)), (5, .int .i64 (y.2.2 : Int))]) (fun y => [(0, .rows 1 (y.1.map strRow))]) 1 (fun y => s.length - y.2.2) ([], 0, 0) ⟨by simp, by simp, by simp, by simp⟩ ?_
  conv => whnf
  refine ⟨by (refine GOES.keeping h0 [0] rfl rfl rfl (by first | rfl | (simp only [belowO, belowH, plainLL_below _ (plainStrs _), Bool.and_self, Bool.and_true] <;> rfl)) ?_ ?_ <;> (repeat' (first | (with_reducible rfl) | (exact rows_eq (plainStrs _) (renLL_plain _ (plainStrs _))) | (exact rows_eq (plainStrs _) (by simp [strRow, ofVal, List.take_of_length_le])) | (exact sl_eq rfl (by first | (simp; done) | omega | (simp; omega))) | (exact congrArg (SV.int _) (by first | omega | (simp (disch := omega) only [lnB, wrap64, wrap32] <;> omega) | (simp; done) | (simp <;> omega))) | ((conv => whnf); refine ⟨?_, ?_⟩) | exact trivial | (simp only [ren, renB]; done) | rfl))), ?_⟩
  rintro ⟨l, f, i⟩ ⟨hf, hi, he, hn⟩
  dsimp only at hf hi he hn ⊢
  have hl : l.length + (splitM (s.drop f)).length = (splitM s).length := by rw [he, List.length_append]
  have hl1 : 1 ≤ (splitM (s.drop f)).length := by have := split_count (s.drop f); omega
  conv => whnf
  repeat' ((first | refine AU ?_ | ((with_reducible refine IF.mk (fun h => ?_) (fun h => ?_)) <;> (try simp (disch := omega) only [hsB, hsC, lnB, wrap64, wrap32, simprocAttr] at h) <;> try (exfalso; omega))) <;> conv => whnf)
  · have h45 : (s.drop f)[i - f]? = some 45 := by rw [List.getElem?_drop, show f + (i - f) = i by omega]; exact (byte_is (c := 45) (by omega)).1 h
    have hc := split_cut _ _ hn h45
    rw [List.drop_drop, show f + (i - f + 1) = i + 1 by omega] at hc
    refine ⟨(l ++ [(s.drop f).take (i - f)], i + 1, i + 1), ⟨by simp only; omega, by simp only; omega, by simp only; rw [he, hc]; simp, by simp⟩, by simp only; omega, ?_⟩
    dsimp only
    rw [show (l ++ [(s.drop f).take (i - f)]).length = l.length + 1 by simp]
    conv => whnf
    (refine GOES.keeping h0 [2] rfl rfl rfl (by first | rfl | (simp only [belowO, belowH, plainLL_below _ (plainStrs _), Bool.and_self, Bool.and_true] <;> rfl)) ?_ ?_ <;> (repeat' (first | (with_reducible rfl) | (exact rows_eq (plainStrs _) (renLL_plain _ (plainStrs _))) | (exact rows_eq (plainStrs _) (by simp [strRow, ofVal, List.take_of_length_le])) | (exact sl_eq rfl (by first | (simp; done) | omega | (simp; omega))) | (exact congrArg (SV.int _) (by first | omega | (simp (disch := omega) only [lnB, wrap64, wrap32] <;> omega) | (simp; done) | (simp <;> omega))) | ((conv => whnf); refine ⟨?_, ?_⟩) | exact trivial | (simp only [ren, renB]; done) | rfl)))
  · refine ⟨(l, f, i + 1), ⟨by simp only; omega, by simp only; omega, he, ?_⟩, by simp only; omega, ?_⟩
    · dsimp only
      intro c hc
      have hlt : i - f < (s.drop f).length := by rw [List.length_drop]; omega
      rw [show i + 1 - f = (i - f) + 1 by omega, List.take_succ_eq_append_getElem hlt] at hc
      rcases List.mem_append.1 hc with hc | hc
      · exact hn c hc
      · have hc := List.mem_singleton.1 hc
        rintro rfl
        refine h ((byte_is (c := 45) (by omega)).2 ?_)
        have h1 : (s.drop f)[i - f]? = some 45 := by rw [List.getElem?_eq_getElem hlt, ← hc]
        rwa [List.getElem?_drop, show f + (i - f) = i by omega] at h1
    · dsimp only
      conv => whnf
      (refine GOES.keeping h0 [0] rfl rfl rfl (by first | rfl | (simp only [belowO, belowH, plainLL_below _ (plainStrs _), Bool.and_self, Bool.and_true] <;> rfl)) ?_ ?_ <;> (repeat' (first | (with_reducible rfl) | (exact rows_eq (plainStrs _) (renLL_plain _ (plainStrs _))) | (exact rows_eq (plainStrs _) (by simp [strRow, ofVal, List.take_of_length_le])) | (exact sl_eq rfl (by first | (simp; done) | omega | (simp; omega))) | (exact congrArg (SV.int _) (by first | omega | (simp (disch := omega) only [lnB, wrap64, wrap32] <;> omega) | (simp; done) | (simp <;> omega))) | ((conv => whnf); refine ⟨?_, ?_⟩) | exact trivial | (simp only [ren, renB]; done) | rfl)))
  · have hc : splitM (s.drop f) = [s.drop f] := by
      refine split_all _ fun c hc => hn c ?_
      rwa [List.take_of_length_le (by rw [List.length_drop]; omega)]
    rw [he, hc] at *
    refine FIN.rows h0 2 1 (l.length + 1) rfl rfl rfl (by simp [plainLL_append, plainLL_map, plainStrs, plainLL, plainL, plain, List.take_of_length_le]) ⟨by simp, ?_, rfl⟩
    simp [strRow, List.take_of_length_le]
/-- Parts with hyphens between: what we need of them. -/
theorem r6joined_does (ps : List (List UInt8)) (hb : bulkM ps + ps.length ≤ 68719476736) (a m : Nat) (ham : a + m = ps.length) : Does Tryz.prog tab 190 1 [.sl (.loc 0) a 1 m none] [] [(0, .rows 1 (ps.map strRow))]
    (fun r O nx => ∃ s, s.length ≤ bulkM ps + ps.length ∧ (∀ p, ps[a]? = some p → ∃ t, s = p ++ t) ∧ r = .str s ∧ O = [] ∧ nx = 1) := by
  refine Does.enter tabOK (g := 190) (fn := Tryz.f190) Tryz.call190 Tryz.func190 rfl 24 rfl rfl [.tmp 2] rfl ?_
  intro w0 F η0 h0
  conv => whnf
  refine LOOP.nil 3 1 rfl ?_
  refine LOOP.go tabOK [0] (X := Nat × List UInt8) (fun y => y.1 ≤ m ∧ y.2.length ≤ ((ps.take (a + y.1)).map List.length).sum + y.1 ∧ (y.1 ≠ 0 → ∀ p, ps[a]? = some p → ∃ t, y.2 = p ++ t) ∧ (y.1 = 0 → y.2 = [])) (fun y => [(3, .sl (.loc 1) 0 1 y.2.length none), (4, .int .i64 (y.1 : Int))]) (fun y => [(1, .rows 1 (y.2.map Sx.bytesRow))]) 2 (fun y => m - y.1) (0, []) ⟨by simp, by simp, by simp, by simp⟩ ?_
  conv => whnf
  refine ⟨by (refine GOES.keeping h0 [1] rfl rfl rfl (by first | rfl | (simp only [belowO, belowH, plainLL_below _ (plainBytes _), Bool.and_self, Bool.and_true] <;> rfl)) ?_ ?_ <;> (repeat' (first | (with_reducible rfl) | (exact rows_eq (plainBytes _) (renLL_plain _ (plainBytes _))) | (exact rows_eq (plainBytes _) (by simp [Sx.bytesRow, ofVal, List.take_of_length_le])) | (exact sl_eq rfl (by first | (simp; done) | omega | (simp; omega))) | (exact congrArg (SV.int _) (by first | omega | (simp (disch := omega) only [lnB, wrap64, wrap32] <;> omega) | (simp; done) | (simp <;> omega))) | ((conv => whnf); refine ⟨?_, ?_⟩) | exact trivial | (simp only [ren, renB]; done) | rfl))), ?_⟩
  rintro ⟨c, b⟩ ⟨hc, hl, hp, h00⟩
  dsimp only at hc hl hp h00 ⊢
  have hbt := bulk_take ps (a + c)
  rcases Nat.lt_or_ge c m with hcm | hcm
  · have hlt : a + c < ps.length := by omega
    have hs1 := sum_le (List.getElem?_eq_getElem hlt)
    have hs2 := bulk_take ps (a + c + 1)
    have key : ∀ b' : List UInt8, (c = 0 → b' = []) → (c ≠ 0 → ∃ t, b' = b ++ t) → ∀ p, ps[a]? = some p → ∃ t, b' ++ ps[a + c] = p ++ t := by
      intro b' h1 h2 p hpa
      by_cases h : c = 0
      · subst h
        obtain ⟨h3, h4⟩ := List.getElem?_eq_some_iff.1 hpa
        exact ⟨[], by rw [h1 rfl, ← h4]; simp⟩
      · obtain ⟨t, ht⟩ := hp h p hpa
        obtain ⟨t', ht'⟩ := h2 h
        exact ⟨t ++ t' ++ ps[a + c], by rw [ht', ht]; simp⟩
    conv => whnf
    repeat' ((first | (refine GET.at (row := strRow (ps[a + c]'(by omega))) (by rw [List.getElem?_map, show a + (c : Int).toNat = a + c by omega, List.getElem?_eq_getElem (by omega)]; rfl) ?_; conv => whnf) | refine AU ?_ | ((with_reducible refine IF.mk (fun h => ?_) (fun h => ?_)) <;> (try simp (disch := omega) only [hsB, hsC, lnB, wrap64, wrap32, simprocAttr] at h) <;> try (exfalso; omega))) <;> conv => whnf)
    · refine ⟨(c + 1, b ++ [45] ++ ps[a + c]), ⟨by simp only; omega, ?_, fun _ => key _ (fun h1 => by omega) (fun _ => ⟨[45], rfl⟩), by simp⟩, by simp only; omega, ?_⟩
      · simp only [List.length_append, List.length_cons, List.length_nil]
        rw [show a + (c + 1) = a + c + 1 by omega, hs1]; omega
      · dsimp only
        have e : (b ++ [45] ++ ps[a + c]).length = b.length + 1 + ps[a + c].length := by simp; omega
        rw [e]
        conv => whnf
        (refine GOES.keeping h0 [4] rfl rfl rfl (by first | rfl | (simp only [belowO, belowH, plainLL_below _ (plainBytes _), Bool.and_self, Bool.and_true] <;> rfl)) ?_ ?_ <;> (repeat' (first | (with_reducible rfl) | (exact rows_eq (plainBytes _) (renLL_plain _ (plainBytes _))) | (exact rows_eq (plainBytes _) (by simp [Sx.bytesRow, ofVal, List.take_of_length_le])) | (exact sl_eq rfl (by first | (simp; done) | omega | (simp; omega))) | (exact congrArg (SV.int _) (by first | omega | (simp (disch := omega) only [lnB, wrap64, wrap32] <;> omega) | (simp; done) | (simp <;> omega))) | ((conv => whnf); refine ⟨?_, ?_⟩) | exact trivial | (simp only [ren, renB]; done) | rfl)))
    · refine ⟨(c + 1, b ++ ps[a + c]), ⟨by simp only; omega, ?_, fun _ => key _ (fun h1 => h00 h1) (fun h1 => by omega), by simp⟩, by simp only; omega, ?_⟩
      · simp only [List.length_append]
        rw [show a + (c + 1) = a + c + 1 by omega, hs1]; omega
      · dsimp only
        have e : (b ++ ps[a + c]).length = b.length + ps[a + c].length := by simp
        rw [e]
        conv => whnf
        (refine GOES.keeping h0 [2] rfl rfl rfl (by first | rfl | (simp only [belowO, belowH, plainLL_below _ (plainBytes _), Bool.and_self, Bool.and_true] <;> rfl)) ?_ ?_ <;> (repeat' (first | (with_reducible rfl) | (exact rows_eq (plainBytes _) (renLL_plain _ (plainBytes _))) | (exact rows_eq (plainBytes _) (by simp [Sx.bytesRow, ofVal, List.take_of_length_le])) | (exact sl_eq rfl (by first | (simp; done) | omega | (simp; omega))) | (exact congrArg (SV.int _) (by first | omega | (simp (disch := omega) only [lnB, wrap64, wrap32] <;> omega) | (simp; done) | (simp <;> omega))) | ((conv => whnf); refine ⟨?_, ?_⟩) | exact trivial | (simp only [ren, renB]; done) | rfl)))
  · conv => whnf
    repeat' ((first | refine AU ?_ | ((with_reducible refine IF.mk (fun h => ?_) (fun h => ?_)) <;> (try simp (disch := omega) only [hsB, hsC, lnB, wrap64, wrap32, simprocAttr] at h) <;> try (exfalso; omega))) <;> conv => whnf)
    refine NEED.mk (needText (by simp)) ?_
    conv => whnf
    refine FIN.val h0 rfl ⟨b, by omega, fun p hpa => ?_, by rw [textAll], rfl, rfl⟩
    have := (List.getElem?_eq_some_iff.1 hpa).1
    exact hp (by omega) p hpa
end Go.Proofs.YtjbbkimodgffiaaGreatDoor
/- The reference's tags: the reader, walked. Conditions: none. -/
set_option linter.unusedVariables false
set_option linter.unusedSimpArgs false
set_option maxRecDepth 20000
set_option maxHeartbeats 8000000
namespace Go.Proofs.YtjbbkimodgffiaaGreatDoor
open Go.Sx Go.Our
def rd6 (i m : Nat) : Hp := .box [.sl (.loc 1) i 1 m none]
def tg6 (L E S R : List UInt8) (jv v jx x : Nat) (P : List UInt8) : Hp := .box [.str L, .str E, .str S, .str R, .sl (.loc jv) 0 1 v none, .sl (.loc jx) 0 1 x none, .str P]
theorem more_does (least most : Int) (digits : Bool) (ps : List (List UInt8)) (hsm : ∀ s ∈ ps, Sm s) (i m : Nat) (him : i + m = ps.length) :
    Does Tryz.prog tab 162 2 [.ptr (.loc 0) 0 0 0, .int .i64 least, .int .i64 most, .bool digits] [] [(0, rd6 i m), (1, .rows 1 (ps.map strRow))] (ValK 2 (.bool (seesM (moreM least most digits) ps i))) := by
  refine Does.enter tabOK (g := 162) (fn := Tryz.f162) Tryz.call162 Tryz.func162 rfl 52 rfl rfl [.tmp 8] rfl ?_
  intro w0 F η0 h0
  conv => whnf
  rcases Nat.eq_zero_or_pos m with hm | hm
  · subst hm
    repeat' ((first | (refine GETG.mk ⟨strRow [], fun h => (by simp at h), ?_⟩; conv => whnf) | refine AU ?_ | ((with_reducible refine IF.mk (fun h => ?_) (fun h => ?_)) <;> (try simp (disch := omega) only [hsB, hsC, lnB, wrap64, wrap32, simprocAttr] at h) <;> try (exfalso; omega))) <;> conv => whnf)
    all_goals first
      | (refine FIN.valueK h0 rfl (congrArg SV.bool ?_)
         unfold seesM; rw [List.getElem?_eq_none (by omega)])
      | (exfalso; simp_all; done)
  · have hlt : i < ps.length := by omega
    have hse : seesM (moreM least most digits) ps i = moreM least most digits ps[i] := by unfold seesM; rw [List.getElem?_eq_getElem hlt]
    have hs := hsm _ (List.getElem_mem hlt)
    repeat' ((first | (refine GET.at (row := strRow (ps[i]'(by omega))) (by rw [List.getElem?_map, show i + (0 : Int).toNat = i by simp, List.getElem?_eq_getElem (by omega)]; rfl) ?_; conv => whnf) | (refine GETG.at (row := strRow (ps[i]'(by omega))) (by rw [List.getElem?_map, show i + (0 : Int).toNat = i by simp, List.getElem?_eq_getElem (by omega)]; rfl) ?_; conv => whnf) | refine CALL.value (r6letters_does _ hs) rfl rfl ?_ | refine CALL.value (r6numerals_does _ hs) rfl rfl ?_ | refine AU ?_ | ((with_reducible refine IF.mk (fun h => ?_) (fun h => ?_)) <;> (try simp (disch := omega) only [hsB, hsC, lnB, wrap64, wrap32, simprocAttr] at h) <;> try (exfalso; omega))) <;> conv => whnf)
    all_goals
      refine FIN.valueK h0 rfl (congrArg SV.bool ?_)
      rw [hse]; unfold moreM
    · rw [show decide (least ≤ (ps[i].length : Int) ∧ (ps[i].length : Int) ≤ most) = false from decide_eq_false (by omega)]; rfl
    · rw [show decide (least ≤ (ps[i].length : Int) ∧ (ps[i].length : Int) ≤ most) = true from decide_eq_true (by omega)]; simp [h]
    · rw [show decide (least ≤ (ps[i].length : Int) ∧ (ps[i].length : Int) ≤ most) = true from decide_eq_true (by omega)]; simp [h]
theorem next6_does (ps : List (List UInt8)) (i m : Nat) (him : i + (m + 1) = ps.length) (p : List UInt8) (hp : ps[i]? = some p) :
    Does Tryz.prog tab 163 2 [.ptr (.loc 0) 0 0 0] [(0, rd6 i (m + 1))] [(1, .rows 1 (ps.map strRow))] (fun r O nx => r = .str p ∧ O = [(0, rd6 (i + 1) m)] ∧ nx = 2) := by
  refine Does.enter tabOK (g := 163) (fn := Tryz.f163) Tryz.call163 Tryz.func163 rfl 19 rfl rfl [.tmp 2] rfl ?_
  intro w0 F η0 h0
  conv => whnf
  repeat' ((first | (refine GET.at (row := strRow p) (by rw [List.getElem?_map, show i + (0 : Int).toNat = i by simp, hp]; rfl) ?_; conv => whnf) | refine AU ?_ | ((with_reducible refine IF.mk (fun h => ?_) (fun h => ?_)) <;> (try simp (disch := omega) only [hsB, hsC, lnB, wrap64, wrap32, simprocAttr] at h) <;> try (exfalso; omega))) <;> conv => whnf)
  exact FIN.here h0 (Oc := [(0, rd6 (i + 1) m)]) rfl rfl rfl ⟨rfl, trivial⟩ ⟨rfl, rfl, rfl⟩
theorem bulk_le {b : Nat} : ∀ {l : List (List UInt8)}, (∀ s ∈ l, s.length ≤ b) → bulkM l ≤ b * l.length
  | [], _ => by simp [bulkM]
  | s :: l, h => by
    have h1 := h s (by simp)
    have h2 := bulk_le (l := l) fun x hx => h x (by simp [hx])
    unfold bulkM at *
    simp only [List.map_cons, List.sum_cons, List.length_cons, Nat.mul_add]; omega
theorem more33 : moreM 3 3 false = fun s => madeM s 3 3 true := funext (more_made 3 3)
theorem language6_does (ps : List (List UInt8)) (hb : bulkM ps + ps.length ≤ 68719476736) (i m : Nat) (him : i + m = ps.length) :
    Does Tryz.prog tab 161 5 [.ptr (.loc 0) 0 0 0, .ptr (.loc 2) 0 0 0] [(0, rd6 i m), (2, tg6 [] [] [] [] 3 0 4 0 [])] [(1, .rows 1 (ps.map strRow))]
      (fun r O nx => ∃ (i' m' : Nat) (L E : List UInt8), i' + m' = ps.length ∧ r = .bool (langP (ps.drop i)).isSome ∧ (∀ l, langP (ps.drop i) = some l → l = ps.drop i' ∧ L ≠ []) ∧ O = [(0, rd6 i' m'), (2, tg6 L E [] [] 3 0 4 0 [])] ∧ nx = 5) := by
  have hsm := bulk_sm (ps := ps) (by omega)
  refine Does.enter tabOK (g := 161) (fn := Tryz.f161) Tryz.call161 Tryz.func161 rfl 41 rfl rfl [.tmp 4] rfl ?_
  intro w0 F η0 h0
  conv => whnf
  refine CALL.aA [0, 1] (more_does 2 3 false ps hsm i m him) ?_
  rintro r O' nx' ⟨rfl, rfl, rfl⟩
  conv => whnf
  refine IF.mk (fun h1 => ?_) (fun h1 => ?_)
  · obtain ⟨w, hw, hwm⟩ := sees_yes h1
    rw [more_made] at hwm
    have hwl := made_len hwm
    have hlt := (List.getElem?_eq_some_iff.1 hw).1
    obtain ⟨k, rfl⟩ : ∃ k, m = k + 1 := ⟨m - 1, by omega⟩
    have hne : w ≠ [] := by rintro rfl; simp at hwl
    have hL : langP (ps.drop i) = some (extP 3 (ps.drop (i + 1))) := by
      rw [drop_at hw]; simp only [langP]
      rw [if_pos (by rw [lang_more, more_made, hwm]; rfl), if_neg (by omega)]
    conv => whnf
    refine CALL.aA [0, 1] (next6_does ps i k him w hw) ?_
    rintro r O' nx' ⟨rfl, rfl, rfl⟩
    conv => whnf
    refine LOOP.nil 5 1 rfl ?_
    refine LOOP.go tabOK [0, 1] (X := List (List UInt8) × Nat) (fun y => y.1.length ≤ 3 ∧ (∀ s ∈ y.1, s.length ≤ 3) ∧ y.2 + (ps.length - y.2) = ps.length ∧ extP 3 (ps.drop (i + 1)) = extP (3 - y.1.length) (ps.drop y.2)) (fun y => [(5, .sl (.loc 5) 0 1 y.1.length none)]) (fun y => [(0, rd6 y.2 (ps.length - y.2)), (2, tg6 w [] [] [] 3 0 4 0 []), (5, .rows 1 (y.1.map strRow))]) 6 (fun y => 3 - y.1.length) ([], i + 1) ⟨by simp, by simp, by simp only; omega, rfl⟩ ?_
    conv => whnf
    rw [show ps.length - (i + 1) = k by omega]
    refine ⟨by (refine GOES.keeping h0 [5] rfl rfl rfl (by first | rfl | (simp only [belowO, belowH, plainLL_below _ (plainStrs _), Bool.and_self, Bool.and_true] <;> rfl)) ?_ ?_ <;> (repeat' (first | (with_reducible rfl) | (exact rows_eq (plainStrs _) (renLL_plain _ (plainStrs _))) | (exact rows_eq (plainStrs _) (by simp [strRow, ofVal, List.take_of_length_le])) | (exact sl_eq rfl (by first | (simp; done) | omega | (simp; omega))) | (exact congrArg (SV.int _) (by first | omega | (simp (disch := omega) only [lnB, wrap64, wrap32] <;> omega) | (simp; done) | (simp <;> omega))) | ((conv => whnf); refine ⟨?_, ?_⟩) | exact trivial | (simp only [ren, renB]; done) | rfl))), ?_⟩
    rintro ⟨l, a⟩ ⟨hl, hls, ha, hx⟩
    dsimp only at hl hls ha hx ⊢
    have fin : seesM (fun s => madeM s 3 3 true) ps a = false ∨ l.length = 3 → extP 3 (ps.drop (i + 1)) = ps.drop a := by
      rintro (h | h)
      · rw [hx, ext_no h]
      · rw [hx, h]; rfl
    have hbl := bulk_le hls
    conv => whnf
    refine IF.mk (fun h => ?_) (fun h => ?_)
    · have h : l.length < 3 := by simp at h; omega
      conv => whnf
      repeat' ((first | refine AU ?_ | ((with_reducible refine IF.mk (fun h => ?_) (fun h => ?_)) <;> (try simp (disch := omega) only [hsB, hsC, lnB, wrap64, wrap32, simprocAttr] at h) <;> try (exfalso; omega))) <;> conv => whnf)
      refine CALL.aA [0, 1] (more_does 3 3 false ps hsm a (ps.length - a) ha) ?_
      rintro r O' nx' ⟨rfl, rfl, rfl⟩
      conv => whnf
      repeat' ((first | refine AU ?_ | ((with_reducible refine IF.mk (fun h => ?_) (fun h => ?_)) <;> (try simp (disch := omega) only [hsB, hsC, lnB, wrap64, wrap32, simprocAttr] at h) <;> try (exfalso; omega))) <;> conv => whnf)
      · obtain ⟨u, hu, hum⟩ := sees_yes h
        rw [more_made] at hum
        have hul := made_len hum
        have hlt2 := (List.getElem?_eq_some_iff.1 hu).1
        obtain ⟨k', hk'⟩ : ∃ k', ps.length - a = k' + 1 := ⟨ps.length - a - 1, by omega⟩
        rw [hk']
        refine CALL.aA [0, 1] (next6_does ps a k' (by omega) u hu) ?_
        rintro r O' nx' ⟨rfl, rfl, rfl⟩
        conv => whnf
        repeat' ((first | refine AU ?_ | ((with_reducible refine IF.mk (fun h => ?_) (fun h => ?_)) <;> (try simp (disch := omega) only [hsB, hsC, lnB, wrap64, wrap32, simprocAttr] at h) <;> try (exfalso; omega))) <;> conv => whnf)
        refine ⟨(l ++ [u], a + 1), ⟨by simp; omega, ?_, by simp only; omega, ?_⟩, by simp; omega, ?_⟩
        · intro x hx'
          rcases List.mem_append.1 hx' with h | h
          · exact hls x h
          · rw [List.mem_singleton.1 h]; omega
        · dsimp only
          rw [hx, drop_at hu, show 3 - l.length = (3 - (l ++ [u]).length) + 1 by simp; omega]
          simp only [extP]; rw [if_pos hum]
        · dsimp only
          rw [show ps.length - (a + 1) = k' by omega, show (l ++ [u]).length = l.length + 1 by simp]
          conv => whnf
          (refine GOES.keeping h0 [7] rfl rfl rfl (by first | rfl | (simp only [belowO, belowH, plainLL_below _ (plainStrs _), Bool.and_self, Bool.and_true] <;> rfl)) ?_ ?_ <;> (repeat' (first | (with_reducible rfl) | (exact rows_eq (plainStrs _) (renLL_plain _ (plainStrs _))) | (exact rows_eq (plainStrs _) (by simp [strRow, ofVal, List.take_of_length_le])) | (exact sl_eq rfl (by first | (simp; done) | omega | (simp; omega))) | (exact congrArg (SV.int _) (by first | omega | (simp (disch := omega) only [lnB, wrap64, wrap32] <;> omega) | (simp; done) | (simp <;> omega))) | ((conv => whnf); refine ⟨?_, ?_⟩) | exact trivial | (simp only [ren, renB]; done) | rfl)))
      · rw [more33] at h
        refine CALL.aA [5] (r6joined_does l (by omega) 0 l.length (by omega)) ?_
        rintro r O' nx' ⟨E, hE, _, rfl, rfl, rfl⟩
        conv => whnf
        exact FIN.here h0 (Oc := [(0, rd6 (a) (ps.length - a)), (2, tg6 (w) (E) [] [] 3 0 4 0 [])]) rfl rfl rfl ⟨rfl, rfl, trivial⟩ ⟨a, ps.length - a, w, E, by omega, by rw [hL]; rfl, by rw [hL]; rintro x ⟨⟩; exact ⟨fin (.inl h), hne⟩, rfl, rfl⟩
    · have h : l.length = 3 := by simp at h; omega
      conv => whnf
      repeat' ((first | refine AU ?_ | ((with_reducible refine IF.mk (fun h => ?_) (fun h => ?_)) <;> (try simp (disch := omega) only [hsB, hsC, lnB, wrap64, wrap32, simprocAttr] at h) <;> try (exfalso; omega))) <;> conv => whnf)
      refine CALL.aA [5] (r6joined_does l (by omega) 0 l.length (by omega)) ?_
      rintro r O' nx' ⟨E, hE, _, rfl, rfl, rfl⟩
      conv => whnf
      exact FIN.here h0 (Oc := [(0, rd6 (a) (ps.length - a)), (2, tg6 (w) (E) [] [] 3 0 4 0 [])]) rfl rfl rfl ⟨rfl, rfl, trivial⟩ ⟨a, ps.length - a, w, E, by omega, by rw [hL]; rfl, by rw [hL]; rintro x ⟨⟩; exact ⟨fin (.inr h), hne⟩, rfl, rfl⟩
  · conv => whnf
    refine CALL.aA [0, 1] (more_does 4 8 false ps hsm i m him) ?_
    rintro r O' nx' ⟨rfl, rfl, rfl⟩
    conv => whnf
    refine IF.mk (fun h2 => ?_) (fun h2 => ?_)
    · obtain ⟨w, hw, hwm⟩ := sees_yes h2
      have hwm' := hwm
      rw [more_made] at hwm
      have hwl := made_len hwm
      have hlt := (List.getElem?_eq_some_iff.1 hw).1
      obtain ⟨k, rfl⟩ : ∃ k, m = k + 1 := ⟨m - 1, by omega⟩
      have hne : w ≠ [] := by rintro rfl; simp at hwl
      have hL : langP (ps.drop i) = some (ps.drop (i + 1)) := by
        rw [drop_at hw]; simp only [langP]
        rw [if_pos (by rw [lang_more, hwm', Bool.or_true]), if_pos (by omega)]
      conv => whnf
      refine CALL.aA [0, 1] (next6_does ps i k him w hw) ?_
      rintro r O' nx' ⟨rfl, rfl, rfl⟩
      conv => whnf
      exact FIN.here h0 (Oc := [(0, rd6 (i + 1) (k)), (2, tg6 (w) ([]) [] [] 3 0 4 0 [])]) rfl rfl rfl ⟨rfl, rfl, trivial⟩ ⟨i + 1, k, w, [], by omega, by rw [hL]; rfl, by rw [hL]; rintro x ⟨⟩; exact ⟨rfl, hne⟩, rfl, rfl⟩
    · have hL : langP (ps.drop i) = none := by
        rcases sees_no h1 with h | ⟨s, hs, h3, h4⟩
        · rw [h]; rfl
        · rcases sees_no h2 with h | ⟨s', hs', h5, h6⟩
          · rw [h] at h3; cases h3
          · rw [hs] at hs'; cases hs'
            rw [h3]; simp only [langP]; rw [if_neg (by rw [lang_more, h4, h6]; simp)]
      conv => whnf
      exact FIN.here h0 (Oc := [(0, rd6 (i) (m)), (2, tg6 ([]) ([]) [] [] 3 0 4 0 [])]) rfl rfl rfl ⟨rfl, rfl, trivial⟩ ⟨i, m, [], [], by omega, by rw [hL]; rfl, by simp [hL], rfl, rfl⟩
end Go.Proofs.YtjbbkimodgffiaaGreatDoor
