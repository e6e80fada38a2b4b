/- Part 15: Infer2, LawDraws, RDraws, RClose. Conditions: as each part says. -/
import Derived.Test.YtjbbkimodgffiaaGreatDoorInG13
import Derived.Test.YtjbbkimodgffiaaGreatDoorInG14
set_option linter.unusedVariables false
set_option linter.unusedSimpArgs false
set_option maxRecDepth 20000
set_option maxHeartbeats 8000000
namespace Go.Proofs.YtjbbkimodgffiaaGreatDoor
open Go.Sx Go.Our
def VF : Plan := (.take 0 1 (.take 1 1 (.take 2 2 (.take 3 2 (.take 4 2 (.fork 5 3 9 3 (Zl [(6, 1), (7, 1), (8, 1), (9, 3), (10, 0), (11, 1)]) (Zl [(5, 3), (6, 1), (7, 1), (8, 1), (10, 0), (11, 1)])))))))
theorem Zz (q : Qd) (hq : QdSm q) : Does Tryz.prog tab 66 0 [q.sv] [] [] (Val (.bool (decide (Zs q = 0)))) := by
 have h1 := Uz q hq
 unfold Qd.sv at h1 ⊢
 refine Does.enter Z2 (g := 66) (fn := Tryz.f66) Tryz.call66 Tryz.func66 rfl 6 rfl rfl [.tmp 2] rfl ?_
 intro w0 F η0 h0
 conv => whnf
 repeat' ((first | refine CALL.value (h1) rfl rfl ?_ | refine AU ?_ | (refine IW (fun h => ?_) (fun h => ?_) <;> try (exfalso; omega))) <;> conv => whnf)
 exact FIN.value h0 rfl rfl
set_option maxHeartbeats 4000000 in
theorem Z9L (a b : Qd) (ha : QdSm a) (hb : QdSm b) : Does Tryz.prog tab 37 0 [.int .i64 2, a.sv, b.sv] [] [] (Val (.tup [(Zj 2 a b).1.sv, .bool (Zj 2 a b).2])) := by
 have hd : QdSm (dr2 a b).1 := XY (n := 2) ha hb
 have hf := Zz (dr2 a b).1 hd
 unfold Qd.sv
 refine Does.enter Z2 (g := 37) (fn := Tryz.f37) Tryz.call37 Tryz.func37 rfl 60 rfl rfl [.cell 6 30, .tmp 7] rfl ?_
 intro w0 F η0 h0
 conv => whnf
 refine CALL.aA [] (Y6) ?_
 rintro r O' nx' ⟨rfl, rfl, rfl⟩
 conv => whnf
 refine NEED.mk ⟨rfl, rfl, rfl, rfl, rfl⟩ ?_
 conv => whnf
 repeat' ((first | refine DRAWN.of (id := 4) Z2 mixed VF (by kernel_rfl) ?_ | refine ADD.mk (fun _ _ => ?_) | refine AD ?_ | refine FORK.mk ?_ ?_ | refine CALL.value (Zz a ha) rfl rfl ?_ | refine CALL.value (Zz b hb) rfl rfl ?_ | refine CALL.value (Z9H a b) rfl rfl ?_ | refine CALL.value (hf) rfl rfl ?_ | refine AU ?_ | (refine IW (fun h => ?_) (fun h => ?_) <;> try (exfalso; omega))) <;> conv => whnf)
 all_goals
   clear hf hd ha hb
   refine FIN.value h0 rfl ?_
   first
     | (rw [Xx (by show ¬(Zs a = 0 ∧ Zs b = 0 ∧ a.g = b.g ∧ (dr2 a b).2 = true ∧ Zs (dr2 a b).1 = 0); simp_all [XT]; done)]; rfl)
     | (rw [U2 (by show Zs a = 0 ∧ Zs b = 0 ∧ a.g = b.g ∧ (dr2 a b).2 = true ∧ Zs (dr2 a b).1 = 0; simp_all [XT]; done)]; rfl)
     | trace_state
set_option maxHeartbeats 4000000 in
theorem Z9M (a b : Qd) (ha : QdSm a) (hb : QdSm b) : Does Tryz.prog tab 37 0 [.int .i64 3, a.sv, b.sv] [] [] (Val (.tup [(Zj 3 a b).1.sv, .bool (Zj 3 a b).2])) := by
 have hd : QdSm (dr3 a b).1 := XY (n := 3) ha hb
 have hf := Zz (dr3 a b).1 hd
 unfold Qd.sv
 refine Does.enter Z2 (g := 37) (fn := Tryz.f37) Tryz.call37 Tryz.func37 rfl 60 rfl rfl [.cell 6 30, .tmp 7] rfl ?_
 intro w0 F η0 h0
 conv => whnf
 refine CALL.aA [] (Y6) ?_
 rintro r O' nx' ⟨rfl, rfl, rfl⟩
 conv => whnf
 refine NEED.mk ⟨rfl, rfl, rfl, rfl, rfl⟩ ?_
 conv => whnf
 repeat' ((first | refine DRAWN.of (id := 4) Z2 mixed VF (by kernel_rfl) ?_ | refine ADD.mk (fun _ _ => ?_) | refine AD ?_ | refine FORK.mk ?_ ?_ | refine CALL.value (Zz a ha) rfl rfl ?_ | refine CALL.value (Zz b hb) rfl rfl ?_ | refine CALL.value (Z9I a b) rfl rfl ?_ | refine CALL.value (hf) rfl rfl ?_ | refine AU ?_ | (refine IW (fun h => ?_) (fun h => ?_) <;> try (exfalso; omega))) <;> conv => whnf)
 all_goals
   clear hf hd ha hb
   refine FIN.value h0 rfl ?_
   first
     | (rw [Xx (by show ¬(Zs a = 0 ∧ Zs b = 0 ∧ a.g = b.g ∧ (dr3 a b).2 = true ∧ Zs (dr3 a b).1 = 0); simp_all [XT]; done)]; rfl)
     | (rw [U2 (by show Zs a = 0 ∧ Zs b = 0 ∧ a.g = b.g ∧ (dr3 a b).2 = true ∧ Zs (dr3 a b).1 = 0; simp_all [XT]; done)]; rfl)
     | trace_state
set_option maxHeartbeats 4000000 in
theorem Z9N (a b : Qd) (ha : QdSm a) (hb : QdSm b) : Does Tryz.prog tab 37 0 [.int .i64 5, a.sv, b.sv] [] [] (Val (.tup [(Zj 5 a b).1.sv, .bool (Zj 5 a b).2])) := by
 have hd : QdSm (chn subP a b).1 := XY (n := 5) ha hb
 have hf := Zz (chn subP a b).1 hd
 unfold Qd.sv
 refine Does.enter Z2 (g := 37) (fn := Tryz.f37) Tryz.call37 Tryz.func37 rfl 60 rfl rfl [.cell 6 30, .tmp 7] rfl ?_
 intro w0 F η0 h0
 conv => whnf
 refine CALL.aA [] (Y6) ?_
 rintro r O' nx' ⟨rfl, rfl, rfl⟩
 conv => whnf
 refine NEED.mk ⟨rfl, rfl, rfl, rfl, rfl⟩ ?_
 conv => whnf
 repeat' ((first | refine DRAWN.of (id := 4) Z2 mixed VF (by kernel_rfl) ?_ | refine ADD.mk (fun _ _ => ?_) | refine AD ?_ | refine FORK.mk ?_ ?_ | refine CALL.value (Zz a ha) rfl rfl ?_ | refine CALL.value (Zz b hb) rfl rfl ?_ | (refine CALL.looks [3] (Z33 subP a b) rfl rfl rfl rfl ⟨⟨rfl, rfl, rfl⟩, trivial⟩ ?_; conv => whnf) | refine CALL.value (hf) rfl rfl ?_ | refine AU ?_ | (refine IW (fun h => ?_) (fun h => ?_) <;> try (exfalso; omega))) <;> conv => whnf)
 all_goals
   clear hf hd ha hb
   refine FIN.value h0 rfl ?_
   first
     | (rw [Xx (by show ¬(Zs a = 0 ∧ Zs b = 0 ∧ a.g = b.g ∧ (chn subP a b).2 = true ∧ Zs (chn subP a b).1 = 0); simp_all [XT]; done)]; rfl)
     | (rw [U2 (by show Zs a = 0 ∧ Zs b = 0 ∧ a.g = b.g ∧ (chn subP a b).2 = true ∧ Zs (chn subP a b).1 = 0; simp_all [XT]; done)]; rfl)
     | trace_state
set_option maxHeartbeats 4000000 in
theorem Z9O (a b : Qd) (ha : QdSm a) (hb : QdSm b) : Does Tryz.prog tab 37 0 [.int .i64 7, a.sv, b.sv] [] [] (Val (.tup [(Zj 7 a b).1.sv, .bool (Zj 7 a b).2])) := by
 have hd : QdSm (dr7 a b).1 := XY (n := 7) ha hb
 have hf := Zz (dr7 a b).1 hd
 unfold Qd.sv
 refine Does.enter Z2 (g := 37) (fn := Tryz.f37) Tryz.call37 Tryz.func37 rfl 60 rfl rfl [.cell 6 30, .tmp 7] rfl ?_
 intro w0 F η0 h0
 conv => whnf
 refine CALL.aA [] (Y6) ?_
 rintro r O' nx' ⟨rfl, rfl, rfl⟩
 conv => whnf
 refine NEED.mk ⟨rfl, rfl, rfl, rfl, rfl⟩ ?_
 conv => whnf
 repeat' ((first | refine DRAWN.of (id := 4) Z2 mixed VF (by kernel_rfl) ?_ | refine ADD.mk (fun _ _ => ?_) | refine AD ?_ | refine FORK.mk ?_ ?_ | refine CALL.value (Zz a ha) rfl rfl ?_ | refine CALL.value (Zz b hb) rfl rfl ?_ | refine CALL.value (Z9J a b) rfl rfl ?_ | refine CALL.value (hf) rfl rfl ?_ | refine AU ?_ | (refine IW (fun h => ?_) (fun h => ?_) <;> try (exfalso; omega))) <;> conv => whnf)
 all_goals
   clear hf hd ha hb
   refine FIN.value h0 rfl ?_
   first
     | (rw [Xx (by show ¬(Zs a = 0 ∧ Zs b = 0 ∧ a.g = b.g ∧ (dr7 a b).2 = true ∧ Zs (dr7 a b).1 = 0); simp_all [XT]; done)]; rfl)
     | (rw [U2 (by show Zs a = 0 ∧ Zs b = 0 ∧ a.g = b.g ∧ (dr7 a b).2 = true ∧ Zs (dr7 a b).1 = 0; simp_all [XT]; done)]; rfl)
     | trace_state
set_option maxHeartbeats 4000000 in
theorem Z9P (a b : Qd) (ha : QdSm a) (hb : QdSm b) : Does Tryz.prog tab 37 0 [.int .i64 9, a.sv, b.sv] [] [] (Val (.tup [(Zj 9 a b).1.sv, .bool (Zj 9 a b).2])) := by
 have hd : QdSm (dr9 a b).1 := XY (n := 9) ha hb
 have hf := Zz (dr9 a b).1 hd
 unfold Qd.sv
 refine Does.enter Z2 (g := 37) (fn := Tryz.f37) Tryz.call37 Tryz.func37 rfl 60 rfl rfl [.cell 6 30, .tmp 7] rfl ?_
 intro w0 F η0 h0
 conv => whnf
 refine CALL.aA [] (Y6) ?_
 rintro r O' nx' ⟨rfl, rfl, rfl⟩
 conv => whnf
 refine NEED.mk ⟨rfl, rfl, rfl, rfl, rfl⟩ ?_
 conv => whnf
 repeat' ((first | refine DRAWN.of (id := 4) Z2 mixed VF (by kernel_rfl) ?_ | refine ADD.mk (fun _ _ => ?_) | refine AD ?_ | refine FORK.mk ?_ ?_ | refine CALL.value (Zz a ha) rfl rfl ?_ | refine CALL.value (Zz b hb) rfl rfl ?_ | refine CALL.value (Z9K a b) rfl rfl ?_ | refine CALL.value (hf) rfl rfl ?_ | refine AU ?_ | (refine IW (fun h => ?_) (fun h => ?_) <;> try (exfalso; omega))) <;> conv => whnf)
 all_goals
   clear hf hd ha hb
   refine FIN.value h0 rfl ?_
   first
     | (rw [Xx (by show ¬(Zs a = 0 ∧ Zs b = 0 ∧ a.g = b.g ∧ (dr9 a b).2 = true ∧ Zs (dr9 a b).1 = 0); simp_all [XT]; done)]; rfl)
     | (rw [U2 (by show Zs a = 0 ∧ Zs b = 0 ∧ a.g = b.g ∧ (dr9 a b).2 = true ∧ Zs (dr9 a b).1 = 0; simp_all [XT]; done)]; rfl)
     | trace_state
set_option maxHeartbeats 4000000 in
theorem Z7P (a b : Qd) (ha : QdSm a) (hb : QdSm b) : Does Tryz.prog tab 37 0 [.int .i64 11, a.sv, b.sv] [] [] (Val (.tup [(Zj 11 a b).1.sv, .bool (Zj 11 a b).2])) := by
 have hd : QdSm (chn subC a b).1 := XY (n := 11) ha hb
 have hf := Zz (chn subC a b).1 hd
 unfold Qd.sv
 refine Does.enter Z2 (g := 37) (fn := Tryz.f37) Tryz.call37 Tryz.func37 rfl 60 rfl rfl [.cell 6 30, .tmp 7] rfl ?_
 intro w0 F η0 h0
 conv => whnf
 refine CALL.aA [] (Y6) ?_
 rintro r O' nx' ⟨rfl, rfl, rfl⟩
 conv => whnf
 refine NEED.mk ⟨rfl, rfl, rfl, rfl, rfl⟩ ?_
 conv => whnf
 repeat' ((first | refine DRAWN.of (id := 4) Z2 mixed VF (by kernel_rfl) ?_ | refine ADD.mk (fun _ _ => ?_) | refine AD ?_ | refine FORK.mk ?_ ?_ | refine CALL.value (Zz a ha) rfl rfl ?_ | refine CALL.value (Zz b hb) rfl rfl ?_ | (refine CALL.looks [4] (Z33 subC a b) rfl rfl rfl rfl ⟨⟨rfl, rfl, rfl⟩, trivial⟩ ?_; conv => whnf) | refine CALL.value (hf) rfl rfl ?_ | refine AU ?_ | (refine IW (fun h => ?_) (fun h => ?_) <;> try (exfalso; omega))) <;> conv => whnf)
 all_goals
   clear hf hd ha hb
   refine FIN.value h0 rfl ?_
   first
     | (rw [Xx (by show ¬(Zs a = 0 ∧ Zs b = 0 ∧ a.g = b.g ∧ (chn subC a b).2 = true ∧ Zs (chn subC a b).1 = 0); simp_all [XT]; done)]; rfl)
     | (rw [U2 (by show Zs a = 0 ∧ Zs b = 0 ∧ a.g = b.g ∧ (chn subC a b).2 = true ∧ Zs (chn subC a b).1 = 0; simp_all [XT]; done)]; rfl)
     | trace_state
theorem Z9Q (a b : Qd) : Does Tryz.prog tab 37 0 [.int .i64 0, a.sv, b.sv] [] [] (Val (.tup [(Zj 0 a b).1.sv, .bool (Zj 0 a b).2])) := by
 have hn : Zj 0 a b = (ZL, false) := Xx (by rw [Yy (by omega)]; simp)
 unfold Qd.sv
 refine Does.enter Z2 (g := 37) (fn := Tryz.f37) Tryz.call37 Tryz.func37 rfl 60 rfl rfl [.cell 6 30, .tmp 7] rfl ?_
 intro w0 F η0 h0
 conv => whnf
 refine CALL.aA [] (Y6) ?_
 rintro r O' nx' ⟨rfl, rfl, rfl⟩
 conv => whnf
 refine NEED.mk ⟨rfl, rfl, rfl, rfl, rfl⟩ ?_
 conv => whnf
 repeat' ((first | refine AU ?_ | (refine IW (fun h => ?_) (fun h => ?_) <;> try (exfalso; omega))) <;> conv => whnf)
 all_goals
   refine FIN.value h0 rfl ?_
   rw [hn]; rfl
theorem Z9R (a b : Qd) : Does Tryz.prog tab 37 0 [.int .i64 1, a.sv, b.sv] [] [] (Val (.tup [(Zj 1 a b).1.sv, .bool (Zj 1 a b).2])) := by
 have hn : Zj 1 a b = (ZL, false) := Xx (by rw [Yy (by omega)]; simp)
 unfold Qd.sv
 refine Does.enter Z2 (g := 37) (fn := Tryz.f37) Tryz.call37 Tryz.func37 rfl 60 rfl rfl [.cell 6 30, .tmp 7] rfl ?_
 intro w0 F η0 h0
 conv => whnf
 refine CALL.aA [] (Y6) ?_
 rintro r O' nx' ⟨rfl, rfl, rfl⟩
 conv => whnf
 refine NEED.mk ⟨rfl, rfl, rfl, rfl, rfl⟩ ?_
 conv => whnf
 repeat' ((first | refine AU ?_ | (refine IW (fun h => ?_) (fun h => ?_) <;> try (exfalso; omega))) <;> conv => whnf)
 all_goals
   refine FIN.value h0 rfl ?_
   rw [hn]; rfl
theorem Z9S (a b : Qd) : Does Tryz.prog tab 37 0 [.int .i64 4, a.sv, b.sv] [] [] (Val (.tup [(Zj 4 a b).1.sv, .bool (Zj 4 a b).2])) := by
 have hn : Zj 4 a b = (ZL, false) := Xx (by rw [Yy (by omega)]; simp)
 unfold Qd.sv
 refine Does.enter Z2 (g := 37) (fn := Tryz.f37) Tryz.call37 Tryz.func37 rfl 60 rfl rfl [.cell 6 30, .tmp 7] rfl ?_
 intro w0 F η0 h0
 conv => whnf
 refine CALL.aA [] (Y6) ?_
 rintro r O' nx' ⟨rfl, rfl, rfl⟩
 conv => whnf
 refine NEED.mk ⟨rfl, rfl, rfl, rfl, rfl⟩ ?_
 conv => whnf
 repeat' ((first | refine AU ?_ | (refine IW (fun h => ?_) (fun h => ?_) <;> try (exfalso; omega))) <;> conv => whnf)
 all_goals
   refine FIN.value h0 rfl ?_
   rw [hn]; rfl
theorem Z9T (a b : Qd) : Does Tryz.prog tab 37 0 [.int .i64 6, a.sv, b.sv] [] [] (Val (.tup [(Zj 6 a b).1.sv, .bool (Zj 6 a b).2])) := by
 have hn : Zj 6 a b = (ZL, false) := Xx (by rw [Yy (by omega)]; simp)
 unfold Qd.sv
 refine Does.enter Z2 (g := 37) (fn := Tryz.f37) Tryz.call37 Tryz.func37 rfl 60 rfl rfl [.cell 6 30, .tmp 7] rfl ?_
 intro w0 F η0 h0
 conv => whnf
 refine CALL.aA [] (Y6) ?_
 rintro r O' nx' ⟨rfl, rfl, rfl⟩
 conv => whnf
 refine NEED.mk ⟨rfl, rfl, rfl, rfl, rfl⟩ ?_
 conv => whnf
 repeat' ((first | refine AU ?_ | (refine IW (fun h => ?_) (fun h => ?_) <;> try (exfalso; omega))) <;> conv => whnf)
 all_goals
   refine FIN.value h0 rfl ?_
   rw [hn]; rfl
theorem Z9U (a b : Qd) : Does Tryz.prog tab 37 0 [.int .i64 8, a.sv, b.sv] [] [] (Val (.tup [(Zj 8 a b).1.sv, .bool (Zj 8 a b).2])) := by
 have hn : Zj 8 a b = (ZL, false) := Xx (by rw [Yy (by omega)]; simp)
 unfold Qd.sv
 refine Does.enter Z2 (g := 37) (fn := Tryz.f37) Tryz.call37 Tryz.func37 rfl 60 rfl rfl [.cell 6 30, .tmp 7] rfl ?_
 intro w0 F η0 h0
 conv => whnf
 refine CALL.aA [] (Y6) ?_
 rintro r O' nx' ⟨rfl, rfl, rfl⟩
 conv => whnf
 refine NEED.mk ⟨rfl, rfl, rfl, rfl, rfl⟩ ?_
 conv => whnf
 repeat' ((first | refine AU ?_ | (refine IW (fun h => ?_) (fun h => ?_) <;> try (exfalso; omega))) <;> conv => whnf)
 all_goals
   refine FIN.value h0 rfl ?_
   rw [hn]; rfl
theorem Z7Q (a b : Qd) : Does Tryz.prog tab 37 0 [.int .i64 10, a.sv, b.sv] [] [] (Val (.tup [(Zj 10 a b).1.sv, .bool (Zj 10 a b).2])) := by
 have hn : Zj 10 a b = (ZL, false) := Xx (by rw [Yy (by omega)]; simp)
 unfold Qd.sv
 refine Does.enter Z2 (g := 37) (fn := Tryz.f37) Tryz.call37 Tryz.func37 rfl 60 rfl rfl [.cell 6 30, .tmp 7] rfl ?_
 intro w0 F η0 h0
 conv => whnf
 refine CALL.aA [] (Y6) ?_
 rintro r O' nx' ⟨rfl, rfl, rfl⟩
 conv => whnf
 refine NEED.mk ⟨rfl, rfl, rfl, rfl, rfl⟩ ?_
 conv => whnf
 repeat' ((first | refine AU ?_ | (refine IW (fun h => ?_) (fun h => ?_) <;> try (exfalso; omega))) <;> conv => whnf)
 all_goals
   refine FIN.value h0 rfl ?_
   rw [hn]; rfl
theorem Z9V (n : Int) (hx : n < 0 ∨ 12 ≤ n) (a b : Qd) : Does Tryz.prog tab 37 0 [.int .i64 n, a.sv, b.sv] [] [] (Val (.tup [(Zj n a b).1.sv, .bool (Zj n a b).2])) := by
 have hn : Zj n a b = (ZL, false) := Xx (by rw [Yy (by omega)]; simp)
 unfold Qd.sv
 refine Does.enter Z2 (g := 37) (fn := Tryz.f37) Tryz.call37 Tryz.func37 rfl 60 rfl rfl [.cell 6 30, .tmp 7] rfl ?_
 intro w0 F η0 h0
 conv => whnf
 refine CALL.aA [] (Y6) ?_
 rintro r O' nx' ⟨rfl, rfl, rfl⟩
 conv => whnf
 refine NEED.mk ⟨rfl, rfl, rfl, rfl, rfl⟩ ?_
 conv => whnf
 repeat' ((first | refine AU ?_ | (refine IW (fun h => ?_) (fun h => ?_) <;> try (exfalso; omega))) <;> conv => whnf)
 all_goals first
   | (refine FIN.value h0 rfl ?_; rw [hn]; rfl)
   | (exfalso; omega)
   | trace_state
theorem Z0c (n : Int) (a b : Qd) (ha : QdSm a) (hb : QdSm b) : Does Tryz.prog tab 37 0 [.int .i64 n, a.sv, b.sv] [] [] (Val (.tup [(Zj n a b).1.sv, .bool (Zj n a b).2])) := by
 by_cases hx : n < 0 ∨ 12 ≤ n
 · exact Z9V n hx a b
 · have : n = 0 ∨ n = 1 ∨ n = 2 ∨ n = 3 ∨ n = 4 ∨ n = 5 ∨ n = 6 ∨ n = 7 ∨ n = 8 ∨ n = 9 ∨ n = 10 ∨ n = 11 := by omega
   rcases this with rfl | rfl | rfl | rfl | rfl | rfl | rfl | rfl | rfl | rfl | rfl | rfl
   · exact Z9Q a b
   · exact Z9R a b
   · exact Z9L a b ha hb
   · exact Z9M a b ha hb
   · exact Z9S a b
   · exact Z9N a b ha hb
   · exact Z9T a b
   · exact Z9O a b ha hb
   · exact Z9U a b
   · exact Z9P a b ha hb
   · exact Z7Q a b
   · exact Z7P a b ha hb
end Go.Proofs.YtjbbkimodgffiaaGreatDoor
namespace Go.Proofs.YtjbbkimodgffiaaGreatDoor
open Go.Sx Go.Our
set_option maxHeartbeats 4000000 in
theorem Z9W (n : Int) (a b : Qd) (ha : QdSm a) (hb : QdSm b) : Does Tryz.prog tab 39 0 [.int .i64 n, a.sv, b.sv] [] [] (Val (.tup [(Zj n a b).1.sv, .bool (Zj n a b).2])) := by
 have h1 := XA a ha
 have h2 := XA b hb
 have h3 := Z7R n a b
 have h4 := XA (Zw n a b).1 (XY ha hb)
 unfold Qd.sv at h1 h2 h3 h4 ⊢
 refine Does.enter Z2 (g := 39) (fn := Tryz.f39) Tryz.call39 Tryz.func39 rfl 42 rfl rfl [.cell 6 30, .tmp 7] rfl ?_
 intro w0 F η0 h0
 conv => whnf
 repeat' ((first | refine ADD.mk (fun _ _ => ?_) | refine AD ?_ | refine FORK.mk ?_ ?_ | refine CALL.value (h1) rfl rfl ?_ | refine CALL.value (h2) rfl rfl ?_ | refine CALL.value (h3) rfl rfl ?_ | refine CALL.value (h4) rfl rfl ?_ | refine AU ?_ | (refine IW (fun h => ?_) (fun h => ?_) <;> try (exfalso; omega))) <;> conv => whnf)
 all_goals
   clear h1 h2 h3 h4 ha hb
   refine FIN.value h0 rfl ?_
   first
     | (rw [Xx (by simp_all [XT]; done)]; rfl)
     | (rw [U2 (by simp_all [XT]; done)])
     | trace_state
def ZbP : Plan := (Zl [(0, 1), (1, 2), (2, 3), (3, 1), (4, 1), (5, 1), (6, 2), (7, 3), (8, 1), (9, 1), (10, 1), (11, 1), (12, 2), (13, 3), (14, 1), (15, 1), (16, 1), (17, 1), (18, 2), (19, 3), (20, 1), (21, 1), (22, 1)])
def Z6X : Plan := (.take 0 1 (.take 1 1 (.take 3 1 (.take 4 1 (.take 5 1 (.take 7 1 (.take 8 1 (.take 9 1 (.take 2 2 (.take 6 2 (.take 10 2 (.fork 11 3 15 3 (Zl [(12, 1), (13, 1), (14, 1), (15, 3), (16, 0), (17, 1)]) (Zl [(11, 3), (12, 1), (13, 1), (14, 1), (16, 0), (17, 1)])))))))))))))
theorem Z83 : Does Tryz.prog tab 76 0 [] [] [] (Val (.arr 1 [[.int .i64 2], [.int .i64 3], [.int .i64 5], [.int .i64 7], [.int .i64 9], [.int .i64 11]])) := by
 refine Does.enter Z2 (g := 76) (fn := Tryz.f76) Tryz.call76 Tryz.func76 rfl 2 rfl rfl [.cell 0 112] rfl ?_
 intro w0 F η0 h0
 conv => whnf
 repeat' ((first | refine AU ?_ | (refine IW (fun h => ?_) (fun h => ?_) <;> try (exfalso; omega))) <;> conv => whnf)
 exact FIN.value h0 rfl rfl
theorem Z3g (q : Qd) : Does Tryz.prog tab 77 0 [.agg (Z7 q)] [] [] (Val (.bool (Z38 q))) := by
 refine Does.enter Z2 (g := 77) (fn := Tryz.f77) Tryz.call77 Tryz.func77 rfl 25 rfl rfl [.tmp 2] rfl ?_
 intro w0 F η0 h0
 conv => whnf
 repeat' ((first | refine DRAWN.of (id := 1) Z2 mixed ZbP (by kernel_rfl) ?_ | refine ADD.mk (fun _ _ => ?_) | refine AD ?_ | refine FORK.mk ?_ ?_ | refine CALL.value (Jc [100, 111, 109, 97, 105, 110] (by simp)) rfl rfl ?_ | refine CALL.value (Jc [114, 97, 110, 103, 101] (by simp)) rfl rfl ?_ | refine CALL.value (Jc [115, 117, 98, 80, 114, 111, 112, 101, 114, 116, 121, 79, 102] (by simp)) rfl rfl ?_ | refine CALL.value (Jc [115, 117, 98, 67, 108, 97, 115, 115, 79, 102] (by simp)) rfl rfl ?_ | refine AU ?_ | (refine IW (fun h => ?_) (fun h => ?_) <;> try (exfalso; omega))) <;> conv => whnf)
 all_goals
   refine FIN.value h0 rfl (congrArg SV.bool ?_)
   rw [Bool.eq_iff_iff]
   have e1 : domB = Z7z ++ [100, 111, 109, 97, 105, 110] := rfl
   have e2 : ranB = Z7z ++ [114, 97, 110, 103, 101] := rfl
   have e3 : subP = Z7z ++ [115, 117, 98, 80, 114, 111, 112, 101, 114, 116, 121, 79, 102] := rfl
   have e4 : subC = Z7z ++ [115, 117, 98, 67, 108, 97, 115, 115, 79, 102] := rfl
   simp only [Z38, decide_eq_true_eq, XT, e1, e2, e3, e4]
   first
     | (simp_all; done)
     | (have g1 : q.p.k = 1 → q.p.t = Z7z ++ [100, 111, 109, 97, 105, 110] → q.p.y = [] → ¬ q.p.l = [] := by assumption
        have g2 : q.p.k = 1 → q.p.t = Z7z ++ [114, 97, 110, 103, 101] → q.p.y = [] → ¬ q.p.l = [] := by assumption
        constructor
        · intro hc
          exact .inr (.inr (.inr (by simpa using hc)))
        · rintro (hc | hc | hc | hc)
          · exact absurd hc.2.2.2 (g1 hc.1 hc.2.1 hc.2.2.1)
          · exact absurd hc.2.2.2 (g2 hc.1 hc.2.1 hc.2.2.1)
          · exact absurd hc.2.2.2 (h hc.1 hc.2.1 hc.2.2.1)
          · simpa using hc)
abbrev ZbQ : List (List SV) := [[.int .i64 2], [.int .i64 3], [.int .i64 5], [.int .i64 7], [.int .i64 9], [.int .i64 11]]
instance : Pl ZbQ := ⟨rfl⟩
theorem Zed {n : Nat} (h : n < 6) : ZbQ[n]? = some [.int .i64 (rulesL.getD n 0)] := by
 rcases (show n = 0 ∨ n = 1 ∨ n = 2 ∨ n = 3 ∨ n = 4 ∨ n = 5 by omega) with rfl | rfl | rfl | rfl | rfl | rfl <;> rfl
set_option maxHeartbeats 16000000 in
theorem WG (base l z : List Qd) (lim : Option Nat) (hS : ∀ q ∈ l, QdSm q) (ho : ObIn base l) (hl : l.length ≤ 1048576) (hb : base.length ≤ 65536) (hz : (l ++ z).length ≤ 1152921504606846976) : Does Tryz.prog tab 51 1 [.sl (.loc 0) 0 16 l.length lim] [] [(0, .rows 16 ((l ++ z).map Z7))]
   (fun r O nx => ∃ out, DrawsOf l out ∧ r = .sl (.loc 1) 0 16 out.length none ∧ O = [(1, .rows 16 (out.map Z7))] ∧ nx = 2) := by
 have hlen : ∀ out, DrIn l out → out.length ≤ 274877906944 := fun out h => by
   have := Z8V h ho
   have h1 : l.length * (base.length * 4) ≤ 1048576 * (65536 * 4) := Nat.mul_le_mul hl (by omega)
   omega
 refine Does.enter Z2 (g := 51) (fn := Tryz.f51) Tryz.call51 Tryz.func51 rfl 76 rfl rfl [.tmp 2] rfl ?_
 intro w0 F η0 h0
 conv => whnf
 repeat' ((first | refine CALL.value (Z83) rfl rfl ?_ | (refine NEED.mk ⟨rfl, rfl, rfl, rfl, rfl⟩ ?_; conv => whnf) | refine AU ?_ | (refine IW (fun h => ?_) (fun h => ?_) <;> try (exfalso; omega))) <;> conv => whnf)
 refine LOOP.gok Z2 [0, 3, 4] [1] (X := Nat) (fun i => i ≤ l.length) (fun i => [(5, .int .i64 (i : Int))]) (fun i => [(2, .mp (X2 (Jn (l.take i))))]) 3 (fun i => l.length - i) 0 (by omega) ?_
 conv => whnf
 refine ⟨by exact GOES.cA h0, ?_⟩
 intro i hi
 conv => whnf
 by_cases hil : i < l.length
 · have gi : ((l ++ z).map Z7)[0 + (i : Int).toNat]? = some (Z7 l[i]) := by
     rw [show 0 + (i : Int).toNat = i by omega, List.getElem?_map, List.getElem?_append_left hil, List.getElem?_eq_getElem hil]; rfl
   have hk : Hp.mp (setM KQ.ks (KQ.enc l[i]) (intV 1) (X2 (Jn (l.take i)))) = Hp.mp (X2 (Jn (l.take (i + 1)))) := by
     rw [List.take_succ_eq_append_getElem hil, Z40]; exact congrArg Hp.mp (Zb2 KQ intV _ _ _)
   repeat' ((first | (refine GET.at gi ?_; conv => whnf) | (refine NEED.mk ⟨KQ.ok _, WZ KQ _ _⟩ ?_; conv => whnf) | refine AU ?_ | (refine IW (fun h => ?_) (fun h => ?_) <;> try (exfalso; omega))) <;> conv => whnf)
   refine ⟨i + 1, by omega, by omega, ?_⟩
   conv => whnf
   (refine GOES.cutting h0 rfl rfl rfl (by (repeat' (first | (refine ZZ rfl ?_ ?_) | exact ZS (Ze _) | exact ZE (Ze _) | exact JP (YF _) | rfl))) ?_ ?_ <;> (repeat' (first | exact hk | (with_reducible rfl) | exact trivial | (exact Zu rfl (by first | omega | (simp (disch := omega) only [lnB, Z8, Zd] <;> omega) | (simp; done) | (simp <;> omega))) | (exact congrArg (SV.int _) (by first | omega | (simp (disch := omega) only [lnB, Z8, Zd] <;> omega) | (simp; done) | (simp <;> omega))) | (exact JI (by first | omega | (simp (disch := omega) only [lnB, Z8, Zd] <;> omega) | (simp; done) | (simp <;> omega))) | (exact Uq (by first | omega | (simp (disch := omega) only [lnB, Z8, Zd] <;> omega) | (simp; done) | (simp <;> omega))) | (exact Zo _ (h := .rows _ _) (Ze _)) | (exact congrArg (Hp.rows _) (by rfl)) | ((conv => whnf); refine ⟨?_, ?_⟩) | rfl)))
 have hie : i = l.length := by omega
 subst hie
 rw [List.take_length]
 repeat' ((first | refine AU ?_ | (refine IW (fun h => ?_) (fun h => ?_) <;> try (exfalso; omega))) <;> conv => whnf)
 refine LOOP.nil 6 16 rfl ?_
 refine LOOP.gok Z2 [0, 3, 4] [1] (X := Nat × List Qd) (fun x => x.1 ≤ l.length ∧ DrIn l x.2 ∧ ∀ a ∈ l.take x.1, ∀ b ∈ l, InP l x.2 a b rulesL) (fun x => [(7, .int .i64 (x.1 : Int)), (6, .sl (.loc 3) 0 16 x.2.length none)]) (fun x => [(2, .mp (X2 (Jn (l ++ x.2)))), (3, .rows 16 (x.2.map Z7))]) 4 (fun x => l.length - x.1) (0, []) ⟨by simp, ZcQ l, by simp⟩ ?_
 rw [List.append_nil]
 conv => whnf
 refine ⟨by exact GOES.cA h0, ?_⟩
 rintro ⟨i, out⟩ ⟨hi, hD, hC⟩
 dsimp only at hi hD hC ⊢
 conv => whnf
 by_cases hil : i < l.length
 · have gi : ((l ++ z).map Z7)[0 + (i : Int).toNat]? = some (Z7 l[i]) := by
     rw [show 0 + (i : Int).toNat = i by omega, List.getElem?_map, List.getElem?_append_left hil, List.getElem?_eq_getElem hil]; rfl
   have him : l[i] ∈ l := List.getElem_mem _
   cases hsc : Z38 l[i] with
   | false =>
     have hsd := Z3g l[i]
     rw [hsc] at hsd
     repeat' ((first | (refine GET.at gi ?_; conv => whnf) | refine CALL.value (hsd) rfl rfl ?_ | refine AU ?_ | (refine IW (fun h => ?_) (fun h => ?_) <;> try (exfalso; omega))) <;> conv => whnf)
     refine ⟨(i + 1, out), ⟨by dsimp only; omega, hD, fun a ha b hb => ?_⟩, by dsimp only; omega, ?_⟩
     · rcases (Jr hil).1 ha with ha | rfl
       · exact hC a ha b hb
       · exact ZeX hsc b
     · conv => whnf
       exact GOES.cA h0
   | true =>
     have hsd := Z3g l[i]
     rw [hsc] at hsd
     repeat' ((first | (refine GET.at gi ?_; conv => whnf) | refine CALL.value (hsd) rfl rfl ?_ | refine AU ?_ | (refine IW (fun h => ?_) (fun h => ?_) <;> try (exfalso; omega))) <;> conv => whnf)
     refine LOOP.gok Z2 [0, 3, 4, 7] [1] (X := Nat × List Qd) (fun x => x.1 ≤ l.length ∧ DrIn l x.2 ∧ (∀ a ∈ l.take i, ∀ b ∈ l, InP l x.2 a b rulesL) ∧ ∀ b ∈ l.take x.1, InP l x.2 l[i] b rulesL) (fun x => [(8, .int .i64 (x.1 : Int)), (6, .sl (.loc 3) 0 16 x.2.length none)]) (fun x => [(2, .mp (X2 (Jn (l ++ x.2)))), (3, .rows 16 (x.2.map Z7))]) 4 (fun x => l.length - x.1) (0, out) ⟨by dsimp only; omega, hD, hC, by simp⟩ ?_
     conv => whnf
     refine ⟨by exact GOES.cA h0, ?_⟩
     clear hD hC out
     rintro ⟨k, out⟩ ⟨hk, hD, hC, hK⟩
     dsimp only at hk hD hC hK ⊢
     conv => whnf
     by_cases hkl : k < l.length
     · have gk : ((l ++ z).map Z7)[0 + (k : Int).toNat]? = some (Z7 l[k]) := by
         rw [show 0 + (k : Int).toNat = k by omega, List.getElem?_map, List.getElem?_append_left hkl, List.getElem?_eq_getElem hkl]; rfl
       have hkm : l[k] ∈ l := List.getElem_mem _
       repeat' ((first | refine AU ?_ | (refine IW (fun h => ?_) (fun h => ?_) <;> try (exfalso; omega))) <;> conv => whnf)
       refine LOOP.gok Z2 [0, 3, 4, 7, 8] [1] (X := Nat × List Qd) (fun x => x.1 ≤ 6 ∧ DrIn l x.2 ∧ (∀ a ∈ l.take i, ∀ b ∈ l, InP l x.2 a b rulesL) ∧ (∀ b ∈ l.take k, InP l x.2 l[i] b rulesL) ∧ InP l x.2 l[i] l[k] (rulesL.take x.1)) (fun x => [(9, .int .i64 (x.1 : Int)), (6, .sl (.loc 3) 0 16 x.2.length none)]) (fun x => [(2, .mp (X2 (Jn (l ++ x.2)))), (3, .rows 16 (x.2.map Z7))]) 4 (fun x => 6 - x.1) (0, out) ⟨by simp, hD, hC, hK, ZcR _ _ _ _ _⟩ ?_
       conv => whnf
       refine ⟨by exact GOES.cA h0, ?_⟩
       clear hD hC hK out
       rintro ⟨n, out⟩ ⟨hn, hD, hC, hK, hN⟩
       dsimp only at hn hD hC hK hN ⊢
       have hol := hlen out hD
       conv => whnf
       by_cases hnl : n < 6
       · have gn : ZbQ[(n : Int).toNat]? = some [.int .i64 (rulesL[n]'hnl)] := by
           rw [show (n : Int).toNat = n by omega]
           have := Zed hnl
           simpa [List.getD, hnl, rulesL] using this
         have hdr := Z9W (rulesL[n]'hnl) l[i] l[k] (hS _ him) (hS _ hkm)
         have hst := Z8U (ns := rulesL) hnl hN
         generalize hDr : Zj (rulesL[n]'hnl) l[i] l[k] = D at *
         obtain ⟨dq, db⟩ := D
         cases db with
         | false =>
           repeat' ((first | refine DRAWN.of (id := 18) Z2 mixed Z6X (by kernel_rfl) ?_ | refine ADD.mk (fun _ _ => ?_) | refine AD ?_ | refine FORK.mk ?_ ?_ | (refine GET.at gn ?_; conv => whnf) | (refine GET.at gi ?_; conv => whnf) | (refine GET.at gk ?_; conv => whnf) | refine CALL.value (hdr) rfl rfl ?_ | refine AU ?_ | (refine IW (fun h => ?_) (fun h => ?_) <;> try (exfalso; omega))) <;> conv => whnf)
           all_goals
             refine ⟨(n + 1, out), ⟨by dsimp only; omega, hD, hC, hK, hst (fun h => by cases h)⟩, by dsimp only; omega, ?_⟩
             conv => whnf
             exact GOES.cA h0
         | true =>
           have hk3 : Hp.mp (setM KQ.ks (KQ.enc dq) (intV 1) (X2 (Jn (l ++ out)))) = Hp.mp (X2 (Jn (l ++ (out ++ [dq])))) := by
             rw [← List.append_assoc, Z40]; exact congrArg Hp.mp (Zb2 KQ intV _ _ _)
           have hkr : ∀ σ : Nat → Nat, Hp.mp (setM KQ.ks (KQ.enc dq) (intV 1) (X2 (Jn (l ++ out)))) = renH σ (Hp.mp (X2 (Jn (l ++ (out ++ [dq]))))) := fun σ => hk3.trans renM.symm
           have hgo : (Zj (rulesL[n]'hnl) l[i] l[k]).1 = dq := by rw [hDr]
           have hd2 : (Zj (rulesL[n]'hnl) l[i] l[k]).2 = true := by rw [hDr]
           have hnew : dq ∉ l ++ out → DrIn l (out ++ [dq]) := fun h => by
             have := ZbE hD him hkm hd2 (by rw [hgo]; exact h)
             rwa [hgo] at this
           have hsub : ∀ r ∈ out, r ∈ out ++ [dq] := fun r h => List.mem_append_left _ h
           have hin : dq ∈ l ++ (out ++ [dq]) := by simp
           repeat' ((first | refine DRAWN.of (id := 18) Z2 mixed Z6X (by kernel_rfl) ?_ | refine ADD.mk (fun _ _ => ?_) | refine AD ?_ | refine FORK.mk ?_ ?_ | (refine GET.at gn ?_; conv => whnf) | (refine GET.at gi ?_; conv => whnf) | (refine GET.at gk ?_; conv => whnf) | refine CALL.value (hdr) rfl rfl ?_ | (refine NEED.mk ⟨KQ.ok _, WZ KQ _ _⟩ ?_; conv => whnf) | (refine FIND.A KQ intV dq _ (fun _ _ ha => ?_) (fun ha => ?_); conv => whnf) | refine AU ?_ | (refine IW (fun h => ?_) (fun h => ?_) <;> try (exfalso; omega))) <;> conv => whnf)
           all_goals first
             | (exfalso
                have h5 := (Z42 ha).2
                simp only at h5
                omega)
             | (refine ⟨(n + 1, out), ⟨by dsimp only; omega, hD, hC, hK, hst (fun _ => (Z42 ha).1)⟩, by dsimp only; omega, ?_⟩
                (conv => whnf)
                exact GOES.cA h0
                done)
             | (have hno := Z9r ha
                refine ⟨(n + 1, out ++ [dq]), ⟨by dsimp only; omega, hnew hno, fun a ha b hb => Z55 hsub (hC a ha b hb), fun b hb => Z55 hsub (hK b hb), Z8U (ns := rulesL) hnl (Z55 hsub hN) (fun _ => by rw [hgo]; exact hin)⟩, by dsimp only; omega, ?_⟩
                (conv => whnf)
                (refine GOES.keeping h0 [1, 2, 6] rfl rfl rfl (by (repeat' (first | (refine ZZ rfl ?_ ?_) | exact ZS (Ze _) | exact ZE (Ze _) | exact JP (YF _) | rfl))) ?_ ?_ <;> (repeat' (first | exact hkr _ | (with_reducible rfl) | exact trivial | (exact Zu rfl (by first | omega | (simp (disch := omega) only [lnB, Z8, Zd] <;> omega) | (simp; done) | (simp <;> omega))) | (exact congrArg (SV.int _) (by first | omega | (simp (disch := omega) only [lnB, Z8, Zd] <;> omega) | (simp; done) | (simp <;> omega))) | (exact JI (by first | omega | (simp (disch := omega) only [lnB, Z8, Zd] <;> omega) | (simp; done) | (simp <;> omega))) | (exact Uq (by first | omega | (simp (disch := omega) only [lnB, Z8, Zd] <;> omega) | (simp; done) | (simp <;> omega))) | (exact (Zo _ (h := .rows _ _) (Ze _)).symm) | (exact (Zo _ (h := .rows _ _) (Ze _)).trans (Zo _ (h := .rows _ _) (Ze _)).symm) | (exact Z9 (Ze _) (by (simp [List.take_of_length_le, ZG, Z7, Qd.row]))) | ((conv => whnf); refine ⟨?_, ?_⟩) | (simp only [ren, renB]; done) | rfl)))
                done)
             | trace_state
       · have hne : n = 6 := by omega
         subst hne
         repeat' ((first | refine AU ?_ | (refine IW (fun h => ?_) (fun h => ?_) <;> try (exfalso; omega))) <;> conv => whnf)
         refine ⟨(k + 1, out), ⟨by dsimp only; omega, hD, hC, fun b hb => ?_⟩, by dsimp only; omega, ?_⟩
         · rcases (Jr hkl).1 hb with hb | rfl
           · exact hK b hb
           · exact hN
         · conv => whnf
           exact GOES.cA h0
     · have hke : k = l.length := by omega
       subst hke
       rw [List.take_length] at hK
       repeat' ((first | refine AU ?_ | (refine IW (fun h => ?_) (fun h => ?_) <;> try (exfalso; omega))) <;> conv => whnf)
       refine ⟨(i + 1, out), ⟨by dsimp only; omega, hD, fun a ha b hb => ?_⟩, by dsimp only; omega, ?_⟩
       · rcases (Jr hil).1 ha with ha | rfl
         · exact hC a ha b hb
         · exact hK b hb
       · conv => whnf
         exact GOES.cA h0
 · have hie : i = l.length := by omega
   subst hie
   rw [List.take_length] at hC
   repeat' ((first | refine AU ?_ | (refine IW (fun h => ?_) (fun h => ?_) <;> try (exfalso; omega))) <;> conv => whnf)
   refine FIN.aA h0 [3] (.sl (.loc 1) 0 16 out.length none) [(1, .rows 16 (out.map Z7))] ?_
   exact ⟨out, ⟨hD, fun a ha b hb => ZbF (hC a ha b hb)⟩, rfl, rfl, rfl⟩
theorem Z6Y (base l z : List Qd) (lim : Option Nat) (hS : ∀ q ∈ l, QdSm q) (ho : ObIn base l) (hl : l.length ≤ 1048576) (hb : base.length ≤ 65536) (hz : (l ++ z).length ≤ 1152921504606846976) : Does Tryz.prog tab 23 1 [.sl (.loc 0) 0 16 l.length lim] [] [(0, .rows 16 ((l ++ z).map Z7))]
   (fun r O nx => ∃ b : Bool, (b = true ↔ XW l) ∧ r = .bool b ∧ O = [] ∧ nx = 1) := by
 have hd := WG base l z lim hS ho hl hb hz
 refine Does.enter Z2 (g := 23) (fn := Tryz.f23) Tryz.call23 Tryz.func23 rfl 7 rfl rfl [.tmp 2] rfl ?_
 intro w0 F η0 h0
 conv => whnf
 repeat' ((first | refine AU ?_ | (refine IW (fun h => ?_) (fun h => ?_) <;> try (exfalso; omega))) <;> conv => whnf)
 refine CALL.aA [0] (hd) ?_
 rintro r O nx ⟨out, ho, rfl, rfl, rfl⟩
 conv => whnf
 repeat' ((first | refine AU ?_ | (refine IW (fun h => ?_) (fun h => ?_) <;> try (exfalso; omega))) <;> conv => whnf)
 refine FIN.aA h0 [] (.bool (decide ((out.length : Int) = 0))) [] ?_
 refine ⟨_, ?_, rfl, rfl, rfl⟩
 rw [← Z6E ho, decide_eq_true_iff]
 constructor
 · intro h; exact List.eq_nil_of_length_eq_zero (by omega)
 · rintro rfl; rfl
end Go.Proofs.YtjbbkimodgffiaaGreatDoor
