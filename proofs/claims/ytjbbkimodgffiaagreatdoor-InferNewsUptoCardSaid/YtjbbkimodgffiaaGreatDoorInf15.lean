/- Part 15: Infer2, LawDraws. Conditions: as each part says. -/
import Derived.Test.YtjbbkimodgffiaaGreatDoorInf13
import Derived.Test.YtjbbkimodgffiaaGreatDoorInf14
set_option linter.unusedVariables false
set_option linter.unusedSimpArgs false
set_option maxRecDepth 20000
set_option maxHeartbeats 8000000
namespace Go.Proofs.YtjbbkimodgffiaaGreatDoor
open Go.Sx Go.Our
def VO : Plan := (.take 0 1 (.take 1 1 (.take 2 2 (.take 3 2 (.take 4 2 (.fork 5 3 9 3 (Zj [(6, 1), (7, 1), (8, 1), (9, 3), (10, 0), (11, 1)]) (Zj [(5, 3), (6, 1), (7, 1), (8, 1), (10, 0), (11, 1)])))))))
theorem ZA (q : Qd) (hq : QdSm q) : Does Tryz.prog tab 66 0 [q.sv] [] [] (Val (.bool (decide (Zr q = 0)))) := by
 have h1 := UK q hq
 unfold Qd.sv at h1 ⊢
 refine Does.enter Z2 (g := 66) (fn := Tryz.f66) Tryz.call66 Tryz.func66 rfl 6 rfl rfl [.tmp 2] rfl ?_
 intro w0 F η0 h0
 conv => whnf
 repeat' ((first | refine CALL.value (h1) rfl rfl ?_ | refine AU ?_ | (refine IW (fun h => ?_) (fun h => ?_) <;> try (exfalso; omega))) <;> conv => whnf)
 exact FIN.value h0 rfl rfl
set_option maxHeartbeats 4000000 in
theorem Zao (a b : Qd) (ha : QdSm a) (hb : QdSm b) : Does Tryz.prog tab 37 0 [.int .i64 2, a.sv, b.sv] [] [] (Val (.tup [(Zl 2 a b).1.sv, .bool (Zl 2 a b).2])) := by
 have hd : QdSm (dr2 a b).1 := J9 (n := 2) ha hb
 have hf := ZA (dr2 a b).1 hd
 unfold Qd.sv
 refine Does.enter Z2 (g := 37) (fn := Tryz.f37) Tryz.call37 Tryz.func37 rfl 60 rfl rfl [.cell 6 30, .tmp 7] rfl ?_
 intro w0 F η0 h0
 conv => whnf
 refine CALL.aA [] (Y9) ?_
 rintro r O' nx' ⟨rfl, rfl, rfl⟩
 conv => whnf
 refine NEED.mk ⟨rfl, rfl, rfl, rfl, rfl⟩ ?_
 conv => whnf
 repeat' ((first | refine DRAWN.of (id := 4) Z2 mixed VO (by kernel_rfl) ?_ | refine ADD.mk (fun _ _ => ?_) | refine AD ?_ | refine FORK.mk ?_ ?_ | refine CALL.value (ZA a ha) rfl rfl ?_ | refine CALL.value (ZA b hb) rfl rfl ?_ | refine CALL.value (Zak a b) rfl rfl ?_ | refine CALL.value (hf) rfl rfl ?_ | refine AU ?_ | (refine IW (fun h => ?_) (fun h => ?_) <;> try (exfalso; omega))) <;> conv => whnf)
 all_goals
   clear hf hd ha hb
   refine FIN.value h0 rfl ?_
   first
     | (rw [XL (by show ¬(Zr a = 0 ∧ Zr b = 0 ∧ a.g = b.g ∧ (dr2 a b).2 = true ∧ Zr (dr2 a b).1 = 0); simp_all [J5]; done)]; rfl)
     | (rw [Uf (by show Zr a = 0 ∧ Zr b = 0 ∧ a.g = b.g ∧ (dr2 a b).2 = true ∧ Zr (dr2 a b).1 = 0; simp_all [J5]; done)]; rfl)
     | trace_state
set_option maxHeartbeats 4000000 in
theorem Zap (a b : Qd) (ha : QdSm a) (hb : QdSm b) : Does Tryz.prog tab 37 0 [.int .i64 3, a.sv, b.sv] [] [] (Val (.tup [(Zl 3 a b).1.sv, .bool (Zl 3 a b).2])) := by
 have hd : QdSm (dr3 a b).1 := J9 (n := 3) ha hb
 have hf := ZA (dr3 a b).1 hd
 unfold Qd.sv
 refine Does.enter Z2 (g := 37) (fn := Tryz.f37) Tryz.call37 Tryz.func37 rfl 60 rfl rfl [.cell 6 30, .tmp 7] rfl ?_
 intro w0 F η0 h0
 conv => whnf
 refine CALL.aA [] (Y9) ?_
 rintro r O' nx' ⟨rfl, rfl, rfl⟩
 conv => whnf
 refine NEED.mk ⟨rfl, rfl, rfl, rfl, rfl⟩ ?_
 conv => whnf
 repeat' ((first | refine DRAWN.of (id := 4) Z2 mixed VO (by kernel_rfl) ?_ | refine ADD.mk (fun _ _ => ?_) | refine AD ?_ | refine FORK.mk ?_ ?_ | refine CALL.value (ZA a ha) rfl rfl ?_ | refine CALL.value (ZA b hb) rfl rfl ?_ | refine CALL.value (Zal a b) rfl rfl ?_ | refine CALL.value (hf) rfl rfl ?_ | refine AU ?_ | (refine IW (fun h => ?_) (fun h => ?_) <;> try (exfalso; omega))) <;> conv => whnf)
 all_goals
   clear hf hd ha hb
   refine FIN.value h0 rfl ?_
   first
     | (rw [XL (by show ¬(Zr a = 0 ∧ Zr b = 0 ∧ a.g = b.g ∧ (dr3 a b).2 = true ∧ Zr (dr3 a b).1 = 0); simp_all [J5]; done)]; rfl)
     | (rw [Uf (by show Zr a = 0 ∧ Zr b = 0 ∧ a.g = b.g ∧ (dr3 a b).2 = true ∧ Zr (dr3 a b).1 = 0; simp_all [J5]; done)]; rfl)
     | trace_state
set_option maxHeartbeats 4000000 in
theorem Zaq (a b : Qd) (ha : QdSm a) (hb : QdSm b) : Does Tryz.prog tab 37 0 [.int .i64 5, a.sv, b.sv] [] [] (Val (.tup [(Zl 5 a b).1.sv, .bool (Zl 5 a b).2])) := by
 have hd : QdSm (chn subP a b).1 := J9 (n := 5) ha hb
 have hf := ZA (chn subP a b).1 hd
 unfold Qd.sv
 refine Does.enter Z2 (g := 37) (fn := Tryz.f37) Tryz.call37 Tryz.func37 rfl 60 rfl rfl [.cell 6 30, .tmp 7] rfl ?_
 intro w0 F η0 h0
 conv => whnf
 refine CALL.aA [] (Y9) ?_
 rintro r O' nx' ⟨rfl, rfl, rfl⟩
 conv => whnf
 refine NEED.mk ⟨rfl, rfl, rfl, rfl, rfl⟩ ?_
 conv => whnf
 repeat' ((first | refine DRAWN.of (id := 4) Z2 mixed VO (by kernel_rfl) ?_ | refine ADD.mk (fun _ _ => ?_) | refine AD ?_ | refine FORK.mk ?_ ?_ | refine CALL.value (ZA a ha) rfl rfl ?_ | refine CALL.value (ZA b hb) rfl rfl ?_ | (refine CALL.looks [3] (Z3g subP a b) rfl rfl rfl rfl ⟨⟨rfl, rfl, rfl⟩, trivial⟩ ?_; conv => whnf) | refine CALL.value (hf) rfl rfl ?_ | refine AU ?_ | (refine IW (fun h => ?_) (fun h => ?_) <;> try (exfalso; omega))) <;> conv => whnf)
 all_goals
   clear hf hd ha hb
   refine FIN.value h0 rfl ?_
   first
     | (rw [XL (by show ¬(Zr a = 0 ∧ Zr b = 0 ∧ a.g = b.g ∧ (chn subP a b).2 = true ∧ Zr (chn subP a b).1 = 0); simp_all [J5]; done)]; rfl)
     | (rw [Uf (by show Zr a = 0 ∧ Zr b = 0 ∧ a.g = b.g ∧ (chn subP a b).2 = true ∧ Zr (chn subP a b).1 = 0; simp_all [J5]; done)]; rfl)
     | trace_state
set_option maxHeartbeats 4000000 in
theorem Zar (a b : Qd) (ha : QdSm a) (hb : QdSm b) : Does Tryz.prog tab 37 0 [.int .i64 7, a.sv, b.sv] [] [] (Val (.tup [(Zl 7 a b).1.sv, .bool (Zl 7 a b).2])) := by
 have hd : QdSm (dr7 a b).1 := J9 (n := 7) ha hb
 have hf := ZA (dr7 a b).1 hd
 unfold Qd.sv
 refine Does.enter Z2 (g := 37) (fn := Tryz.f37) Tryz.call37 Tryz.func37 rfl 60 rfl rfl [.cell 6 30, .tmp 7] rfl ?_
 intro w0 F η0 h0
 conv => whnf
 refine CALL.aA [] (Y9) ?_
 rintro r O' nx' ⟨rfl, rfl, rfl⟩
 conv => whnf
 refine NEED.mk ⟨rfl, rfl, rfl, rfl, rfl⟩ ?_
 conv => whnf
 repeat' ((first | refine DRAWN.of (id := 4) Z2 mixed VO (by kernel_rfl) ?_ | refine ADD.mk (fun _ _ => ?_) | refine AD ?_ | refine FORK.mk ?_ ?_ | refine CALL.value (ZA a ha) rfl rfl ?_ | refine CALL.value (ZA b hb) rfl rfl ?_ | refine CALL.value (Zam a b) rfl rfl ?_ | refine CALL.value (hf) rfl rfl ?_ | refine AU ?_ | (refine IW (fun h => ?_) (fun h => ?_) <;> try (exfalso; omega))) <;> conv => whnf)
 all_goals
   clear hf hd ha hb
   refine FIN.value h0 rfl ?_
   first
     | (rw [XL (by show ¬(Zr a = 0 ∧ Zr b = 0 ∧ a.g = b.g ∧ (dr7 a b).2 = true ∧ Zr (dr7 a b).1 = 0); simp_all [J5]; done)]; rfl)
     | (rw [Uf (by show Zr a = 0 ∧ Zr b = 0 ∧ a.g = b.g ∧ (dr7 a b).2 = true ∧ Zr (dr7 a b).1 = 0; simp_all [J5]; done)]; rfl)
     | trace_state
set_option maxHeartbeats 4000000 in
theorem Zas (a b : Qd) (ha : QdSm a) (hb : QdSm b) : Does Tryz.prog tab 37 0 [.int .i64 9, a.sv, b.sv] [] [] (Val (.tup [(Zl 9 a b).1.sv, .bool (Zl 9 a b).2])) := by
 have hd : QdSm (dr9 a b).1 := J9 (n := 9) ha hb
 have hf := ZA (dr9 a b).1 hd
 unfold Qd.sv
 refine Does.enter Z2 (g := 37) (fn := Tryz.f37) Tryz.call37 Tryz.func37 rfl 60 rfl rfl [.cell 6 30, .tmp 7] rfl ?_
 intro w0 F η0 h0
 conv => whnf
 refine CALL.aA [] (Y9) ?_
 rintro r O' nx' ⟨rfl, rfl, rfl⟩
 conv => whnf
 refine NEED.mk ⟨rfl, rfl, rfl, rfl, rfl⟩ ?_
 conv => whnf
 repeat' ((first | refine DRAWN.of (id := 4) Z2 mixed VO (by kernel_rfl) ?_ | refine ADD.mk (fun _ _ => ?_) | refine AD ?_ | refine FORK.mk ?_ ?_ | refine CALL.value (ZA a ha) rfl rfl ?_ | refine CALL.value (ZA b hb) rfl rfl ?_ | refine CALL.value (Zan a b) rfl rfl ?_ | refine CALL.value (hf) rfl rfl ?_ | refine AU ?_ | (refine IW (fun h => ?_) (fun h => ?_) <;> try (exfalso; omega))) <;> conv => whnf)
 all_goals
   clear hf hd ha hb
   refine FIN.value h0 rfl ?_
   first
     | (rw [XL (by show ¬(Zr a = 0 ∧ Zr b = 0 ∧ a.g = b.g ∧ (dr9 a b).2 = true ∧ Zr (dr9 a b).1 = 0); simp_all [J5]; done)]; rfl)
     | (rw [Uf (by show Zr a = 0 ∧ Zr b = 0 ∧ a.g = b.g ∧ (dr9 a b).2 = true ∧ Zr (dr9 a b).1 = 0; simp_all [J5]; done)]; rfl)
     | trace_state
set_option maxHeartbeats 4000000 in
theorem Z8n (a b : Qd) (ha : QdSm a) (hb : QdSm b) : Does Tryz.prog tab 37 0 [.int .i64 11, a.sv, b.sv] [] [] (Val (.tup [(Zl 11 a b).1.sv, .bool (Zl 11 a b).2])) := by
 have hd : QdSm (chn subC a b).1 := J9 (n := 11) ha hb
 have hf := ZA (chn subC a b).1 hd
 unfold Qd.sv
 refine Does.enter Z2 (g := 37) (fn := Tryz.f37) Tryz.call37 Tryz.func37 rfl 60 rfl rfl [.cell 6 30, .tmp 7] rfl ?_
 intro w0 F η0 h0
 conv => whnf
 refine CALL.aA [] (Y9) ?_
 rintro r O' nx' ⟨rfl, rfl, rfl⟩
 conv => whnf
 refine NEED.mk ⟨rfl, rfl, rfl, rfl, rfl⟩ ?_
 conv => whnf
 repeat' ((first | refine DRAWN.of (id := 4) Z2 mixed VO (by kernel_rfl) ?_ | refine ADD.mk (fun _ _ => ?_) | refine AD ?_ | refine FORK.mk ?_ ?_ | refine CALL.value (ZA a ha) rfl rfl ?_ | refine CALL.value (ZA b hb) rfl rfl ?_ | (refine CALL.looks [4] (Z3g subC a b) rfl rfl rfl rfl ⟨⟨rfl, rfl, rfl⟩, trivial⟩ ?_; conv => whnf) | refine CALL.value (hf) rfl rfl ?_ | refine AU ?_ | (refine IW (fun h => ?_) (fun h => ?_) <;> try (exfalso; omega))) <;> conv => whnf)
 all_goals
   clear hf hd ha hb
   refine FIN.value h0 rfl ?_
   first
     | (rw [XL (by show ¬(Zr a = 0 ∧ Zr b = 0 ∧ a.g = b.g ∧ (chn subC a b).2 = true ∧ Zr (chn subC a b).1 = 0); simp_all [J5]; done)]; rfl)
     | (rw [Uf (by show Zr a = 0 ∧ Zr b = 0 ∧ a.g = b.g ∧ (chn subC a b).2 = true ∧ Zr (chn subC a b).1 = 0; simp_all [J5]; done)]; rfl)
     | trace_state
theorem Zat (a b : Qd) : Does Tryz.prog tab 37 0 [.int .i64 0, a.sv, b.sv] [] [] (Val (.tup [(Zl 0 a b).1.sv, .bool (Zl 0 a b).2])) := by
 have hn : Zl 0 a b = (Zv, false) := XL (by rw [YF (by omega)]; simp)
 unfold Qd.sv
 refine Does.enter Z2 (g := 37) (fn := Tryz.f37) Tryz.call37 Tryz.func37 rfl 60 rfl rfl [.cell 6 30, .tmp 7] rfl ?_
 intro w0 F η0 h0
 conv => whnf
 refine CALL.aA [] (Y9) ?_
 rintro r O' nx' ⟨rfl, rfl, rfl⟩
 conv => whnf
 refine NEED.mk ⟨rfl, rfl, rfl, rfl, rfl⟩ ?_
 conv => whnf
 repeat' ((first | refine AU ?_ | (refine IW (fun h => ?_) (fun h => ?_) <;> try (exfalso; omega))) <;> conv => whnf)
 all_goals
   refine FIN.value h0 rfl ?_
   rw [hn]; rfl
theorem Zau (a b : Qd) : Does Tryz.prog tab 37 0 [.int .i64 1, a.sv, b.sv] [] [] (Val (.tup [(Zl 1 a b).1.sv, .bool (Zl 1 a b).2])) := by
 have hn : Zl 1 a b = (Zv, false) := XL (by rw [YF (by omega)]; simp)
 unfold Qd.sv
 refine Does.enter Z2 (g := 37) (fn := Tryz.f37) Tryz.call37 Tryz.func37 rfl 60 rfl rfl [.cell 6 30, .tmp 7] rfl ?_
 intro w0 F η0 h0
 conv => whnf
 refine CALL.aA [] (Y9) ?_
 rintro r O' nx' ⟨rfl, rfl, rfl⟩
 conv => whnf
 refine NEED.mk ⟨rfl, rfl, rfl, rfl, rfl⟩ ?_
 conv => whnf
 repeat' ((first | refine AU ?_ | (refine IW (fun h => ?_) (fun h => ?_) <;> try (exfalso; omega))) <;> conv => whnf)
 all_goals
   refine FIN.value h0 rfl ?_
   rw [hn]; rfl
theorem Zav (a b : Qd) : Does Tryz.prog tab 37 0 [.int .i64 4, a.sv, b.sv] [] [] (Val (.tup [(Zl 4 a b).1.sv, .bool (Zl 4 a b).2])) := by
 have hn : Zl 4 a b = (Zv, false) := XL (by rw [YF (by omega)]; simp)
 unfold Qd.sv
 refine Does.enter Z2 (g := 37) (fn := Tryz.f37) Tryz.call37 Tryz.func37 rfl 60 rfl rfl [.cell 6 30, .tmp 7] rfl ?_
 intro w0 F η0 h0
 conv => whnf
 refine CALL.aA [] (Y9) ?_
 rintro r O' nx' ⟨rfl, rfl, rfl⟩
 conv => whnf
 refine NEED.mk ⟨rfl, rfl, rfl, rfl, rfl⟩ ?_
 conv => whnf
 repeat' ((first | refine AU ?_ | (refine IW (fun h => ?_) (fun h => ?_) <;> try (exfalso; omega))) <;> conv => whnf)
 all_goals
   refine FIN.value h0 rfl ?_
   rw [hn]; rfl
theorem Zaw (a b : Qd) : Does Tryz.prog tab 37 0 [.int .i64 6, a.sv, b.sv] [] [] (Val (.tup [(Zl 6 a b).1.sv, .bool (Zl 6 a b).2])) := by
 have hn : Zl 6 a b = (Zv, false) := XL (by rw [YF (by omega)]; simp)
 unfold Qd.sv
 refine Does.enter Z2 (g := 37) (fn := Tryz.f37) Tryz.call37 Tryz.func37 rfl 60 rfl rfl [.cell 6 30, .tmp 7] rfl ?_
 intro w0 F η0 h0
 conv => whnf
 refine CALL.aA [] (Y9) ?_
 rintro r O' nx' ⟨rfl, rfl, rfl⟩
 conv => whnf
 refine NEED.mk ⟨rfl, rfl, rfl, rfl, rfl⟩ ?_
 conv => whnf
 repeat' ((first | refine AU ?_ | (refine IW (fun h => ?_) (fun h => ?_) <;> try (exfalso; omega))) <;> conv => whnf)
 all_goals
   refine FIN.value h0 rfl ?_
   rw [hn]; rfl
theorem Zax (a b : Qd) : Does Tryz.prog tab 37 0 [.int .i64 8, a.sv, b.sv] [] [] (Val (.tup [(Zl 8 a b).1.sv, .bool (Zl 8 a b).2])) := by
 have hn : Zl 8 a b = (Zv, false) := XL (by rw [YF (by omega)]; simp)
 unfold Qd.sv
 refine Does.enter Z2 (g := 37) (fn := Tryz.f37) Tryz.call37 Tryz.func37 rfl 60 rfl rfl [.cell 6 30, .tmp 7] rfl ?_
 intro w0 F η0 h0
 conv => whnf
 refine CALL.aA [] (Y9) ?_
 rintro r O' nx' ⟨rfl, rfl, rfl⟩
 conv => whnf
 refine NEED.mk ⟨rfl, rfl, rfl, rfl, rfl⟩ ?_
 conv => whnf
 repeat' ((first | refine AU ?_ | (refine IW (fun h => ?_) (fun h => ?_) <;> try (exfalso; omega))) <;> conv => whnf)
 all_goals
   refine FIN.value h0 rfl ?_
   rw [hn]; rfl
theorem Z8o (a b : Qd) : Does Tryz.prog tab 37 0 [.int .i64 10, a.sv, b.sv] [] [] (Val (.tup [(Zl 10 a b).1.sv, .bool (Zl 10 a b).2])) := by
 have hn : Zl 10 a b = (Zv, false) := XL (by rw [YF (by omega)]; simp)
 unfold Qd.sv
 refine Does.enter Z2 (g := 37) (fn := Tryz.f37) Tryz.call37 Tryz.func37 rfl 60 rfl rfl [.cell 6 30, .tmp 7] rfl ?_
 intro w0 F η0 h0
 conv => whnf
 refine CALL.aA [] (Y9) ?_
 rintro r O' nx' ⟨rfl, rfl, rfl⟩
 conv => whnf
 refine NEED.mk ⟨rfl, rfl, rfl, rfl, rfl⟩ ?_
 conv => whnf
 repeat' ((first | refine AU ?_ | (refine IW (fun h => ?_) (fun h => ?_) <;> try (exfalso; omega))) <;> conv => whnf)
 all_goals
   refine FIN.value h0 rfl ?_
   rw [hn]; rfl
theorem Zay (n : Int) (hx : n < 0 ∨ 12 ≤ n) (a b : Qd) : Does Tryz.prog tab 37 0 [.int .i64 n, a.sv, b.sv] [] [] (Val (.tup [(Zl n a b).1.sv, .bool (Zl n a b).2])) := by
 have hn : Zl n a b = (Zv, false) := XL (by rw [YF (by omega)]; simp)
 unfold Qd.sv
 refine Does.enter Z2 (g := 37) (fn := Tryz.f37) Tryz.call37 Tryz.func37 rfl 60 rfl rfl [.cell 6 30, .tmp 7] rfl ?_
 intro w0 F η0 h0
 conv => whnf
 refine CALL.aA [] (Y9) ?_
 rintro r O' nx' ⟨rfl, rfl, rfl⟩
 conv => whnf
 refine NEED.mk ⟨rfl, rfl, rfl, rfl, rfl⟩ ?_
 conv => whnf
 repeat' ((first | refine AU ?_ | (refine IW (fun h => ?_) (fun h => ?_) <;> try (exfalso; omega))) <;> conv => whnf)
 all_goals first
   | (refine FIN.value h0 rfl ?_; rw [hn]; rfl)
   | (exfalso; omega)
   | trace_state
theorem Z0p (n : Int) (a b : Qd) (ha : QdSm a) (hb : QdSm b) : Does Tryz.prog tab 37 0 [.int .i64 n, a.sv, b.sv] [] [] (Val (.tup [(Zl n a b).1.sv, .bool (Zl n a b).2])) := by
 by_cases hx : n < 0 ∨ 12 ≤ n
 · exact Zay n hx a b
 · have : n = 0 ∨ n = 1 ∨ n = 2 ∨ n = 3 ∨ n = 4 ∨ n = 5 ∨ n = 6 ∨ n = 7 ∨ n = 8 ∨ n = 9 ∨ n = 10 ∨ n = 11 := by omega
   rcases this with rfl | rfl | rfl | rfl | rfl | rfl | rfl | rfl | rfl | rfl | rfl | rfl
   · exact Zat a b
   · exact Zau a b
   · exact Zao a b ha hb
   · exact Zap a b ha hb
   · exact Zav a b
   · exact Zaq a b ha hb
   · exact Zaw a b
   · exact Zar a b ha hb
   · exact Zax a b
   · exact Zas a b ha hb
   · exact Z8o a b
   · exact Z8n a b ha hb
end Go.Proofs.YtjbbkimodgffiaaGreatDoor
namespace Go.Proofs.YtjbbkimodgffiaaGreatDoor
open Go.Sx Go.Our
set_option maxHeartbeats 4000000 in
theorem Zaz (n : Int) (a b : Qd) (ha : QdSm a) (hb : QdSm b) : Does Tryz.prog tab 39 0 [.int .i64 n, a.sv, b.sv] [] [] (Val (.tup [(Zl n a b).1.sv, .bool (Zl n a b).2])) := by
 have h1 := XK a ha
 have h2 := XK b hb
 have h3 := Z8p n a b
 have h4 := XK (Zw n a b).1 (J9 ha hb)
 unfold Qd.sv at h1 h2 h3 h4 ⊢
 refine Does.enter Z2 (g := 39) (fn := Tryz.f39) Tryz.call39 Tryz.func39 rfl 42 rfl rfl [.cell 6 30, .tmp 7] rfl ?_
 intro w0 F η0 h0
 conv => whnf
 repeat' ((first | refine ADD.mk (fun _ _ => ?_) | refine AD ?_ | refine FORK.mk ?_ ?_ | refine CALL.value (h1) rfl rfl ?_ | refine CALL.value (h2) rfl rfl ?_ | refine CALL.value (h3) rfl rfl ?_ | refine CALL.value (h4) rfl rfl ?_ | refine AU ?_ | (refine IW (fun h => ?_) (fun h => ?_) <;> try (exfalso; omega))) <;> conv => whnf)
 all_goals
   clear h1 h2 h3 h4 ha hb
   refine FIN.value h0 rfl ?_
   first
     | (rw [XL (by simp_all [J5]; done)]; rfl)
     | (rw [Uf (by simp_all [J5]; done)])
     | trace_state
end Go.Proofs.YtjbbkimodgffiaaGreatDoor
