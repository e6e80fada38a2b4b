/- Part 15: Infer2, LawDraws, World2, RDraws, RClose. Conditions: as each part says. -/
import Derived.Test.YtjbbkimodgffiaaGreatDoorInW13
import Derived.Test.YtjbbkimodgffiaaGreatDoorInW14
set_option linter.unusedVariables false
set_option linter.unusedSimpArgs false
set_option maxRecDepth 20000
set_option maxHeartbeats 8000000
namespace Go.Proofs.YtjbbkimodgffiaaGreatDoor
open Go.Sx Go.Our
def VF : Plan := (.take 0 1 (.take 1 1 (.take 2 2 (.take 3 2 (.take 4 2 (.fork 5 3 9 3 (Zj [(6, 1), (7, 1), (8, 1), (9, 3), (10, 0), (11, 1)]) (Zj [(5, 3), (6, 1), (7, 1), (8, 1), (10, 0), (11, 1)])))))))
theorem ZC (q : Qd) (hq : QdSm q) : Does Tryz.prog tab 66 0 [q.sv] [] [] (Val (.bool (decide (Zx q = 0)))) := by
 have h1 := Uy q hq
 unfold Qd.sv at h1 ⊢
 refine Does.enter Z2 (g := 66) (fn := Tryz.f66) Tryz.call66 Tryz.func66 rfl 6 rfl rfl [.tmp 2] rfl ?_
 intro w0 F η0 h0
 conv => whnf
 repeat' ((first | refine CALL.value (h1) rfl rfl ?_ | refine AU ?_ | (refine IW (fun h => ?_) (fun h => ?_) <;> try (exfalso; omega))) <;> conv => whnf)
 exact FIN.value h0 rfl rfl
set_option maxHeartbeats 4000000 in
theorem Z9Q (a b : Qd) (ha : QdSm a) (hb : QdSm b) : Does Tryz.prog tab 37 0 [.int .i64 2, a.sv, b.sv] [] [] (Val (.tup [(Zm 2 a b).1.sv, .bool (Zm 2 a b).2])) := by
 have hd : QdSm (dr2 a b).1 := XX (n := 2) ha hb
 have hf := ZC (dr2 a b).1 hd
 unfold Qd.sv
 refine Does.enter Z2 (g := 37) (fn := Tryz.f37) Tryz.call37 Tryz.func37 rfl 60 rfl rfl [.cell 6 30, .tmp 7] rfl ?_
 intro w0 F η0 h0
 conv => whnf
 refine CALL.aA [] (Y7) ?_
 rintro r O' nx' ⟨rfl, rfl, rfl⟩
 conv => whnf
 refine NEED.mk ⟨rfl, rfl, rfl, rfl, rfl⟩ ?_
 conv => whnf
 repeat' ((first | refine DRAWN.of (id := 4) Z2 Z8 VF (by kernel_rfl) ?_ | refine ADD.mk (fun _ _ => ?_) | refine AD ?_ | refine FORK.mk ?_ ?_ | refine CALL.value (ZC a ha) rfl rfl ?_ | refine CALL.value (ZC b hb) rfl rfl ?_ | refine CALL.value (Z9M a b) rfl rfl ?_ | refine CALL.value (hf) rfl rfl ?_ | refine AU ?_ | (refine IW (fun h => ?_) (fun h => ?_) <;> try (exfalso; omega))) <;> conv => whnf)
 all_goals
   clear hf hd ha hb
   refine FIN.value h0 rfl ?_
   first
     | (rw [XA (by show ¬(Zx a = 0 ∧ Zx b = 0 ∧ a.g = b.g ∧ (dr2 a b).2 = true ∧ Zx (dr2 a b).1 = 0); simp_all [XV]; done)]; rfl)
     | (rw [U4 (by show Zx a = 0 ∧ Zx b = 0 ∧ a.g = b.g ∧ (dr2 a b).2 = true ∧ Zx (dr2 a b).1 = 0; simp_all [XV]; done)]; rfl)
     | trace_state
set_option maxHeartbeats 4000000 in
theorem Z9R (a b : Qd) (ha : QdSm a) (hb : QdSm b) : Does Tryz.prog tab 37 0 [.int .i64 3, a.sv, b.sv] [] [] (Val (.tup [(Zm 3 a b).1.sv, .bool (Zm 3 a b).2])) := by
 have hd : QdSm (dr3 a b).1 := XX (n := 3) ha hb
 have hf := ZC (dr3 a b).1 hd
 unfold Qd.sv
 refine Does.enter Z2 (g := 37) (fn := Tryz.f37) Tryz.call37 Tryz.func37 rfl 60 rfl rfl [.cell 6 30, .tmp 7] rfl ?_
 intro w0 F η0 h0
 conv => whnf
 refine CALL.aA [] (Y7) ?_
 rintro r O' nx' ⟨rfl, rfl, rfl⟩
 conv => whnf
 refine NEED.mk ⟨rfl, rfl, rfl, rfl, rfl⟩ ?_
 conv => whnf
 repeat' ((first | refine DRAWN.of (id := 4) Z2 Z8 VF (by kernel_rfl) ?_ | refine ADD.mk (fun _ _ => ?_) | refine AD ?_ | refine FORK.mk ?_ ?_ | refine CALL.value (ZC a ha) rfl rfl ?_ | refine CALL.value (ZC b hb) rfl rfl ?_ | refine CALL.value (Z9N a b) rfl rfl ?_ | refine CALL.value (hf) rfl rfl ?_ | refine AU ?_ | (refine IW (fun h => ?_) (fun h => ?_) <;> try (exfalso; omega))) <;> conv => whnf)
 all_goals
   clear hf hd ha hb
   refine FIN.value h0 rfl ?_
   first
     | (rw [XA (by show ¬(Zx a = 0 ∧ Zx b = 0 ∧ a.g = b.g ∧ (dr3 a b).2 = true ∧ Zx (dr3 a b).1 = 0); simp_all [XV]; done)]; rfl)
     | (rw [U4 (by show Zx a = 0 ∧ Zx b = 0 ∧ a.g = b.g ∧ (dr3 a b).2 = true ∧ Zx (dr3 a b).1 = 0; simp_all [XV]; done)]; rfl)
     | trace_state
set_option maxHeartbeats 4000000 in
theorem Z9S (a b : Qd) (ha : QdSm a) (hb : QdSm b) : Does Tryz.prog tab 37 0 [.int .i64 5, a.sv, b.sv] [] [] (Val (.tup [(Zm 5 a b).1.sv, .bool (Zm 5 a b).2])) := by
 have hd : QdSm (chn subP a b).1 := XX (n := 5) ha hb
 have hf := ZC (chn subP a b).1 hd
 unfold Qd.sv
 refine Does.enter Z2 (g := 37) (fn := Tryz.f37) Tryz.call37 Tryz.func37 rfl 60 rfl rfl [.cell 6 30, .tmp 7] rfl ?_
 intro w0 F η0 h0
 conv => whnf
 refine CALL.aA [] (Y7) ?_
 rintro r O' nx' ⟨rfl, rfl, rfl⟩
 conv => whnf
 refine NEED.mk ⟨rfl, rfl, rfl, rfl, rfl⟩ ?_
 conv => whnf
 repeat' ((first | refine DRAWN.of (id := 4) Z2 Z8 VF (by kernel_rfl) ?_ | refine ADD.mk (fun _ _ => ?_) | refine AD ?_ | refine FORK.mk ?_ ?_ | refine CALL.value (ZC a ha) rfl rfl ?_ | refine CALL.value (ZC b hb) rfl rfl ?_ | (refine CALL.looks [3] (Z31 subP a b) rfl rfl rfl rfl ⟨⟨rfl, rfl, rfl⟩, trivial⟩ ?_; conv => whnf) | refine CALL.value (hf) rfl rfl ?_ | refine AU ?_ | (refine IW (fun h => ?_) (fun h => ?_) <;> try (exfalso; omega))) <;> conv => whnf)
 all_goals
   clear hf hd ha hb
   refine FIN.value h0 rfl ?_
   first
     | (rw [XA (by show ¬(Zx a = 0 ∧ Zx b = 0 ∧ a.g = b.g ∧ (chn subP a b).2 = true ∧ Zx (chn subP a b).1 = 0); simp_all [XV]; done)]; rfl)
     | (rw [U4 (by show Zx a = 0 ∧ Zx b = 0 ∧ a.g = b.g ∧ (chn subP a b).2 = true ∧ Zx (chn subP a b).1 = 0; simp_all [XV]; done)]; rfl)
     | trace_state
set_option maxHeartbeats 4000000 in
theorem Z9T (a b : Qd) (ha : QdSm a) (hb : QdSm b) : Does Tryz.prog tab 37 0 [.int .i64 7, a.sv, b.sv] [] [] (Val (.tup [(Zm 7 a b).1.sv, .bool (Zm 7 a b).2])) := by
 have hd : QdSm (dr7 a b).1 := XX (n := 7) ha hb
 have hf := ZC (dr7 a b).1 hd
 unfold Qd.sv
 refine Does.enter Z2 (g := 37) (fn := Tryz.f37) Tryz.call37 Tryz.func37 rfl 60 rfl rfl [.cell 6 30, .tmp 7] rfl ?_
 intro w0 F η0 h0
 conv => whnf
 refine CALL.aA [] (Y7) ?_
 rintro r O' nx' ⟨rfl, rfl, rfl⟩
 conv => whnf
 refine NEED.mk ⟨rfl, rfl, rfl, rfl, rfl⟩ ?_
 conv => whnf
 repeat' ((first | refine DRAWN.of (id := 4) Z2 Z8 VF (by kernel_rfl) ?_ | refine ADD.mk (fun _ _ => ?_) | refine AD ?_ | refine FORK.mk ?_ ?_ | refine CALL.value (ZC a ha) rfl rfl ?_ | refine CALL.value (ZC b hb) rfl rfl ?_ | refine CALL.value (Z9O a b) rfl rfl ?_ | refine CALL.value (hf) rfl rfl ?_ | refine AU ?_ | (refine IW (fun h => ?_) (fun h => ?_) <;> try (exfalso; omega))) <;> conv => whnf)
 all_goals
   clear hf hd ha hb
   refine FIN.value h0 rfl ?_
   first
     | (rw [XA (by show ¬(Zx a = 0 ∧ Zx b = 0 ∧ a.g = b.g ∧ (dr7 a b).2 = true ∧ Zx (dr7 a b).1 = 0); simp_all [XV]; done)]; rfl)
     | (rw [U4 (by show Zx a = 0 ∧ Zx b = 0 ∧ a.g = b.g ∧ (dr7 a b).2 = true ∧ Zx (dr7 a b).1 = 0; simp_all [XV]; done)]; rfl)
     | trace_state
set_option maxHeartbeats 4000000 in
theorem Z9U (a b : Qd) (ha : QdSm a) (hb : QdSm b) : Does Tryz.prog tab 37 0 [.int .i64 9, a.sv, b.sv] [] [] (Val (.tup [(Zm 9 a b).1.sv, .bool (Zm 9 a b).2])) := by
 have hd : QdSm (dr9 a b).1 := XX (n := 9) ha hb
 have hf := ZC (dr9 a b).1 hd
 unfold Qd.sv
 refine Does.enter Z2 (g := 37) (fn := Tryz.f37) Tryz.call37 Tryz.func37 rfl 60 rfl rfl [.cell 6 30, .tmp 7] rfl ?_
 intro w0 F η0 h0
 conv => whnf
 refine CALL.aA [] (Y7) ?_
 rintro r O' nx' ⟨rfl, rfl, rfl⟩
 conv => whnf
 refine NEED.mk ⟨rfl, rfl, rfl, rfl, rfl⟩ ?_
 conv => whnf
 repeat' ((first | refine DRAWN.of (id := 4) Z2 Z8 VF (by kernel_rfl) ?_ | refine ADD.mk (fun _ _ => ?_) | refine AD ?_ | refine FORK.mk ?_ ?_ | refine CALL.value (ZC a ha) rfl rfl ?_ | refine CALL.value (ZC b hb) rfl rfl ?_ | refine CALL.value (Z9P a b) rfl rfl ?_ | refine CALL.value (hf) rfl rfl ?_ | refine AU ?_ | (refine IW (fun h => ?_) (fun h => ?_) <;> try (exfalso; omega))) <;> conv => whnf)
 all_goals
   clear hf hd ha hb
   refine FIN.value h0 rfl ?_
   first
     | (rw [XA (by show ¬(Zx a = 0 ∧ Zx b = 0 ∧ a.g = b.g ∧ (dr9 a b).2 = true ∧ Zx (dr9 a b).1 = 0); simp_all [XV]; done)]; rfl)
     | (rw [U4 (by show Zx a = 0 ∧ Zx b = 0 ∧ a.g = b.g ∧ (dr9 a b).2 = true ∧ Zx (dr9 a b).1 = 0; simp_all [XV]; done)]; rfl)
     | trace_state
set_option maxHeartbeats 4000000 in
theorem Z7C (a b : Qd) (ha : QdSm a) (hb : QdSm b) : Does Tryz.prog tab 37 0 [.int .i64 11, a.sv, b.sv] [] [] (Val (.tup [(Zm 11 a b).1.sv, .bool (Zm 11 a b).2])) := by
 have hd : QdSm (chn subC a b).1 := XX (n := 11) ha hb
 have hf := ZC (chn subC a b).1 hd
 unfold Qd.sv
 refine Does.enter Z2 (g := 37) (fn := Tryz.f37) Tryz.call37 Tryz.func37 rfl 60 rfl rfl [.cell 6 30, .tmp 7] rfl ?_
 intro w0 F η0 h0
 conv => whnf
 refine CALL.aA [] (Y7) ?_
 rintro r O' nx' ⟨rfl, rfl, rfl⟩
 conv => whnf
 refine NEED.mk ⟨rfl, rfl, rfl, rfl, rfl⟩ ?_
 conv => whnf
 repeat' ((first | refine DRAWN.of (id := 4) Z2 Z8 VF (by kernel_rfl) ?_ | refine ADD.mk (fun _ _ => ?_) | refine AD ?_ | refine FORK.mk ?_ ?_ | refine CALL.value (ZC a ha) rfl rfl ?_ | refine CALL.value (ZC b hb) rfl rfl ?_ | (refine CALL.looks [4] (Z31 subC a b) rfl rfl rfl rfl ⟨⟨rfl, rfl, rfl⟩, trivial⟩ ?_; conv => whnf) | refine CALL.value (hf) rfl rfl ?_ | refine AU ?_ | (refine IW (fun h => ?_) (fun h => ?_) <;> try (exfalso; omega))) <;> conv => whnf)
 all_goals
   clear hf hd ha hb
   refine FIN.value h0 rfl ?_
   first
     | (rw [XA (by show ¬(Zx a = 0 ∧ Zx b = 0 ∧ a.g = b.g ∧ (chn subC a b).2 = true ∧ Zx (chn subC a b).1 = 0); simp_all [XV]; done)]; rfl)
     | (rw [U4 (by show Zx a = 0 ∧ Zx b = 0 ∧ a.g = b.g ∧ (chn subC a b).2 = true ∧ Zx (chn subC a b).1 = 0; simp_all [XV]; done)]; rfl)
     | trace_state
theorem Z9V (a b : Qd) : Does Tryz.prog tab 37 0 [.int .i64 0, a.sv, b.sv] [] [] (Val (.tup [(Zm 0 a b).1.sv, .bool (Zm 0 a b).2])) := by
 have hn : Zm 0 a b = (Jk, false) := XA (by rw [Yy (by omega)]; simp)
 unfold Qd.sv
 refine Does.enter Z2 (g := 37) (fn := Tryz.f37) Tryz.call37 Tryz.func37 rfl 60 rfl rfl [.cell 6 30, .tmp 7] rfl ?_
 intro w0 F η0 h0
 conv => whnf
 refine CALL.aA [] (Y7) ?_
 rintro r O' nx' ⟨rfl, rfl, rfl⟩
 conv => whnf
 refine NEED.mk ⟨rfl, rfl, rfl, rfl, rfl⟩ ?_
 conv => whnf
 repeat' ((first | refine AU ?_ | (refine IW (fun h => ?_) (fun h => ?_) <;> try (exfalso; omega))) <;> conv => whnf)
 all_goals
   refine FIN.value h0 rfl ?_
   rw [hn]; rfl
theorem Z9W (a b : Qd) : Does Tryz.prog tab 37 0 [.int .i64 1, a.sv, b.sv] [] [] (Val (.tup [(Zm 1 a b).1.sv, .bool (Zm 1 a b).2])) := by
 have hn : Zm 1 a b = (Jk, false) := XA (by rw [Yy (by omega)]; simp)
 unfold Qd.sv
 refine Does.enter Z2 (g := 37) (fn := Tryz.f37) Tryz.call37 Tryz.func37 rfl 60 rfl rfl [.cell 6 30, .tmp 7] rfl ?_
 intro w0 F η0 h0
 conv => whnf
 refine CALL.aA [] (Y7) ?_
 rintro r O' nx' ⟨rfl, rfl, rfl⟩
 conv => whnf
 refine NEED.mk ⟨rfl, rfl, rfl, rfl, rfl⟩ ?_
 conv => whnf
 repeat' ((first | refine AU ?_ | (refine IW (fun h => ?_) (fun h => ?_) <;> try (exfalso; omega))) <;> conv => whnf)
 all_goals
   refine FIN.value h0 rfl ?_
   rw [hn]; rfl
theorem Z9X (a b : Qd) : Does Tryz.prog tab 37 0 [.int .i64 4, a.sv, b.sv] [] [] (Val (.tup [(Zm 4 a b).1.sv, .bool (Zm 4 a b).2])) := by
 have hn : Zm 4 a b = (Jk, false) := XA (by rw [Yy (by omega)]; simp)
 unfold Qd.sv
 refine Does.enter Z2 (g := 37) (fn := Tryz.f37) Tryz.call37 Tryz.func37 rfl 60 rfl rfl [.cell 6 30, .tmp 7] rfl ?_
 intro w0 F η0 h0
 conv => whnf
 refine CALL.aA [] (Y7) ?_
 rintro r O' nx' ⟨rfl, rfl, rfl⟩
 conv => whnf
 refine NEED.mk ⟨rfl, rfl, rfl, rfl, rfl⟩ ?_
 conv => whnf
 repeat' ((first | refine AU ?_ | (refine IW (fun h => ?_) (fun h => ?_) <;> try (exfalso; omega))) <;> conv => whnf)
 all_goals
   refine FIN.value h0 rfl ?_
   rw [hn]; rfl
theorem Z9Y (a b : Qd) : Does Tryz.prog tab 37 0 [.int .i64 6, a.sv, b.sv] [] [] (Val (.tup [(Zm 6 a b).1.sv, .bool (Zm 6 a b).2])) := by
 have hn : Zm 6 a b = (Jk, false) := XA (by rw [Yy (by omega)]; simp)
 unfold Qd.sv
 refine Does.enter Z2 (g := 37) (fn := Tryz.f37) Tryz.call37 Tryz.func37 rfl 60 rfl rfl [.cell 6 30, .tmp 7] rfl ?_
 intro w0 F η0 h0
 conv => whnf
 refine CALL.aA [] (Y7) ?_
 rintro r O' nx' ⟨rfl, rfl, rfl⟩
 conv => whnf
 refine NEED.mk ⟨rfl, rfl, rfl, rfl, rfl⟩ ?_
 conv => whnf
 repeat' ((first | refine AU ?_ | (refine IW (fun h => ?_) (fun h => ?_) <;> try (exfalso; omega))) <;> conv => whnf)
 all_goals
   refine FIN.value h0 rfl ?_
   rw [hn]; rfl
theorem Z9Z (a b : Qd) : Does Tryz.prog tab 37 0 [.int .i64 8, a.sv, b.sv] [] [] (Val (.tup [(Zm 8 a b).1.sv, .bool (Zm 8 a b).2])) := by
 have hn : Zm 8 a b = (Jk, false) := XA (by rw [Yy (by omega)]; simp)
 unfold Qd.sv
 refine Does.enter Z2 (g := 37) (fn := Tryz.f37) Tryz.call37 Tryz.func37 rfl 60 rfl rfl [.cell 6 30, .tmp 7] rfl ?_
 intro w0 F η0 h0
 conv => whnf
 refine CALL.aA [] (Y7) ?_
 rintro r O' nx' ⟨rfl, rfl, rfl⟩
 conv => whnf
 refine NEED.mk ⟨rfl, rfl, rfl, rfl, rfl⟩ ?_
 conv => whnf
 repeat' ((first | refine AU ?_ | (refine IW (fun h => ?_) (fun h => ?_) <;> try (exfalso; omega))) <;> conv => whnf)
 all_goals
   refine FIN.value h0 rfl ?_
   rw [hn]; rfl
theorem Z7D (a b : Qd) : Does Tryz.prog tab 37 0 [.int .i64 10, a.sv, b.sv] [] [] (Val (.tup [(Zm 10 a b).1.sv, .bool (Zm 10 a b).2])) := by
 have hn : Zm 10 a b = (Jk, false) := XA (by rw [Yy (by omega)]; simp)
 unfold Qd.sv
 refine Does.enter Z2 (g := 37) (fn := Tryz.f37) Tryz.call37 Tryz.func37 rfl 60 rfl rfl [.cell 6 30, .tmp 7] rfl ?_
 intro w0 F η0 h0
 conv => whnf
 refine CALL.aA [] (Y7) ?_
 rintro r O' nx' ⟨rfl, rfl, rfl⟩
 conv => whnf
 refine NEED.mk ⟨rfl, rfl, rfl, rfl, rfl⟩ ?_
 conv => whnf
 repeat' ((first | refine AU ?_ | (refine IW (fun h => ?_) (fun h => ?_) <;> try (exfalso; omega))) <;> conv => whnf)
 all_goals
   refine FIN.value h0 rfl ?_
   rw [hn]; rfl
theorem Za0 (n : Int) (hx : n < 0 ∨ 12 ≤ n) (a b : Qd) : Does Tryz.prog tab 37 0 [.int .i64 n, a.sv, b.sv] [] [] (Val (.tup [(Zm n a b).1.sv, .bool (Zm n a b).2])) := by
 have hn : Zm n a b = (Jk, false) := XA (by rw [Yy (by omega)]; simp)
 unfold Qd.sv
 refine Does.enter Z2 (g := 37) (fn := Tryz.f37) Tryz.call37 Tryz.func37 rfl 60 rfl rfl [.cell 6 30, .tmp 7] rfl ?_
 intro w0 F η0 h0
 conv => whnf
 refine CALL.aA [] (Y7) ?_
 rintro r O' nx' ⟨rfl, rfl, rfl⟩
 conv => whnf
 refine NEED.mk ⟨rfl, rfl, rfl, rfl, rfl⟩ ?_
 conv => whnf
 repeat' ((first | refine AU ?_ | (refine IW (fun h => ?_) (fun h => ?_) <;> try (exfalso; omega))) <;> conv => whnf)
 all_goals first
   | (refine FIN.value h0 rfl ?_; rw [hn]; rfl)
   | (exfalso; omega)
   | trace_state
theorem Z6r (n : Int) (a b : Qd) (ha : QdSm a) (hb : QdSm b) : Does Tryz.prog tab 37 0 [.int .i64 n, a.sv, b.sv] [] [] (Val (.tup [(Zm n a b).1.sv, .bool (Zm n a b).2])) := by
 by_cases hx : n < 0 ∨ 12 ≤ n
 · exact Za0 n hx a b
 · have : n = 0 ∨ n = 1 ∨ n = 2 ∨ n = 3 ∨ n = 4 ∨ n = 5 ∨ n = 6 ∨ n = 7 ∨ n = 8 ∨ n = 9 ∨ n = 10 ∨ n = 11 := by omega
   rcases this with rfl | rfl | rfl | rfl | rfl | rfl | rfl | rfl | rfl | rfl | rfl | rfl
   · exact Z9V a b
   · exact Z9W a b
   · exact Z9Q a b ha hb
   · exact Z9R a b ha hb
   · exact Z9X a b
   · exact Z9S a b ha hb
   · exact Z9Y a b
   · exact Z9T a b ha hb
   · exact Z9Z a b
   · exact Z9U a b ha hb
   · exact Z7D a b
   · exact Z7C a b ha hb
end Go.Proofs.YtjbbkimodgffiaaGreatDoor
namespace Go.Proofs.YtjbbkimodgffiaaGreatDoor
open Go.Sx Go.Our
set_option maxHeartbeats 4000000 in
theorem Z42 (n : Int) (a b : Qd) (ha : QdSm a) (hb : QdSm b) : Does Tryz.prog tab 39 0 [.int .i64 n, a.sv, b.sv] [] [] (Val (.tup [(Zm n a b).1.sv, .bool (Zm n a b).2])) := by
 have h1 := XD a ha
 have h2 := XD b hb
 have h3 := Z7E n a b
 have h4 := XD (ZA n a b).1 (XX ha hb)
 unfold Qd.sv at h1 h2 h3 h4 ⊢
 refine Does.enter Z2 (g := 39) (fn := Tryz.f39) Tryz.call39 Tryz.func39 rfl 42 rfl rfl [.cell 6 30, .tmp 7] rfl ?_
 intro w0 F η0 h0
 conv => whnf
 repeat' ((first | refine ADD.mk (fun _ _ => ?_) | refine AD ?_ | refine FORK.mk ?_ ?_ | refine CALL.value (h1) rfl rfl ?_ | refine CALL.value (h2) rfl rfl ?_ | refine CALL.value (h3) rfl rfl ?_ | refine CALL.value (h4) rfl rfl ?_ | refine AU ?_ | (refine IW (fun h => ?_) (fun h => ?_) <;> try (exfalso; omega))) <;> conv => whnf)
 all_goals
   clear h1 h2 h3 h4 ha hb
   refine FIN.value h0 rfl ?_
   first
     | (rw [XA (by simp_all [XV]; done)]; rfl)
     | (rw [U4 (by simp_all [XV]; done)])
     | trace_state
abbrev StSm (s : St) : Prop := QdSm s.a ∧ QdSm s.b ∧ QdSm s.q
theorem Z7Q (l z : List Qd) (sts zs : List St) (lim lim' : Option Nat) (hl : l.length ≤ 2097152) (hz : (l ++ z).length ≤ 1152921504606846976) (hs : sts.length ≤ 2097152) (hzs : (sts ++ zs).length ≤ 1152921504606846976) (hsm : ∀ s ∈ sts, StSm s) : Does Tryz.prog tab 12 2 [.sl (.loc 0) 0 16 l.length lim, .sl (.loc 1) 0 49 sts.length lim'] [] [(0, .rows 16 ((l ++ z).map Zf)), (1, .rows 49 ((sts ++ zs).map YK))] (ValK 2 (.bool (V5 l sts))) := by
 refine Does.enter Z2 (g := 12) (fn := Tryz.f12) Tryz.call12 Tryz.func12 rfl 67 rfl rfl [.tmp 4] rfl ?_
 intro w0 F η0 h0
 conv => whnf
 repeat' ((first | refine AU ?_ | (refine IW (fun h => ?_) (fun h => ?_) <;> try (exfalso; omega))) <;> conv => whnf)
 refine LOOP.gok Z2 [0, 1, 5] [] (X := Nat) (fun i => i ≤ l.length) (fun i => [(6, .int .i64 (i : Int))]) (fun i => [(2, .mp (YQ (YY (l.take i))))]) 3 (fun i => l.length - i) 0 (by omega) ?_
 conv => whnf
 refine ⟨by (refine GOES.cutting h0 rfl rfl rfl (by (repeat' (first | (refine ZG rfl ?_ ?_) | exact Zt (Zc _) | exact Zn (Zc _) | exact Zt (Zv _) | exact Zn (Zv _) | exact YR (ZT _) | rfl))) ?_ ?_ <;> (repeat' (first | (with_reducible rfl) | exact trivial | (exact Zu rfl (by first | omega | (simp (disch := omega) only [lnB, Z5, Z9] <;> omega) | (simp; done) | (simp <;> omega))) | (exact congrArg (SV.int _) (by first | omega | (simp (disch := omega) only [lnB, Z5, Z9] <;> omega) | (simp; done) | (simp <;> omega))) | (exact X1 (by first | omega | (simp (disch := omega) only [lnB, Z5, Z9] <;> omega) | (simp; done) | (simp <;> omega))) | (exact Jj (by first | omega | (simp (disch := omega) only [lnB, Z5, Z9] <;> omega) | (simp; done) | (simp <;> omega))) | (exact Zk _ (h := .rows _ _) (Zc _)) | (exact Zk _ (h := .rows _ _) (Zv _)) | (exact congrArg (Hp.rows _) (by rfl)) | ((conv => whnf); refine ⟨?_, ?_⟩) | rfl))), ?_⟩
 intro i hi
 conv => whnf
 by_cases hil : i < l.length
 · have gi : ((l ++ z).map Zf)[0 + (i : Int).toNat]? = some (Zf l[i]) := by
     rw [show 0 + (i : Int).toNat = i by omega, List.getElem?_map, List.getElem?_append_left hil, List.getElem?_eq_getElem hil]; rfl
   have hk : YY (l.take (i + 1)) = setA l[i] 1 (YY (l.take i)) := by rw [List.take_succ_eq_append_getElem hil, UY]
   repeat' ((first | (refine GET.at gi ?_; conv => whnf) | (refine NEED.mk ⟨KQ.ok _, Xc KQ _ _⟩ ?_; conv => whnf) | refine AU ?_ | (refine IW (fun h => ?_) (fun h => ?_) <;> try (exfalso; omega))) <;> conv => whnf)
   refine ⟨i + 1, by omega, by omega, ?_⟩
   rw [hk]
   conv => whnf
   (refine GOES.cutting h0 rfl rfl rfl (by (repeat' (first | (refine ZG rfl ?_ ?_) | exact Zt (Zc _) | exact Zn (Zc _) | exact Zt (Zv _) | exact Zn (Zv _) | exact YR (ZT _) | rfl))) ?_ ?_ <;> (repeat' (first | exact congrArg Hp.mp (Z2A KQ intV _ _ _) | (with_reducible rfl) | exact trivial | (exact Zu rfl (by first | omega | (simp (disch := omega) only [lnB, Z5, Z9] <;> omega) | (simp; done) | (simp <;> omega))) | (exact congrArg (SV.int _) (by first | omega | (simp (disch := omega) only [lnB, Z5, Z9] <;> omega) | (simp; done) | (simp <;> omega))) | (exact X1 (by first | omega | (simp (disch := omega) only [lnB, Z5, Z9] <;> omega) | (simp; done) | (simp <;> omega))) | (exact Jj (by first | omega | (simp (disch := omega) only [lnB, Z5, Z9] <;> omega) | (simp; done) | (simp <;> omega))) | (exact Zk _ (h := .rows _ _) (Zc _)) | (exact Zk _ (h := .rows _ _) (Zv _)) | (exact congrArg (Hp.rows _) (by rfl)) | ((conv => whnf); refine ⟨?_, ?_⟩) | rfl)))
 have hie : i = l.length := by omega
 subst hie
 rw [List.take_length]
 repeat' ((first | refine AU ?_ | (refine IW (fun h => ?_) (fun h => ?_) <;> try (exfalso; omega))) <;> conv => whnf)
 refine LOOP.gok Z2 [1, 5] [] (X := Nat) (fun i => i ≤ sts.length ∧ V5 l sts = V5 (l ++ (sts.take i).map St.q) (sts.drop i)) (fun i => [(7, .int .i64 (i : Int))]) (fun i => [(2, .mp (YQ (YY (l ++ (sts.take i).map St.q))))]) 3 (fun i => sts.length - i) 0 ⟨by omega, by simp⟩ ?_
 conv => whnf
 refine ⟨by (refine GOES.cutting h0 rfl rfl rfl (by (repeat' (first | (refine ZG rfl ?_ ?_) | exact Zt (Zc _) | exact Zn (Zc _) | exact Zt (Zv _) | exact Zn (Zv _) | exact YR (ZT _) | rfl))) ?_ ?_ <;> (repeat' (first | exact congrArg Hp.mp (by simp) | (with_reducible rfl) | exact trivial | (exact Zu rfl (by first | omega | (simp (disch := omega) only [lnB, Z5, Z9] <;> omega) | (simp; done) | (simp <;> omega))) | (exact congrArg (SV.int _) (by first | omega | (simp (disch := omega) only [lnB, Z5, Z9] <;> omega) | (simp; done) | (simp <;> omega))) | (exact X1 (by first | omega | (simp (disch := omega) only [lnB, Z5, Z9] <;> omega) | (simp; done) | (simp <;> omega))) | (exact Jj (by first | omega | (simp (disch := omega) only [lnB, Z5, Z9] <;> omega) | (simp; done) | (simp <;> omega))) | (exact Zk _ (h := .rows _ _) (Zc _)) | (exact Zk _ (h := .rows _ _) (Zv _)) | (exact congrArg (Hp.rows _) (by (simp))) | ((conv => whnf); refine ⟨?_, ?_⟩) | rfl))), ?_⟩
 rintro i ⟨hi, hh⟩
 conv => whnf
 by_cases hil : i < sts.length
 · have hha := Zbj (l := l) hil
   rw [← hh] at hha
   have hsm := hsm sts[i] (List.getElem_mem _)
   have hdr := Z42 sts[i].r sts[i].a sts[i].b hsm.1 hsm.2.1
   have gi : ((sts ++ zs).map YK)[0 + (i : Int).toNat]? = some (YK sts[i]) := by
     rw [show 0 + (i : Int).toNat = i by omega, List.getElem?_map, List.getElem?_append_left hil, List.getElem?_eq_getElem hil]; rfl
   have hk : YY (l ++ (sts.take (i + 1)).map St.q) = setA sts[i].q 1 (YY (l ++ (sts.take i).map St.q)) := by
     rw [List.take_succ_eq_append_getElem hil, List.map_append, ← List.append_assoc]
     exact UY _ _
   generalize sts[i] = s at *
   generalize hD : Zm s.r s.a s.b = D at *
   obtain ⟨dq, db⟩ := D
   repeat' ((first | refine ADD.mk (fun _ _ => ?_) | refine AD ?_ | refine FORK.mk ?_ ?_ | (refine GET.at gi ?_; conv => whnf) | (refine NEED.mk ⟨KQ.ok _, Xc KQ _ _⟩ ?_; conv => whnf) | (refine FIND.A KQ intV s.a _ (fun _ _ ha => ?_) (fun ha => ?_); conv => whnf) | (refine FIND.A KQ intV s.b _ (fun _ _ hb => ?_) (fun hb => ?_); conv => whnf) | refine CALL.value (hdr) rfl rfl ?_ | refine AU ?_ | (refine IW (fun h => ?_) (fun h => ?_) <;> try (exfalso; omega))) <;> conv => whnf)
   all_goals first
     | (exfalso
        first
          | (have h5 := (Jt ha).2; simp only at h5; omega)
          | (have h5 := (Jt hb).2; simp only at h5; omega))
     | (refine FIN.valueK h0 rfl (congrArg SV.bool ?_)
        rw [hha, Zed ?_]
        · rfl
        · rintro ⟨h1, h2, h3, h4⟩
          rw [hD] at h1 h2
          simp only at h1 h2
          first
            | exact absurd h3 (Z0w ha)
            | exact absurd h4 (Z0w hb)
            | (subst h2; simp_all; done))
     | skip
   have h3 := (Jt ha).1
   have h4 := (Jt hb).1
   rw [Z8z ⟨by rw [hD]; assumption, by rw [hD]; exact Qd.ext' (by simp only [Zf, Qd.row, List.cons.injEq, SV.int.injEq, SV.str.injEq, true_and, and_true]; assumption), h3, h4⟩, Bool.true_and] at hha
   have hqs : dq = s.q := Qd.ext' (by simp only [Zf, Qd.row, List.cons.injEq, SV.int.injEq, SV.str.injEq, true_and, and_true]; assumption)
   subst hqs
   refine ⟨i + 1, ⟨by omega, hha⟩, by omega, ?_⟩
   rw [hk]
   conv => whnf
   (refine GOES.cutting h0 rfl rfl rfl (by (repeat' (first | (refine ZG rfl ?_ ?_) | exact Zt (Zc _) | exact Zn (Zc _) | exact Zt (Zv _) | exact Zn (Zv _) | exact YR (ZT _) | rfl))) ?_ ?_ <;> (repeat' (first | exact congrArg Hp.mp (Z2A KQ intV _ _ _) | (with_reducible rfl) | exact trivial | (exact Zu rfl (by first | omega | (simp (disch := omega) only [lnB, Z5, Z9] <;> omega) | (simp; done) | (simp <;> omega))) | (exact congrArg (SV.int _) (by first | omega | (simp (disch := omega) only [lnB, Z5, Z9] <;> omega) | (simp; done) | (simp <;> omega))) | (exact X1 (by first | omega | (simp (disch := omega) only [lnB, Z5, Z9] <;> omega) | (simp; done) | (simp <;> omega))) | (exact Jj (by first | omega | (simp (disch := omega) only [lnB, Z5, Z9] <;> omega) | (simp; done) | (simp <;> omega))) | (exact Zk _ (h := .rows _ _) (Zc _)) | (exact Zk _ (h := .rows _ _) (Zv _)) | (exact congrArg (Hp.rows _) (by rfl)) | ((conv => whnf); refine ⟨?_, ?_⟩) | rfl)))
 · have hie : i = sts.length := by omega
   subst hie
   repeat' ((first | refine AU ?_ | (refine IW (fun h => ?_) (fun h => ?_) <;> try (exfalso; omega))) <;> conv => whnf)
   refine FIN.valueK h0 rfl (congrArg SV.bool ?_)
   rw [hh, List.drop_length]; rfl
def ZbP : Plan := (Zj [(0, 1), (1, 2), (2, 3), (3, 1), (4, 1), (5, 1), (6, 2), (7, 3), (8, 1), (9, 1), (10, 1), (11, 1), (12, 2), (13, 3), (14, 1), (15, 1), (16, 1), (17, 1), (18, 2), (19, 3), (20, 1), (21, 1), (22, 1)])
def Z6P : Plan := (.take 0 1 (.take 1 1 (.take 3 1 (.take 4 1 (.take 5 1 (.take 7 1 (.take 8 1 (.take 9 1 (.take 2 2 (.take 6 2 (.take 10 2 (.fork 11 3 15 3 (Zj [(12, 1), (13, 1), (14, 1), (15, 3), (16, 0), (17, 1)]) (Zj [(11, 3), (12, 1), (13, 1), (14, 1), (16, 0), (17, 1)])))))))))))))
theorem Z7R : Does Tryz.prog tab 76 0 [] [] [] (Val (.arr 1 [[.int .i64 2], [.int .i64 3], [.int .i64 5], [.int .i64 7], [.int .i64 9], [.int .i64 11]])) := by
 refine Does.enter Z2 (g := 76) (fn := Tryz.f76) Tryz.call76 Tryz.func76 rfl 2 rfl rfl [.cell 0 112] rfl ?_
 intro w0 F η0 h0
 conv => whnf
 repeat' ((first | refine AU ?_ | (refine IW (fun h => ?_) (fun h => ?_) <;> try (exfalso; omega))) <;> conv => whnf)
 exact FIN.value h0 rfl rfl
theorem Z3b (q : Qd) : Does Tryz.prog tab 77 0 [.agg (Zf q)] [] [] (Val (.bool (Z35 q))) := by
 refine Does.enter Z2 (g := 77) (fn := Tryz.f77) Tryz.call77 Tryz.func77 rfl 25 rfl rfl [.tmp 2] rfl ?_
 intro w0 F η0 h0
 conv => whnf
 repeat' ((first | refine DRAWN.of (id := 1) Z2 Z8 ZbP (by kernel_rfl) ?_ | refine ADD.mk (fun _ _ => ?_) | refine AD ?_ | refine FORK.mk ?_ ?_ | refine CALL.value (Ja [100, 111, 109, 97, 105, 110] (by simp)) rfl rfl ?_ | refine CALL.value (Ja [114, 97, 110, 103, 101] (by simp)) rfl rfl ?_ | refine CALL.value (Ja [115, 117, 98, 80, 114, 111, 112, 101, 114, 116, 121, 79, 102] (by simp)) rfl rfl ?_ | refine CALL.value (Ja [115, 117, 98, 67, 108, 97, 115, 115, 79, 102] (by simp)) rfl rfl ?_ | refine AU ?_ | (refine IW (fun h => ?_) (fun h => ?_) <;> try (exfalso; omega))) <;> conv => whnf)
 all_goals
   refine FIN.value h0 rfl (congrArg SV.bool ?_)
   rw [Bool.eq_iff_iff]
   have e1 : domB = Z7m ++ [100, 111, 109, 97, 105, 110] := rfl
   have e2 : ranB = Z7m ++ [114, 97, 110, 103, 101] := rfl
   have e3 : subP = Z7m ++ [115, 117, 98, 80, 114, 111, 112, 101, 114, 116, 121, 79, 102] := rfl
   have e4 : subC = Z7m ++ [115, 117, 98, 67, 108, 97, 115, 115, 79, 102] := rfl
   simp only [Z35, decide_eq_true_eq, XV, e1, e2, e3, e4]
   first
     | (simp_all; done)
     | (have g1 : q.p.k = 1 → q.p.t = Z7m ++ [100, 111, 109, 97, 105, 110] → q.p.y = [] → ¬ q.p.l = [] := by assumption
        have g2 : q.p.k = 1 → q.p.t = Z7m ++ [114, 97, 110, 103, 101] → q.p.y = [] → ¬ q.p.l = [] := by assumption
        constructor
        · intro hc
          exact .inr (.inr (.inr (by simpa using hc)))
        · rintro (hc | hc | hc | hc)
          · exact absurd hc.2.2.2 (g1 hc.1 hc.2.1 hc.2.2.1)
          · exact absurd hc.2.2.2 (g2 hc.1 hc.2.1 hc.2.2.1)
          · exact absurd hc.2.2.2 (h hc.1 hc.2.1 hc.2.2.1)
          · simpa using hc)
abbrev ZbQ : List (List SV) := [[.int .i64 2], [.int .i64 3], [.int .i64 5], [.int .i64 7], [.int .i64 9], [.int .i64 11]]
instance : Pl ZbQ := ⟨rfl⟩
theorem Zeu {n : Nat} (h : n < 6) : ZbQ[n]? = some [.int .i64 (rulesL.getD n 0)] := by
 rcases (show n = 0 ∨ n = 1 ∨ n = 2 ∨ n = 3 ∨ n = 4 ∨ n = 5 by omega) with rfl | rfl | rfl | rfl | rfl | rfl <;> rfl
set_option maxHeartbeats 16000000 in
theorem Z3c (base l z : List Qd) (lim : Option Nat) (hS : ∀ q ∈ l, QdSm q) (ho : ObIn base l) (hl : l.length ≤ 1048576) (hb : base.length ≤ 65536) (hz : (l ++ z).length ≤ 1152921504606846976) : Does Tryz.prog tab 51 1 [.sl (.loc 0) 0 16 l.length lim] [] [(0, .rows 16 ((l ++ z).map Zf))]
   (fun r O nx => ∃ out, DrawsOf l out ∧ r = .sl (.loc 1) 0 16 out.length none ∧ O = [(1, .rows 16 (out.map Zf))] ∧ nx = 2) := by
 have hlen : ∀ out, DrIn l out → out.length ≤ 274877906944 := fun out h => by
   have := Z8O h ho
   have h1 : l.length * (base.length * 4) ≤ 1048576 * (65536 * 4) := Nat.mul_le_mul hl (by omega)
   omega
 refine Does.enter Z2 (g := 51) (fn := Tryz.f51) Tryz.call51 Tryz.func51 rfl 76 rfl rfl [.tmp 2] rfl ?_
 intro w0 F η0 h0
 conv => whnf
 repeat' ((first | refine CALL.value (Z7R) rfl rfl ?_ | (refine NEED.mk ⟨rfl, rfl, rfl, rfl, rfl⟩ ?_; conv => whnf) | refine AU ?_ | (refine IW (fun h => ?_) (fun h => ?_) <;> try (exfalso; omega))) <;> conv => whnf)
 refine LOOP.gok Z2 [0, 3, 4] [1] (X := Nat) (fun i => i ≤ l.length) (fun i => [(5, .int .i64 (i : Int))]) (fun i => [(2, .mp (YQ (YY (l.take i))))]) 3 (fun i => l.length - i) 0 (by omega) ?_
 conv => whnf
 refine ⟨by exact GOES.cA h0, ?_⟩
 intro i hi
 conv => whnf
 by_cases hil : i < l.length
 · have gi : ((l ++ z).map Zf)[0 + (i : Int).toNat]? = some (Zf l[i]) := by
     rw [show 0 + (i : Int).toNat = i by omega, List.getElem?_map, List.getElem?_append_left hil, List.getElem?_eq_getElem hil]; rfl
   have hk : Hp.mp (setM KQ.ks (KQ.enc l[i]) (intV 1) (YQ (YY (l.take i)))) = Hp.mp (YQ (YY (l.take (i + 1)))) := by
     rw [List.take_succ_eq_append_getElem hil, UY]; exact congrArg Hp.mp (Z2A KQ intV _ _ _)
   repeat' ((first | (refine GET.at gi ?_; conv => whnf) | (refine NEED.mk ⟨KQ.ok _, Xc KQ _ _⟩ ?_; conv => whnf) | refine AU ?_ | (refine IW (fun h => ?_) (fun h => ?_) <;> try (exfalso; omega))) <;> conv => whnf)
   refine ⟨i + 1, by omega, by omega, ?_⟩
   conv => whnf
   (refine GOES.cutting h0 rfl rfl rfl (by (repeat' (first | (refine ZG rfl ?_ ?_) | exact Zt (Zc _) | exact Zn (Zc _) | exact YR (ZT _) | rfl))) ?_ ?_ <;> (repeat' (first | exact hk | (with_reducible rfl) | exact trivial | (exact Zu rfl (by first | omega | (simp (disch := omega) only [lnB, Z5, Z9] <;> omega) | (simp; done) | (simp <;> omega))) | (exact congrArg (SV.int _) (by first | omega | (simp (disch := omega) only [lnB, Z5, Z9] <;> omega) | (simp; done) | (simp <;> omega))) | (exact X1 (by first | omega | (simp (disch := omega) only [lnB, Z5, Z9] <;> omega) | (simp; done) | (simp <;> omega))) | (exact Jj (by first | omega | (simp (disch := omega) only [lnB, Z5, Z9] <;> omega) | (simp; done) | (simp <;> omega))) | (exact Zk _ (h := .rows _ _) (Zc _)) | (exact congrArg (Hp.rows _) (by rfl)) | ((conv => whnf); refine ⟨?_, ?_⟩) | rfl)))
 have hie : i = l.length := by omega
 subst hie
 rw [List.take_length]
 repeat' ((first | refine AU ?_ | (refine IW (fun h => ?_) (fun h => ?_) <;> try (exfalso; omega))) <;> conv => whnf)
 refine LOOP.nil 6 16 rfl ?_
 refine LOOP.gok Z2 [0, 3, 4] [1] (X := Nat × List Qd) (fun x => x.1 ≤ l.length ∧ DrIn l x.2 ∧ ∀ a ∈ l.take x.1, ∀ b ∈ l, InP l x.2 a b rulesL) (fun x => [(7, .int .i64 (x.1 : Int)), (6, .sl (.loc 3) 0 16 x.2.length none)]) (fun x => [(2, .mp (YQ (YY (l ++ x.2)))), (3, .rows 16 (x.2.map Zf))]) 4 (fun x => l.length - x.1) (0, []) ⟨by simp, ZcV l, by simp⟩ ?_
 rw [List.append_nil]
 conv => whnf
 refine ⟨by exact GOES.cA h0, ?_⟩
 rintro ⟨i, out⟩ ⟨hi, hD, hC⟩
 dsimp only at hi hD hC ⊢
 conv => whnf
 by_cases hil : i < l.length
 · have gi : ((l ++ z).map Zf)[0 + (i : Int).toNat]? = some (Zf l[i]) := by
     rw [show 0 + (i : Int).toNat = i by omega, List.getElem?_map, List.getElem?_append_left hil, List.getElem?_eq_getElem hil]; rfl
   have him : l[i] ∈ l := List.getElem_mem _
   cases hsc : Z35 l[i] with
   | false =>
     have hsd := Z3b l[i]
     rw [hsc] at hsd
     repeat' ((first | (refine GET.at gi ?_; conv => whnf) | refine CALL.value (hsd) rfl rfl ?_ | refine AU ?_ | (refine IW (fun h => ?_) (fun h => ?_) <;> try (exfalso; omega))) <;> conv => whnf)
     refine ⟨(i + 1, out), ⟨by dsimp only; omega, hD, fun a ha b hb => ?_⟩, by dsimp only; omega, ?_⟩
     · rcases (U9 hil).1 ha with ha | rfl
       · exact hC a ha b hb
       · exact Zfg hsc b
     · conv => whnf
       exact GOES.cA h0
   | true =>
     have hsd := Z3b l[i]
     rw [hsc] at hsd
     repeat' ((first | (refine GET.at gi ?_; conv => whnf) | refine CALL.value (hsd) rfl rfl ?_ | refine AU ?_ | (refine IW (fun h => ?_) (fun h => ?_) <;> try (exfalso; omega))) <;> conv => whnf)
     refine LOOP.gok Z2 [0, 3, 4, 7] [1] (X := Nat × List Qd) (fun x => x.1 ≤ l.length ∧ DrIn l x.2 ∧ (∀ a ∈ l.take i, ∀ b ∈ l, InP l x.2 a b rulesL) ∧ ∀ b ∈ l.take x.1, InP l x.2 l[i] b rulesL) (fun x => [(8, .int .i64 (x.1 : Int)), (6, .sl (.loc 3) 0 16 x.2.length none)]) (fun x => [(2, .mp (YQ (YY (l ++ x.2)))), (3, .rows 16 (x.2.map Zf))]) 4 (fun x => l.length - x.1) (0, out) ⟨by dsimp only; omega, hD, hC, by simp⟩ ?_
     conv => whnf
     refine ⟨by exact GOES.cA h0, ?_⟩
     clear hD hC out
     rintro ⟨k, out⟩ ⟨hk, hD, hC, hK⟩
     dsimp only at hk hD hC hK ⊢
     conv => whnf
     by_cases hkl : k < l.length
     · have gk : ((l ++ z).map Zf)[0 + (k : Int).toNat]? = some (Zf l[k]) := by
         rw [show 0 + (k : Int).toNat = k by omega, List.getElem?_map, List.getElem?_append_left hkl, List.getElem?_eq_getElem hkl]; rfl
       have hkm : l[k] ∈ l := List.getElem_mem _
       repeat' ((first | refine AU ?_ | (refine IW (fun h => ?_) (fun h => ?_) <;> try (exfalso; omega))) <;> conv => whnf)
       refine LOOP.gok Z2 [0, 3, 4, 7, 8] [1] (X := Nat × List Qd) (fun x => x.1 ≤ 6 ∧ DrIn l x.2 ∧ (∀ a ∈ l.take i, ∀ b ∈ l, InP l x.2 a b rulesL) ∧ (∀ b ∈ l.take k, InP l x.2 l[i] b rulesL) ∧ InP l x.2 l[i] l[k] (rulesL.take x.1)) (fun x => [(9, .int .i64 (x.1 : Int)), (6, .sl (.loc 3) 0 16 x.2.length none)]) (fun x => [(2, .mp (YQ (YY (l ++ x.2)))), (3, .rows 16 (x.2.map Zf))]) 4 (fun x => 6 - x.1) (0, out) ⟨by simp, hD, hC, hK, ZcW _ _ _ _ _⟩ ?_
       conv => whnf
       refine ⟨by exact GOES.cA h0, ?_⟩
       clear hD hC hK out
       rintro ⟨n, out⟩ ⟨hn, hD, hC, hK, hN⟩
       dsimp only at hn hD hC hK hN ⊢
       have hol := hlen out hD
       conv => whnf
       by_cases hnl : n < 6
       · have gn : ZbQ[(n : Int).toNat]? = some [.int .i64 (rulesL[n]'hnl)] := by
           rw [show (n : Int).toNat = n by omega]
           have := Zeu hnl
           simpa [List.getD, hnl, rulesL] using this
         have hdr := Z42 (rulesL[n]'hnl) l[i] l[k] (hS _ him) (hS _ hkm)
         have hst := Z8N (ns := rulesL) hnl hN
         generalize hDr : Zm (rulesL[n]'hnl) l[i] l[k] = D at *
         obtain ⟨dq, db⟩ := D
         cases db with
         | false =>
           repeat' ((first | refine DRAWN.of (id := 18) Z2 Z8 Z6P (by kernel_rfl) ?_ | refine ADD.mk (fun _ _ => ?_) | refine AD ?_ | refine FORK.mk ?_ ?_ | (refine GET.at gn ?_; conv => whnf) | (refine GET.at gi ?_; conv => whnf) | (refine GET.at gk ?_; conv => whnf) | refine CALL.value (hdr) rfl rfl ?_ | refine AU ?_ | (refine IW (fun h => ?_) (fun h => ?_) <;> try (exfalso; omega))) <;> conv => whnf)
           all_goals
             refine ⟨(n + 1, out), ⟨by dsimp only; omega, hD, hC, hK, hst (fun h => by cases h)⟩, by dsimp only; omega, ?_⟩
             conv => whnf
             exact GOES.cA h0
         | true =>
           have hk3 : Hp.mp (setM KQ.ks (KQ.enc dq) (intV 1) (YQ (YY (l ++ out)))) = Hp.mp (YQ (YY (l ++ (out ++ [dq])))) := by
             rw [← List.append_assoc, UY]; exact congrArg Hp.mp (Z2A KQ intV _ _ _)
           have hkr : ∀ σ : Nat → Nat, Hp.mp (setM KQ.ks (KQ.enc dq) (intV 1) (YQ (YY (l ++ out)))) = renH σ (Hp.mp (YQ (YY (l ++ (out ++ [dq]))))) := fun σ => hk3.trans renM.symm
           have hgo : (Zm (rulesL[n]'hnl) l[i] l[k]).1 = dq := by rw [hDr]
           have hd2 : (Zm (rulesL[n]'hnl) l[i] l[k]).2 = true := by rw [hDr]
           have hnew : dq ∉ l ++ out → DrIn l (out ++ [dq]) := fun h => by
             have := ZbG hD him hkm hd2 (by rw [hgo]; exact h)
             rwa [hgo] at this
           have hsub : ∀ r ∈ out, r ∈ out ++ [dq] := fun r h => List.mem_append_left _ h
           have hin : dq ∈ l ++ (out ++ [dq]) := by simp
           repeat' ((first | refine DRAWN.of (id := 18) Z2 Z8 Z6P (by kernel_rfl) ?_ | refine ADD.mk (fun _ _ => ?_) | refine AD ?_ | refine FORK.mk ?_ ?_ | (refine GET.at gn ?_; conv => whnf) | (refine GET.at gi ?_; conv => whnf) | (refine GET.at gk ?_; conv => whnf) | refine CALL.value (hdr) rfl rfl ?_ | (refine NEED.mk ⟨KQ.ok _, Xc KQ _ _⟩ ?_; conv => whnf) | (refine FIND.A KQ intV dq _ (fun _ _ ha => ?_) (fun ha => ?_); conv => whnf) | refine AU ?_ | (refine IW (fun h => ?_) (fun h => ?_) <;> try (exfalso; omega))) <;> conv => whnf)
           all_goals first
             | (exfalso
                have h5 := (Jt ha).2
                simp only at h5
                omega)
             | (refine ⟨(n + 1, out), ⟨by dsimp only; omega, hD, hC, hK, hst (fun _ => (Jt ha).1)⟩, by dsimp only; omega, ?_⟩
                (conv => whnf)
                exact GOES.cA h0
                done)
             | (have hno := Z0w ha
                refine ⟨(n + 1, out ++ [dq]), ⟨by dsimp only; omega, hnew hno, fun a ha b hb => Z50 hsub (hC a ha b hb), fun b hb => Z50 hsub (hK b hb), Z8N (ns := rulesL) hnl (Z50 hsub hN) (fun _ => by rw [hgo]; exact hin)⟩, by dsimp only; omega, ?_⟩
                (conv => whnf)
                (refine GOES.keeping h0 [1, 2, 6] rfl rfl rfl (by (repeat' (first | (refine ZG rfl ?_ ?_) | exact Zt (Zc _) | exact Zn (Zc _) | exact YR (ZT _) | rfl))) ?_ ?_ <;> (repeat' (first | exact hkr _ | (with_reducible rfl) | exact trivial | (exact Zu rfl (by first | omega | (simp (disch := omega) only [lnB, Z5, Z9] <;> omega) | (simp; done) | (simp <;> omega))) | (exact congrArg (SV.int _) (by first | omega | (simp (disch := omega) only [lnB, Z5, Z9] <;> omega) | (simp; done) | (simp <;> omega))) | (exact X1 (by first | omega | (simp (disch := omega) only [lnB, Z5, Z9] <;> omega) | (simp; done) | (simp <;> omega))) | (exact Jj (by first | omega | (simp (disch := omega) only [lnB, Z5, Z9] <;> omega) | (simp; done) | (simp <;> omega))) | (exact (Zk _ (h := .rows _ _) (Zc _)).symm) | (exact (Zk _ (h := .rows _ _) (Zc _)).trans (Zk _ (h := .rows _ _) (Zc _)).symm) | (exact Za (Zc _) (by (simp [List.take_of_length_le, ZK, Zf, Qd.row]))) | ((conv => whnf); refine ⟨?_, ?_⟩) | (simp only [ren, renB]; done) | rfl)))
                done)
             | trace_state
       · have hne : n = 6 := by omega
         subst hne
         repeat' ((first | refine AU ?_ | (refine IW (fun h => ?_) (fun h => ?_) <;> try (exfalso; omega))) <;> conv => whnf)
         refine ⟨(k + 1, out), ⟨by dsimp only; omega, hD, hC, fun b hb => ?_⟩, by dsimp only; omega, ?_⟩
         · rcases (U9 hkl).1 hb with hb | rfl
           · exact hK b hb
           · exact hN
         · conv => whnf
           exact GOES.cA h0
     · have hke : k = l.length := by omega
       subst hke
       rw [List.take_length] at hK
       repeat' ((first | refine AU ?_ | (refine IW (fun h => ?_) (fun h => ?_) <;> try (exfalso; omega))) <;> conv => whnf)
       refine ⟨(i + 1, out), ⟨by dsimp only; omega, hD, fun a ha b hb => ?_⟩, by dsimp only; omega, ?_⟩
       · rcases (U9 hil).1 ha with ha | rfl
         · exact hC a ha b hb
         · exact hK b hb
       · conv => whnf
         exact GOES.cA h0
 · have hie : i = l.length := by omega
   subst hie
   rw [List.take_length] at hC
   repeat' ((first | refine AU ?_ | (refine IW (fun h => ?_) (fun h => ?_) <;> try (exfalso; omega))) <;> conv => whnf)
   refine FIN.aA h0 [3] (.sl (.loc 1) 0 16 out.length none) [(1, .rows 16 (out.map Zf))] ?_
   exact ⟨out, ⟨hD, fun a ha b hb => ZbH (hC a ha b hb)⟩, rfl, rfl, rfl⟩
end Go.Proofs.YtjbbkimodgffiaaGreatDoor
