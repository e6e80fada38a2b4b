/- Part 15: Infer2, LawDraws. Conditions: as each part says. -/
import Derived.Test.YtjbbkimodgffiaaGreatDoorIGr13
import Derived.Test.YtjbbkimodgffiaaGreatDoorIGr14
set_option linter.unusedVariables false
set_option linter.unusedSimpArgs false
set_option maxRecDepth 20000
set_option maxHeartbeats 8000000
namespace Go.Proofs.YtjbbkimodgffiaaGreatDoor
open Go.Sx Go.Our
def JD : Plan := (.take 0 1 (.take 1 1 (.take 2 2 (.take 3 2 (.take 4 2 (.fork 5 3 9 3 (Zq [(6, 1), (7, 1), (8, 1), (9, 3), (10, 0), (11, 1)]) (Zq [(5, 3), (6, 1), (7, 1), (8, 1), (10, 0), (11, 1)])))))))
theorem Zt (q : Qd) (hq : QdSm q) : Does Tryz.prog tab 66 0 [q.sv] [] [] (Val (.bool (decide (Zk q = 0)))) := by
 have h1 := Vm q hq
 unfold Qd.sv at h1 ⊢
 refine Does.enter Z2 (g := 66) (fn := Tryz.f66) Tryz.call66 Tryz.func66 rfl 6 rfl rfl [.tmp 2] rfl ?_
 intro w0 F η0 h0
 conv => whnf
 repeat' ((first | refine CALL.value (h1) rfl rfl ?_ | refine AU ?_ | (refine IW (fun h => ?_) (fun h => ?_) <;> try (exfalso; omega))) <;> conv => whnf)
 exact FIN.value h0 rfl rfl
set_option maxHeartbeats 4000000 in
theorem Z71 (a b : Qd) (ha : QdSm a) (hb : QdSm b) : Does Tryz.prog tab 37 0 [.int .i64 2, a.sv, b.sv] [] [] (Val (.tup [(Zh 2 a b).1.sv, .bool (Zh 2 a b).2])) := by
 have hd : QdSm (dr2 a b).1 := JV (n := 2) ha hb
 have hf := Zt (dr2 a b).1 hd
 unfold Qd.sv
 refine Does.enter Z2 (g := 37) (fn := Tryz.f37) Tryz.call37 Tryz.func37 rfl 60 rfl rfl [.cell 6 30, .tmp 7] rfl ?_
 intro w0 F η0 h0
 conv => whnf
 refine CALL.aA [] (ZU) ?_
 rintro r O' nx' ⟨rfl, rfl, rfl⟩
 conv => whnf
 refine NEED.mk ⟨rfl, rfl, rfl, rfl, rfl⟩ ?_
 conv => whnf
 repeat' ((first | refine DRAWN.of (id := 4) Z2 mixed JD (by kernel_rfl) ?_ | refine ADD.mk (fun _ _ => ?_) | refine AD ?_ | refine FORK.mk ?_ ?_ | refine CALL.value (Zt a ha) rfl rfl ?_ | refine CALL.value (Zt b hb) rfl rfl ?_ | refine CALL.value (Z6X a b) rfl rfl ?_ | refine CALL.value (hf) rfl rfl ?_ | refine AU ?_ | (refine IW (fun h => ?_) (fun h => ?_) <;> try (exfalso; omega))) <;> conv => whnf)
 all_goals
   clear hf hd ha hb
   refine FIN.value h0 rfl ?_
   first
     | (rw [Xi (by show ¬(Zk a = 0 ∧ Zk b = 0 ∧ a.g = b.g ∧ (dr2 a b).2 = true ∧ Zk (dr2 a b).1 = 0); simp_all [V3]; done)]; rfl)
     | (rw [VH (by show Zk a = 0 ∧ Zk b = 0 ∧ a.g = b.g ∧ (dr2 a b).2 = true ∧ Zk (dr2 a b).1 = 0; simp_all [V3]; done)]; rfl)
     | trace_state
set_option maxHeartbeats 4000000 in
theorem Z72 (a b : Qd) (ha : QdSm a) (hb : QdSm b) : Does Tryz.prog tab 37 0 [.int .i64 3, a.sv, b.sv] [] [] (Val (.tup [(Zh 3 a b).1.sv, .bool (Zh 3 a b).2])) := by
 have hd : QdSm (dr3 a b).1 := JV (n := 3) ha hb
 have hf := Zt (dr3 a b).1 hd
 unfold Qd.sv
 refine Does.enter Z2 (g := 37) (fn := Tryz.f37) Tryz.call37 Tryz.func37 rfl 60 rfl rfl [.cell 6 30, .tmp 7] rfl ?_
 intro w0 F η0 h0
 conv => whnf
 refine CALL.aA [] (ZU) ?_
 rintro r O' nx' ⟨rfl, rfl, rfl⟩
 conv => whnf
 refine NEED.mk ⟨rfl, rfl, rfl, rfl, rfl⟩ ?_
 conv => whnf
 repeat' ((first | refine DRAWN.of (id := 4) Z2 mixed JD (by kernel_rfl) ?_ | refine ADD.mk (fun _ _ => ?_) | refine AD ?_ | refine FORK.mk ?_ ?_ | refine CALL.value (Zt a ha) rfl rfl ?_ | refine CALL.value (Zt b hb) rfl rfl ?_ | refine CALL.value (Z6Y a b) rfl rfl ?_ | refine CALL.value (hf) rfl rfl ?_ | refine AU ?_ | (refine IW (fun h => ?_) (fun h => ?_) <;> try (exfalso; omega))) <;> conv => whnf)
 all_goals
   clear hf hd ha hb
   refine FIN.value h0 rfl ?_
   first
     | (rw [Xi (by show ¬(Zk a = 0 ∧ Zk b = 0 ∧ a.g = b.g ∧ (dr3 a b).2 = true ∧ Zk (dr3 a b).1 = 0); simp_all [V3]; done)]; rfl)
     | (rw [VH (by show Zk a = 0 ∧ Zk b = 0 ∧ a.g = b.g ∧ (dr3 a b).2 = true ∧ Zk (dr3 a b).1 = 0; simp_all [V3]; done)]; rfl)
     | trace_state
set_option maxHeartbeats 4000000 in
theorem Z73 (a b : Qd) (ha : QdSm a) (hb : QdSm b) : Does Tryz.prog tab 37 0 [.int .i64 5, a.sv, b.sv] [] [] (Val (.tup [(Zh 5 a b).1.sv, .bool (Zh 5 a b).2])) := by
 have hd : QdSm (chn subP a b).1 := JV (n := 5) ha hb
 have hf := Zt (chn subP a b).1 hd
 unfold Qd.sv
 refine Does.enter Z2 (g := 37) (fn := Tryz.f37) Tryz.call37 Tryz.func37 rfl 60 rfl rfl [.cell 6 30, .tmp 7] rfl ?_
 intro w0 F η0 h0
 conv => whnf
 refine CALL.aA [] (ZU) ?_
 rintro r O' nx' ⟨rfl, rfl, rfl⟩
 conv => whnf
 refine NEED.mk ⟨rfl, rfl, rfl, rfl, rfl⟩ ?_
 conv => whnf
 repeat' ((first | refine DRAWN.of (id := 4) Z2 mixed JD (by kernel_rfl) ?_ | refine ADD.mk (fun _ _ => ?_) | refine AD ?_ | refine FORK.mk ?_ ?_ | refine CALL.value (Zt a ha) rfl rfl ?_ | refine CALL.value (Zt b hb) rfl rfl ?_ | (refine CALL.looks [3] (Z1e subP a b) rfl rfl rfl rfl ⟨⟨rfl, rfl, rfl⟩, trivial⟩ ?_; conv => whnf) | refine CALL.value (hf) rfl rfl ?_ | refine AU ?_ | (refine IW (fun h => ?_) (fun h => ?_) <;> try (exfalso; omega))) <;> conv => whnf)
 all_goals
   clear hf hd ha hb
   refine FIN.value h0 rfl ?_
   first
     | (rw [Xi (by show ¬(Zk a = 0 ∧ Zk b = 0 ∧ a.g = b.g ∧ (chn subP a b).2 = true ∧ Zk (chn subP a b).1 = 0); simp_all [V3]; done)]; rfl)
     | (rw [VH (by show Zk a = 0 ∧ Zk b = 0 ∧ a.g = b.g ∧ (chn subP a b).2 = true ∧ Zk (chn subP a b).1 = 0; simp_all [V3]; done)]; rfl)
     | trace_state
set_option maxHeartbeats 4000000 in
theorem Z74 (a b : Qd) (ha : QdSm a) (hb : QdSm b) : Does Tryz.prog tab 37 0 [.int .i64 7, a.sv, b.sv] [] [] (Val (.tup [(Zh 7 a b).1.sv, .bool (Zh 7 a b).2])) := by
 have hd : QdSm (dr7 a b).1 := JV (n := 7) ha hb
 have hf := Zt (dr7 a b).1 hd
 unfold Qd.sv
 refine Does.enter Z2 (g := 37) (fn := Tryz.f37) Tryz.call37 Tryz.func37 rfl 60 rfl rfl [.cell 6 30, .tmp 7] rfl ?_
 intro w0 F η0 h0
 conv => whnf
 refine CALL.aA [] (ZU) ?_
 rintro r O' nx' ⟨rfl, rfl, rfl⟩
 conv => whnf
 refine NEED.mk ⟨rfl, rfl, rfl, rfl, rfl⟩ ?_
 conv => whnf
 repeat' ((first | refine DRAWN.of (id := 4) Z2 mixed JD (by kernel_rfl) ?_ | refine ADD.mk (fun _ _ => ?_) | refine AD ?_ | refine FORK.mk ?_ ?_ | refine CALL.value (Zt a ha) rfl rfl ?_ | refine CALL.value (Zt b hb) rfl rfl ?_ | refine CALL.value (Z6Z a b) rfl rfl ?_ | refine CALL.value (hf) rfl rfl ?_ | refine AU ?_ | (refine IW (fun h => ?_) (fun h => ?_) <;> try (exfalso; omega))) <;> conv => whnf)
 all_goals
   clear hf hd ha hb
   refine FIN.value h0 rfl ?_
   first
     | (rw [Xi (by show ¬(Zk a = 0 ∧ Zk b = 0 ∧ a.g = b.g ∧ (dr7 a b).2 = true ∧ Zk (dr7 a b).1 = 0); simp_all [V3]; done)]; rfl)
     | (rw [VH (by show Zk a = 0 ∧ Zk b = 0 ∧ a.g = b.g ∧ (dr7 a b).2 = true ∧ Zk (dr7 a b).1 = 0; simp_all [V3]; done)]; rfl)
     | trace_state
set_option maxHeartbeats 4000000 in
theorem Z75 (a b : Qd) (ha : QdSm a) (hb : QdSm b) : Does Tryz.prog tab 37 0 [.int .i64 9, a.sv, b.sv] [] [] (Val (.tup [(Zh 9 a b).1.sv, .bool (Zh 9 a b).2])) := by
 have hd : QdSm (dr9 a b).1 := JV (n := 9) ha hb
 have hf := Zt (dr9 a b).1 hd
 unfold Qd.sv
 refine Does.enter Z2 (g := 37) (fn := Tryz.f37) Tryz.call37 Tryz.func37 rfl 60 rfl rfl [.cell 6 30, .tmp 7] rfl ?_
 intro w0 F η0 h0
 conv => whnf
 refine CALL.aA [] (ZU) ?_
 rintro r O' nx' ⟨rfl, rfl, rfl⟩
 conv => whnf
 refine NEED.mk ⟨rfl, rfl, rfl, rfl, rfl⟩ ?_
 conv => whnf
 repeat' ((first | refine DRAWN.of (id := 4) Z2 mixed JD (by kernel_rfl) ?_ | refine ADD.mk (fun _ _ => ?_) | refine AD ?_ | refine FORK.mk ?_ ?_ | refine CALL.value (Zt a ha) rfl rfl ?_ | refine CALL.value (Zt b hb) rfl rfl ?_ | refine CALL.value (Z70 a b) rfl rfl ?_ | refine CALL.value (hf) rfl rfl ?_ | refine AU ?_ | (refine IW (fun h => ?_) (fun h => ?_) <;> try (exfalso; omega))) <;> conv => whnf)
 all_goals
   clear hf hd ha hb
   refine FIN.value h0 rfl ?_
   first
     | (rw [Xi (by show ¬(Zk a = 0 ∧ Zk b = 0 ∧ a.g = b.g ∧ (dr9 a b).2 = true ∧ Zk (dr9 a b).1 = 0); simp_all [V3]; done)]; rfl)
     | (rw [VH (by show Zk a = 0 ∧ Zk b = 0 ∧ a.g = b.g ∧ (dr9 a b).2 = true ∧ Zk (dr9 a b).1 = 0; simp_all [V3]; done)]; rfl)
     | trace_state
set_option maxHeartbeats 4000000 in
theorem Z5d (a b : Qd) (ha : QdSm a) (hb : QdSm b) : Does Tryz.prog tab 37 0 [.int .i64 11, a.sv, b.sv] [] [] (Val (.tup [(Zh 11 a b).1.sv, .bool (Zh 11 a b).2])) := by
 have hd : QdSm (chn subC a b).1 := JV (n := 11) ha hb
 have hf := Zt (chn subC a b).1 hd
 unfold Qd.sv
 refine Does.enter Z2 (g := 37) (fn := Tryz.f37) Tryz.call37 Tryz.func37 rfl 60 rfl rfl [.cell 6 30, .tmp 7] rfl ?_
 intro w0 F η0 h0
 conv => whnf
 refine CALL.aA [] (ZU) ?_
 rintro r O' nx' ⟨rfl, rfl, rfl⟩
 conv => whnf
 refine NEED.mk ⟨rfl, rfl, rfl, rfl, rfl⟩ ?_
 conv => whnf
 repeat' ((first | refine DRAWN.of (id := 4) Z2 mixed JD (by kernel_rfl) ?_ | refine ADD.mk (fun _ _ => ?_) | refine AD ?_ | refine FORK.mk ?_ ?_ | refine CALL.value (Zt a ha) rfl rfl ?_ | refine CALL.value (Zt b hb) rfl rfl ?_ | (refine CALL.looks [4] (Z1e subC a b) rfl rfl rfl rfl ⟨⟨rfl, rfl, rfl⟩, trivial⟩ ?_; conv => whnf) | refine CALL.value (hf) rfl rfl ?_ | refine AU ?_ | (refine IW (fun h => ?_) (fun h => ?_) <;> try (exfalso; omega))) <;> conv => whnf)
 all_goals
   clear hf hd ha hb
   refine FIN.value h0 rfl ?_
   first
     | (rw [Xi (by show ¬(Zk a = 0 ∧ Zk b = 0 ∧ a.g = b.g ∧ (chn subC a b).2 = true ∧ Zk (chn subC a b).1 = 0); simp_all [V3]; done)]; rfl)
     | (rw [VH (by show Zk a = 0 ∧ Zk b = 0 ∧ a.g = b.g ∧ (chn subC a b).2 = true ∧ Zk (chn subC a b).1 = 0; simp_all [V3]; done)]; rfl)
     | trace_state
theorem Z76 (a b : Qd) : Does Tryz.prog tab 37 0 [.int .i64 0, a.sv, b.sv] [] [] (Val (.tup [(Zh 0 a b).1.sv, .bool (Zh 0 a b).2])) := by
 have hn : Zh 0 a b = (ZF, false) := Xi (by rw [Yr (by omega)]; simp)
 unfold Qd.sv
 refine Does.enter Z2 (g := 37) (fn := Tryz.f37) Tryz.call37 Tryz.func37 rfl 60 rfl rfl [.cell 6 30, .tmp 7] rfl ?_
 intro w0 F η0 h0
 conv => whnf
 refine CALL.aA [] (ZU) ?_
 rintro r O' nx' ⟨rfl, rfl, rfl⟩
 conv => whnf
 refine NEED.mk ⟨rfl, rfl, rfl, rfl, rfl⟩ ?_
 conv => whnf
 repeat' ((first | refine AU ?_ | (refine IW (fun h => ?_) (fun h => ?_) <;> try (exfalso; omega))) <;> conv => whnf)
 all_goals
   refine FIN.value h0 rfl ?_
   rw [hn]; rfl
theorem Z77 (a b : Qd) : Does Tryz.prog tab 37 0 [.int .i64 1, a.sv, b.sv] [] [] (Val (.tup [(Zh 1 a b).1.sv, .bool (Zh 1 a b).2])) := by
 have hn : Zh 1 a b = (ZF, false) := Xi (by rw [Yr (by omega)]; simp)
 unfold Qd.sv
 refine Does.enter Z2 (g := 37) (fn := Tryz.f37) Tryz.call37 Tryz.func37 rfl 60 rfl rfl [.cell 6 30, .tmp 7] rfl ?_
 intro w0 F η0 h0
 conv => whnf
 refine CALL.aA [] (ZU) ?_
 rintro r O' nx' ⟨rfl, rfl, rfl⟩
 conv => whnf
 refine NEED.mk ⟨rfl, rfl, rfl, rfl, rfl⟩ ?_
 conv => whnf
 repeat' ((first | refine AU ?_ | (refine IW (fun h => ?_) (fun h => ?_) <;> try (exfalso; omega))) <;> conv => whnf)
 all_goals
   refine FIN.value h0 rfl ?_
   rw [hn]; rfl
theorem Z78 (a b : Qd) : Does Tryz.prog tab 37 0 [.int .i64 4, a.sv, b.sv] [] [] (Val (.tup [(Zh 4 a b).1.sv, .bool (Zh 4 a b).2])) := by
 have hn : Zh 4 a b = (ZF, false) := Xi (by rw [Yr (by omega)]; simp)
 unfold Qd.sv
 refine Does.enter Z2 (g := 37) (fn := Tryz.f37) Tryz.call37 Tryz.func37 rfl 60 rfl rfl [.cell 6 30, .tmp 7] rfl ?_
 intro w0 F η0 h0
 conv => whnf
 refine CALL.aA [] (ZU) ?_
 rintro r O' nx' ⟨rfl, rfl, rfl⟩
 conv => whnf
 refine NEED.mk ⟨rfl, rfl, rfl, rfl, rfl⟩ ?_
 conv => whnf
 repeat' ((first | refine AU ?_ | (refine IW (fun h => ?_) (fun h => ?_) <;> try (exfalso; omega))) <;> conv => whnf)
 all_goals
   refine FIN.value h0 rfl ?_
   rw [hn]; rfl
theorem Z79 (a b : Qd) : Does Tryz.prog tab 37 0 [.int .i64 6, a.sv, b.sv] [] [] (Val (.tup [(Zh 6 a b).1.sv, .bool (Zh 6 a b).2])) := by
 have hn : Zh 6 a b = (ZF, false) := Xi (by rw [Yr (by omega)]; simp)
 unfold Qd.sv
 refine Does.enter Z2 (g := 37) (fn := Tryz.f37) Tryz.call37 Tryz.func37 rfl 60 rfl rfl [.cell 6 30, .tmp 7] rfl ?_
 intro w0 F η0 h0
 conv => whnf
 refine CALL.aA [] (ZU) ?_
 rintro r O' nx' ⟨rfl, rfl, rfl⟩
 conv => whnf
 refine NEED.mk ⟨rfl, rfl, rfl, rfl, rfl⟩ ?_
 conv => whnf
 repeat' ((first | refine AU ?_ | (refine IW (fun h => ?_) (fun h => ?_) <;> try (exfalso; omega))) <;> conv => whnf)
 all_goals
   refine FIN.value h0 rfl ?_
   rw [hn]; rfl
theorem Z7a (a b : Qd) : Does Tryz.prog tab 37 0 [.int .i64 8, a.sv, b.sv] [] [] (Val (.tup [(Zh 8 a b).1.sv, .bool (Zh 8 a b).2])) := by
 have hn : Zh 8 a b = (ZF, false) := Xi (by rw [Yr (by omega)]; simp)
 unfold Qd.sv
 refine Does.enter Z2 (g := 37) (fn := Tryz.f37) Tryz.call37 Tryz.func37 rfl 60 rfl rfl [.cell 6 30, .tmp 7] rfl ?_
 intro w0 F η0 h0
 conv => whnf
 refine CALL.aA [] (ZU) ?_
 rintro r O' nx' ⟨rfl, rfl, rfl⟩
 conv => whnf
 refine NEED.mk ⟨rfl, rfl, rfl, rfl, rfl⟩ ?_
 conv => whnf
 repeat' ((first | refine AU ?_ | (refine IW (fun h => ?_) (fun h => ?_) <;> try (exfalso; omega))) <;> conv => whnf)
 all_goals
   refine FIN.value h0 rfl ?_
   rw [hn]; rfl
theorem Z5e (a b : Qd) : Does Tryz.prog tab 37 0 [.int .i64 10, a.sv, b.sv] [] [] (Val (.tup [(Zh 10 a b).1.sv, .bool (Zh 10 a b).2])) := by
 have hn : Zh 10 a b = (ZF, false) := Xi (by rw [Yr (by omega)]; simp)
 unfold Qd.sv
 refine Does.enter Z2 (g := 37) (fn := Tryz.f37) Tryz.call37 Tryz.func37 rfl 60 rfl rfl [.cell 6 30, .tmp 7] rfl ?_
 intro w0 F η0 h0
 conv => whnf
 refine CALL.aA [] (ZU) ?_
 rintro r O' nx' ⟨rfl, rfl, rfl⟩
 conv => whnf
 refine NEED.mk ⟨rfl, rfl, rfl, rfl, rfl⟩ ?_
 conv => whnf
 repeat' ((first | refine AU ?_ | (refine IW (fun h => ?_) (fun h => ?_) <;> try (exfalso; omega))) <;> conv => whnf)
 all_goals
   refine FIN.value h0 rfl ?_
   rw [hn]; rfl
theorem Z7b (n : Int) (hx : n < 0 ∨ 12 ≤ n) (a b : Qd) : Does Tryz.prog tab 37 0 [.int .i64 n, a.sv, b.sv] [] [] (Val (.tup [(Zh n a b).1.sv, .bool (Zh n a b).2])) := by
 have hn : Zh n a b = (ZF, false) := Xi (by rw [Yr (by omega)]; simp)
 unfold Qd.sv
 refine Does.enter Z2 (g := 37) (fn := Tryz.f37) Tryz.call37 Tryz.func37 rfl 60 rfl rfl [.cell 6 30, .tmp 7] rfl ?_
 intro w0 F η0 h0
 conv => whnf
 refine CALL.aA [] (ZU) ?_
 rintro r O' nx' ⟨rfl, rfl, rfl⟩
 conv => whnf
 refine NEED.mk ⟨rfl, rfl, rfl, rfl, rfl⟩ ?_
 conv => whnf
 repeat' ((first | refine AU ?_ | (refine IW (fun h => ?_) (fun h => ?_) <;> try (exfalso; omega))) <;> conv => whnf)
 all_goals first
   | (refine FIN.value h0 rfl ?_; rw [hn]; rfl)
   | (exfalso; omega)
   | trace_state
theorem Z4g (n : Int) (a b : Qd) (ha : QdSm a) (hb : QdSm b) : Does Tryz.prog tab 37 0 [.int .i64 n, a.sv, b.sv] [] [] (Val (.tup [(Zh n a b).1.sv, .bool (Zh n a b).2])) := by
 by_cases hx : n < 0 ∨ 12 ≤ n
 · exact Z7b n hx a b
 · have : n = 0 ∨ n = 1 ∨ n = 2 ∨ n = 3 ∨ n = 4 ∨ n = 5 ∨ n = 6 ∨ n = 7 ∨ n = 8 ∨ n = 9 ∨ n = 10 ∨ n = 11 := by omega
   rcases this with rfl | rfl | rfl | rfl | rfl | rfl | rfl | rfl | rfl | rfl | rfl | rfl
   · exact Z76 a b
   · exact Z77 a b
   · exact Z71 a b ha hb
   · exact Z72 a b ha hb
   · exact Z78 a b
   · exact Z73 a b ha hb
   · exact Z79 a b
   · exact Z74 a b ha hb
   · exact Z7a a b
   · exact Z75 a b ha hb
   · exact Z5e a b
   · exact Z5d a b ha hb
end Go.Proofs.YtjbbkimodgffiaaGreatDoor
namespace Go.Proofs.YtjbbkimodgffiaaGreatDoor
open Go.Sx Go.Our
end Go.Proofs.YtjbbkimodgffiaaGreatDoor
