/- Part 14: Infer, Infer3. Conditions: as each part says. -/
import Derived.Test.YtjbbkimodgffiaaGreatDoorInW9
set_option linter.unusedVariables false
set_option linter.unusedSimpArgs false
set_option maxRecDepth 20000
set_option maxHeartbeats 8000000
namespace Go.Proofs.YtjbbkimodgffiaaGreatDoor
open Go.Sx Go.Our
def Z8E : Plan := (.take 0 1 (.take 2 1 (.take 4 1 (.take 7 1 (.take 1 2 (.take 3 2 (.take 5 2 (.take 8 2 (.take 6 3 (.take 9 3 (.take 10 1 (.take 11 1 (.take 13 1 (.fork3 12 3 14 3 17 0 (.fork 14 3 17 0 (Zj [(15, 1), (16, 1), (17, 0), (18, 1)]) (Zj [(14, 2), (15, 1), (16, 1), (18, 1)])) (.fork 12 3 17 0 (Zj [(15, 1), (16, 1), (17, 0), (18, 1)]) (Zj [(12, 2), (15, 1), (16, 1), (18, 1)])) (Zj [(12, 2), (14, 2), (15, 1), (16, 1), (18, 1)])))))))))))))))
def ZcL : Plan := (.take 0 1 (.take 2 1 (.take 4 1 (.take 6 1 (.take 9 1 (.take 1 2 (.take 3 2 (.take 5 2 (.take 7 2 (.take 8 1 (.take 10 2 (.take 11 3 (.take 12 1 (.take 13 1 (.take 15 1 (.fork3 14 3 16 3 19 0 (.fork 16 3 19 0 (Zj [(17, 1), (18, 1), (19, 0), (20, 1)]) (Zj [(16, 2), (17, 1), (18, 1), (20, 1)])) (.fork 14 3 19 0 (Zj [(17, 1), (18, 1), (19, 0), (20, 1)]) (Zj [(14, 2), (17, 1), (18, 1), (20, 1)])) (Zj [(14, 2), (16, 2), (17, 1), (18, 1), (20, 1)])))))))))))))))))
def ZcM : Plan := (.take 0 1 (.take 2 1 (.take 4 1 (.take 7 1 (.take 1 2 (.take 3 2 (.take 5 2 (.take 8 2 (.take 6 3 (.take 9 3 (.take 10 1 (.take 11 1 (.take 12 2 (.take 13 3 (.take 14 1 (.take 15 1 (.take 16 1 (.take 18 1 (.fork3 17 3 19 3 22 0 (.fork 19 3 22 0 (Zj [(20, 1), (21, 1), (22, 0), (23, 1)]) (Zj [(19, 2), (20, 1), (21, 1), (23, 1)])) (.fork 17 3 22 0 (Zj [(20, 1), (21, 1), (22, 0), (23, 1)]) (Zj [(17, 2), (20, 1), (21, 1), (23, 1)])) (Zj [(17, 2), (19, 2), (20, 1), (21, 1), (23, 1)]))))))))))))))))))))
def ZcN : Plan := (.take 0 1 (.take 2 1 (.take 4 1 (.take 6 1 (.take 9 1 (.take 1 2 (.take 3 2 (.take 5 2 (.take 7 2 (.take 8 1 (.take 10 2 (.take 11 2 (.take 12 3 (.take 13 1 (.take 14 1 (.take 16 1 (.take 15 2 (.take 17 2 (.take 18 1 (.take 19 1 (.take 20 1 (.take 21 1 (.take 23 1 (.fork3 22 3 24 3 27 0 (.fork 24 3 27 0 (Zj [(25, 1), (26, 1), (27, 0), (28, 1)]) (Zj [(24, 2), (25, 1), (26, 1), (28, 1)])) (.fork 22 3 27 0 (Zj [(25, 1), (26, 1), (27, 0), (28, 1)]) (Zj [(22, 2), (25, 1), (26, 1), (28, 1)])) (Zj [(22, 2), (24, 2), (25, 1), (26, 1), (28, 1)])))))))))))))))))))))))))
theorem teq (x y : Tm) : (x.k == y.k && (x.t == y.t && (x.y == y.y && (x.l == y.l && true)))) = decide (x = y) := by
 rw [Bool.eq_iff_iff]
 simp [XV]
theorem ZcO (s : List UInt8) (hs : s.length ≤ 100) : Does Tryz.prog tab 103 0 [.str s] [] [] (Val (iriT (rdfB ++ s)).sv) := by
 refine Does.enter Z2 (g := 103) (fn := Tryz.f103) Tryz.call103 Tryz.func103 rfl 6 rfl rfl [.cell 2 28] rfl ?_
 intro w0 F η0 h0
 conv => whnf
 repeat' ((first | refine AU ?_ | (refine IW (fun h => ?_) (fun h => ?_) <;> try (exfalso; omega))) <;> conv => whnf)
 all_goals first
   | exact FIN.value h0 rfl rfl
   | (show 43 + s.length ≤ _; omega)
theorem Ja (s : List UInt8) (hs : s.length ≤ 100) : Does Tryz.prog tab 104 0 [.str s] [] [] (Val (iriT (Z7m ++ s)).sv) := by
 refine Does.enter Z2 (g := 104) (fn := Tryz.f104) Tryz.call104 Tryz.func104 rfl 6 rfl rfl [.cell 2 28] rfl ?_
 intro w0 F η0 h0
 conv => whnf
 repeat' ((first | refine AU ?_ | (refine IW (fun h => ?_) (fun h => ?_) <;> try (exfalso; omega))) <;> conv => whnf)
 all_goals first
   | exact FIN.value h0 rfl rfl
   | (show 37 + s.length ≤ _; omega)
theorem Ju (x : Tm) (s : List UInt8) : Does Tryz.prog tab 98 0 [x.sv, .str s] [] [] (Val (.bool (decide (x = iriT s)))) := by
 unfold Tm.sv
 refine Does.enter Z2 (g := 98) (fn := Tryz.f98) Tryz.call98 Tryz.func98 rfl 9 rfl rfl [.tmp 4] rfl ?_
 intro w0 F η0 h0
 conv => whnf
 repeat' ((first | refine AU ?_ | (refine IW (fun h => ?_) (fun h => ?_) <;> try (exfalso; omega))) <;> conv => whnf)
 exact FIN.value h0 rfl (congrArg SV.bool (teq x (iriT s)))
theorem WA (s o g : Tm) : Does Tryz.prog tab 97 0 [s.sv, o.sv, g.sv] [] [] (Val (Qd.sv ⟨s, iriT typB, o, g⟩)) := by
 unfold Tm.sv
 refine Does.enter Z2 (g := 97) (fn := Tryz.f97) Tryz.call97 Tryz.func97 rfl 12 rfl rfl [.cell 6 30] rfl ?_
 intro w0 F η0 h0
 conv => whnf
 repeat' ((first | refine AU ?_ | (refine IW (fun h => ?_) (fun h => ?_) <;> try (exfalso; omega))) <;> conv => whnf)
 exact FIN.value h0 rfl rfl
theorem Z9M (a b : Qd) : Does Tryz.prog tab 96 0 [a.sv, b.sv] [] [] (Val (.tup [(dr2 a b).1.sv, .bool (dr2 a b).2])) := by
 unfold Qd.sv
 refine Does.enter Z2 (g := 96) (fn := Tryz.f96) Tryz.call96 Tryz.func96 rfl 23 rfl rfl [.cell 4 30, .tmp 5] rfl ?_
 intro w0 F η0 h0
 conv => whnf
 repeat' ((first | refine DRAWN.of (id := 1) Z2 Z8 Z8E (by kernel_rfl) ?_ | refine ADD.mk (fun _ _ => ?_) | refine AD ?_ | refine FORK.mk ?_ ?_ | refine CALL.value (WA b.s a.o a.g) rfl rfl ?_ | refine CALL.value (Ju a.p domB) rfl rfl ?_ | refine AU ?_ | (refine IW (fun h => ?_) (fun h => ?_) <;> try (exfalso; omega))) <;> conv => whnf)
 all_goals
   refine FIN.value h0 rfl (congrArg (fun b => SV.tup [_, SV.bool b]) ?_)
   rw [Bool.eq_iff_iff]
   first
     | (simp_all [XV]; done)
     | trace_state
theorem Z9N (a b : Qd) : Does Tryz.prog tab 99 0 [a.sv, b.sv] [] [] (Val (.tup [(dr3 a b).1.sv, .bool (dr3 a b).2])) := by
 unfold Qd.sv
 refine Does.enter Z2 (g := 99) (fn := Tryz.f99) Tryz.call99 Tryz.func99 rfl 23 rfl rfl [.cell 4 30, .tmp 5] rfl ?_
 intro w0 F η0 h0
 conv => whnf
 repeat' ((first | refine DRAWN.of (id := 1) Z2 Z8 Z8E (by kernel_rfl) ?_ | refine ADD.mk (fun _ _ => ?_) | refine AD ?_ | refine FORK.mk ?_ ?_ | refine CALL.value (WA b.o a.o a.g) rfl rfl ?_ | refine CALL.value (Ju a.p ranB) rfl rfl ?_ | refine AU ?_ | (refine IW (fun h => ?_) (fun h => ?_) <;> try (exfalso; omega))) <;> conv => whnf)
 all_goals
   refine FIN.value h0 rfl (congrArg (fun b => SV.tup [_, SV.bool b]) ?_)
   rw [Bool.eq_iff_iff]
   first
     | (simp_all [XV]; done)
     | trace_state
theorem Z9O (a b : Qd) : Does Tryz.prog tab 101 0 [a.sv, b.sv] [] [] (Val (.tup [(dr7 a b).1.sv, .bool (dr7 a b).2])) := by
 unfold Qd.sv
 refine Does.enter Z2 (g := 101) (fn := Tryz.f101) Tryz.call101 Tryz.func101 rfl 25 rfl rfl [.cell 4 30, .tmp 5] rfl ?_
 intro w0 F η0 h0
 conv => whnf
 repeat' ((first | refine DRAWN.of (id := 1) Z2 Z8 ZcL (by kernel_rfl) ?_ | refine ADD.mk (fun _ _ => ?_) | refine AD ?_ | refine FORK.mk ?_ ?_ | refine CALL.value (Ju a.p subP) rfl rfl ?_ | refine AU ?_ | (refine IW (fun h => ?_) (fun h => ?_) <;> try (exfalso; omega))) <;> conv => whnf)
 all_goals
   refine FIN.value h0 rfl (congrArg (fun b => SV.tup [_, SV.bool b]) ?_)
   rw [Bool.eq_iff_iff]
   first
     | (simp_all [XV]; done)
     | trace_state
theorem Z9P (a b : Qd) : Does Tryz.prog tab 102 0 [a.sv, b.sv] [] [] (Val (.tup [(dr9 a b).1.sv, .bool (dr9 a b).2])) := by
 unfold Qd.sv
 refine Does.enter Z2 (g := 102) (fn := Tryz.f102) Tryz.call102 Tryz.func102 rfl 28 rfl rfl [.cell 4 30, .tmp 5] rfl ?_
 intro w0 F η0 h0
 conv => whnf
 repeat' ((first | refine DRAWN.of (id := 1) Z2 Z8 ZcM (by kernel_rfl) ?_ | refine ADD.mk (fun _ _ => ?_) | refine AD ?_ | refine FORK.mk ?_ ?_ | refine CALL.value (WA b.s a.o a.g) rfl rfl ?_ | refine CALL.value (Ju a.p subC) rfl rfl ?_ | refine CALL.value (Ju b.p typB) rfl rfl ?_ | refine AU ?_ | (refine IW (fun h => ?_) (fun h => ?_) <;> try (exfalso; omega))) <;> conv => whnf)
 all_goals
   refine FIN.value h0 rfl (congrArg (fun b => SV.tup [_, SV.bool b]) ?_)
   rw [Bool.eq_iff_iff]
   first
     | (simp_all [XV]; done)
     | trace_state
theorem Z31 (s : List UInt8) (a b : Qd) : Does Tryz.prog tab 119 1 [a.sv, b.sv, .ptr (.loc 0) 0 0 0] [] [(0, .box [.str s])] (ValK 1 (.tup [(chn s a b).1.sv, .bool (chn s a b).2])) := by
 unfold Qd.sv
 refine Does.enter Z2 (g := 119) (fn := Tryz.f119) Tryz.call119 Tryz.func119 rfl 34 rfl rfl [.cell 5 30, .tmp 6] rfl ?_
 intro w0 F η0 h0
 conv => whnf
 repeat' ((first | refine DRAWN.of (id := 1) Z2 Z8 ZcN (by kernel_rfl) ?_ | refine ADD.mk (fun _ _ => ?_) | refine AD ?_ | refine FORK.mk ?_ ?_ | refine CALL.value (Ju a.p s) rfl rfl ?_ | refine AU ?_ | (refine IW (fun h => ?_) (fun h => ?_) <;> try (exfalso; omega))) <;> conv => whnf)
 all_goals
   refine FIN.valueK h0 rfl (congrArg (fun b => SV.tup [_, SV.bool b]) ?_)
   rw [Bool.eq_iff_iff]
   first
     | (simp_all [XV]; done)
     | trace_state
def FnK (f : FuncId) (s : List UInt8) : SV → Hps → Nat → Prop := fun r O nx => r = .fn (.func f) [] [.ptr (.loc 0) 0 0 0] ∧ O = [(0, .box [.str s])] ∧ nx = 1
theorem Z41 (s : List UInt8) : Does Tryz.prog tab 100 0 [.str s] [] [] (FnK 119 s) := by
 refine Does.enter Z2 (g := 100) (fn := Tryz.f100) Tryz.call100 Tryz.func100 rfl 4 rfl rfl [.tmp 2] rfl ?_
 intro w0 F η0 h0
 conv => whnf
 repeat' ((first | refine AU ?_ | (refine IW (fun h => ?_) (fun h => ?_) <;> try (exfalso; omega))) <;> conv => whnf)
 refine FIN.aA h0 [0] (.fn (.func 119) [] [.ptr (.loc 0) 0 0 0]) [(0, .box [.str s])] ?_
 exact ⟨rfl, rfl, rfl⟩
def fnR (f : FuncId) : List SV := [.fn (.func f) [] []]
def fnC (f : FuncId) (i : Nat) : List SV := [.fn (.func f) [] [.ptr (.loc i) 0 0 0]]
def nilR : List SV := [.val .nilFunc]
def Zdz : List (List SV) := [nilR, nilR, fnR 96, fnR 99, nilR, fnC 119 0, nilR, fnR 101, nilR, fnR 102, nilR, fnC 119 1]
def Zfc : SV → Hps → Nat → Prop := fun r O nx => r = .arr 1 Zdz ∧ O = [(0, .box [.str subP]), (1, .box [.str subC])] ∧ nx = 2
theorem Y7 : Does Tryz.prog tab 65 0 [] [] [] Zfc := by
 refine Does.enter Z2 (g := 65) (fn := Tryz.f65) Tryz.call65 Tryz.func65 rfl 4 rfl rfl [.cell 0 101] rfl ?_
 intro w0 F η0 h0
 conv => whnf
 refine CALL.aA [] (Z41 subP) ?_
 rintro r O' nx' ⟨rfl, rfl, rfl⟩
 conv => whnf
 refine CALL.aA [] (Z41 subC) ?_
 rintro r O' nx' ⟨rfl, rfl, rfl⟩
 conv => whnf
 repeat' ((first | refine AU ?_ | (refine IW (fun h => ?_) (fun h => ?_) <;> try (exfalso; omega))) <;> conv => whnf)
 refine FIN.aA h0 [1, 2] (.arr 1 Zdz) [(0, .box [.str subP]), (1, .box [.str subC])] ?_
 exact ⟨rfl, rfl, rfl⟩
end Go.Proofs.YtjbbkimodgffiaaGreatDoor
namespace Go.Proofs.YtjbbkimodgffiaaGreatDoor
open Go.Sx Go.Our
def YC : Plan := (.take 0 1 (.take 2 1 (.take 4 1 (.take 6 1 (.take 9 1 (.take 1 2 (.take 3 2 (.take 5 2 (.take 7 2 (.take 8 1 (.take 10 2 (.take 11 3 (.take 12 1 (.take 13 1 (.take 14 1 (.take 16 1 (.take 15 2 (.take 17 2 (.take 18 1 (.take 19 1 (.take 20 1 (.take 21 1 (.take 23 1 (.fork3 22 3 24 3 27 0 (.fork 24 3 27 0 (Zj [(25, 1), (26, 1), (27, 0), (28, 1)]) (Zj [(24, 2), (25, 1), (26, 1), (28, 1)])) (.fork 22 3 27 0 (Zj [(25, 1), (26, 1), (27, 0), (28, 1)]) (Zj [(22, 2), (25, 1), (26, 1), (28, 1)])) (Zj [(22, 2), (24, 2), (25, 1), (26, 1), (28, 1)])))))))))))))))))))))))))
def VG : Plan := (.take 0 1 (.take 3 1 (.take 5 1 (.take 8 1 (.take 1 2 (.take 2 2 (.take 4 2 (.take 6 2 (.take 7 1 (.take 9 2 (.take 10 3 (.take 11 1 (.take 12 1 (.take 13 1 (.take 14 2 (.take 15 2 (.take 16 1 (.take 17 1 (.take 18 1 (.take 19 1 (.take 21 1 (.fork3 20 3 22 3 25 0 (.fork 22 3 25 0 (Zj [(23, 1), (24, 1), (25, 0), (26, 1)]) (Zj [(22, 2), (23, 1), (24, 1), (26, 1)])) (.fork 20 3 25 0 (Zj [(23, 1), (24, 1), (25, 0), (26, 1)]) (Zj [(20, 2), (23, 1), (24, 1), (26, 1)])) (Zj [(20, 2), (22, 2), (23, 1), (24, 1), (26, 1)])))))))))))))))))))))))
def VH : Plan := (.take 0 1 (.take 2 1 (.take 4 1 (.take 6 1 (.take 9 1 (.take 1 2 (.take 3 2 (.take 5 2 (.take 7 2 (.take 8 1 (.take 10 2 (.take 11 3 (.take 12 1 (.take 13 1 (.take 14 1 (.take 16 1 (.fork3 15 3 17 3 20 0 (.fork 17 3 20 0 (Zj [(18, 1), (19, 1), (20, 0), (21, 1)]) (Zj [(17, 2), (18, 1), (19, 1), (21, 1)])) (.fork 15 3 20 0 (Zj [(18, 1), (19, 1), (20, 0), (21, 1)]) (Zj [(15, 2), (18, 1), (19, 1), (21, 1)])) (Zj [(15, 2), (17, 2), (18, 1), (19, 1), (21, 1)]))))))))))))))))))
def YD : Plan := (.take 0 1 (.take 3 1 (.take 5 1 (.take 8 1 (.take 1 2 (.take 2 2 (.take 4 2 (.take 6 2 (.take 7 1 (.take 9 2 (.take 10 3 (.take 11 1 (.take 12 1 (.take 13 1 (.take 15 1 (.fork3 14 3 16 3 19 0 (.fork 16 3 19 0 (Zj [(17, 1), (18, 1), (19, 0), (20, 1)]) (Zj [(16, 2), (17, 1), (18, 1), (20, 1)])) (.fork 14 3 19 0 (Zj [(17, 1), (18, 1), (19, 0), (20, 1)]) (Zj [(14, 2), (17, 1), (18, 1), (20, 1)])) (Zj [(14, 2), (16, 2), (17, 1), (18, 1), (20, 1)])))))))))))))))))
theorem U8 : Does Tryz.prog tab 103 0 [.str [116, 121, 112, 101]] [] [] (Val (iriT typB).sv) := ZcO _ (by decide)
theorem W2 : Does Tryz.prog tab 104 0 [.str [100, 111, 109, 97, 105, 110]] [] [] (Val (iriT domB).sv) := Ja _ (by decide)
theorem W3 : Does Tryz.prog tab 104 0 [.str [114, 97, 110, 103, 101]] [] [] (Val (iriT ranB).sv) := Ja _ (by decide)
theorem VI : Does Tryz.prog tab 104 0 [.str [115, 117, 98, 80, 114, 111, 112, 101, 114, 116, 121, 79, 102]] [] [] (Val (iriT subP).sv) := Ja _ (by decide)
theorem VJ : Does Tryz.prog tab 104 0 [.str [115, 117, 98, 67, 108, 97, 115, 115, 79, 102]] [] [] (Val (iriT subC).sv) := Ja _ (by decide)
set_option maxHeartbeats 4000000 in
theorem Z6s (a b : Qd) : Does Tryz.prog tab 67 0 [.int .i64 2, a.sv, b.sv] [] [] (Val (.tup [(ZA 2 a b).1.sv, .bool (ZA 2 a b).2])) := by
 unfold Qd.sv
 refine Does.enter Z2 (g := 67) (fn := Tryz.f67) Tryz.call67 Tryz.func67 rfl 161 rfl rfl [.cell 6 30, .tmp 7] rfl ?_
 intro w0 F η0 h0
 conv => whnf
 repeat' ((first | refine CALL.value (U8) rfl rfl ?_ | refine CALL.value (W2) rfl rfl ?_ | refine CALL.value (W3) rfl rfl ?_ | refine CALL.value (VI) rfl rfl ?_ | refine CALL.value (VJ) rfl rfl ?_ | refine DRAWN.of (id := 14) Z2 Z8 YC (by kernel_rfl) ?_ | refine DRAWN.of (id := 12) Z2 Z8 VG (by kernel_rfl) ?_ | refine DRAWN.of (id := 10) Z2 Z8 VH (by kernel_rfl) ?_ | refine DRAWN.of (id := 8) Z2 Z8 YC (by kernel_rfl) ?_ | refine DRAWN.of (id := 6) Z2 Z8 YD (by kernel_rfl) ?_ | refine DRAWN.of (id := 4) Z2 Z8 YD (by kernel_rfl) ?_ | refine ADD.mk (fun _ _ => ?_) | refine AD ?_ | refine FORK.mk ?_ ?_ | refine AU ?_ | (refine IW (fun h => ?_) (fun h => ?_) <;> try (exfalso; omega))) <;> conv => whnf)
 all_goals
   refine FIN.value h0 rfl (congrArg (fun b => SV.tup [_, SV.bool b]) ?_)
   rw [Bool.eq_iff_iff]
   show _ ↔ (dr2 a b).2 = true
   first
     | (simp_all [XV, @eq_comm _ a.s.k b.p.k, @eq_comm _ a.s.t b.p.t, @eq_comm _ a.s.y b.p.y, @eq_comm _ a.s.l b.p.l]; done)
     | trace_state
set_option maxHeartbeats 4000000 in
theorem Z6t (a b : Qd) : Does Tryz.prog tab 67 0 [.int .i64 3, a.sv, b.sv] [] [] (Val (.tup [(ZA 3 a b).1.sv, .bool (ZA 3 a b).2])) := by
 unfold Qd.sv
 refine Does.enter Z2 (g := 67) (fn := Tryz.f67) Tryz.call67 Tryz.func67 rfl 161 rfl rfl [.cell 6 30, .tmp 7] rfl ?_
 intro w0 F η0 h0
 conv => whnf
 repeat' ((first | refine CALL.value (U8) rfl rfl ?_ | refine CALL.value (W2) rfl rfl ?_ | refine CALL.value (W3) rfl rfl ?_ | refine CALL.value (VI) rfl rfl ?_ | refine CALL.value (VJ) rfl rfl ?_ | refine DRAWN.of (id := 14) Z2 Z8 YC (by kernel_rfl) ?_ | refine DRAWN.of (id := 12) Z2 Z8 VG (by kernel_rfl) ?_ | refine DRAWN.of (id := 10) Z2 Z8 VH (by kernel_rfl) ?_ | refine DRAWN.of (id := 8) Z2 Z8 YC (by kernel_rfl) ?_ | refine DRAWN.of (id := 6) Z2 Z8 YD (by kernel_rfl) ?_ | refine DRAWN.of (id := 4) Z2 Z8 YD (by kernel_rfl) ?_ | refine ADD.mk (fun _ _ => ?_) | refine AD ?_ | refine FORK.mk ?_ ?_ | refine AU ?_ | (refine IW (fun h => ?_) (fun h => ?_) <;> try (exfalso; omega))) <;> conv => whnf)
 all_goals
   refine FIN.value h0 rfl (congrArg (fun b => SV.tup [_, SV.bool b]) ?_)
   rw [Bool.eq_iff_iff]
   show _ ↔ (dr3 a b).2 = true
   first
     | (simp_all [XV, @eq_comm _ a.s.k b.p.k, @eq_comm _ a.s.t b.p.t, @eq_comm _ a.s.y b.p.y, @eq_comm _ a.s.l b.p.l]; done)
     | trace_state
set_option maxHeartbeats 4000000 in
theorem Z6u (a b : Qd) : Does Tryz.prog tab 67 0 [.int .i64 5, a.sv, b.sv] [] [] (Val (.tup [(ZA 5 a b).1.sv, .bool (ZA 5 a b).2])) := by
 unfold Qd.sv
 refine Does.enter Z2 (g := 67) (fn := Tryz.f67) Tryz.call67 Tryz.func67 rfl 161 rfl rfl [.cell 6 30, .tmp 7] rfl ?_
 intro w0 F η0 h0
 conv => whnf
 repeat' ((first | refine CALL.value (U8) rfl rfl ?_ | refine CALL.value (W2) rfl rfl ?_ | refine CALL.value (W3) rfl rfl ?_ | refine CALL.value (VI) rfl rfl ?_ | refine CALL.value (VJ) rfl rfl ?_ | refine DRAWN.of (id := 14) Z2 Z8 YC (by kernel_rfl) ?_ | refine DRAWN.of (id := 12) Z2 Z8 VG (by kernel_rfl) ?_ | refine DRAWN.of (id := 10) Z2 Z8 VH (by kernel_rfl) ?_ | refine DRAWN.of (id := 8) Z2 Z8 YC (by kernel_rfl) ?_ | refine DRAWN.of (id := 6) Z2 Z8 YD (by kernel_rfl) ?_ | refine DRAWN.of (id := 4) Z2 Z8 YD (by kernel_rfl) ?_ | refine ADD.mk (fun _ _ => ?_) | refine AD ?_ | refine FORK.mk ?_ ?_ | refine AU ?_ | (refine IW (fun h => ?_) (fun h => ?_) <;> try (exfalso; omega))) <;> conv => whnf)
 all_goals
   refine FIN.value h0 rfl (congrArg (fun b => SV.tup [_, SV.bool b]) ?_)
   rw [Bool.eq_iff_iff]
   show _ ↔ (chn subP a b).2 = true
   first
     | (simp_all [XV, @eq_comm _ a.s.k b.p.k, @eq_comm _ a.s.t b.p.t, @eq_comm _ a.s.y b.p.y, @eq_comm _ a.s.l b.p.l]; done)
     | trace_state
set_option maxHeartbeats 4000000 in
theorem Z6v (a b : Qd) : Does Tryz.prog tab 67 0 [.int .i64 7, a.sv, b.sv] [] [] (Val (.tup [(ZA 7 a b).1.sv, .bool (ZA 7 a b).2])) := by
 unfold Qd.sv
 refine Does.enter Z2 (g := 67) (fn := Tryz.f67) Tryz.call67 Tryz.func67 rfl 161 rfl rfl [.cell 6 30, .tmp 7] rfl ?_
 intro w0 F η0 h0
 conv => whnf
 repeat' ((first | refine CALL.value (U8) rfl rfl ?_ | refine CALL.value (W2) rfl rfl ?_ | refine CALL.value (W3) rfl rfl ?_ | refine CALL.value (VI) rfl rfl ?_ | refine CALL.value (VJ) rfl rfl ?_ | refine DRAWN.of (id := 14) Z2 Z8 YC (by kernel_rfl) ?_ | refine DRAWN.of (id := 12) Z2 Z8 VG (by kernel_rfl) ?_ | refine DRAWN.of (id := 10) Z2 Z8 VH (by kernel_rfl) ?_ | refine DRAWN.of (id := 8) Z2 Z8 YC (by kernel_rfl) ?_ | refine DRAWN.of (id := 6) Z2 Z8 YD (by kernel_rfl) ?_ | refine DRAWN.of (id := 4) Z2 Z8 YD (by kernel_rfl) ?_ | refine ADD.mk (fun _ _ => ?_) | refine AD ?_ | refine FORK.mk ?_ ?_ | refine AU ?_ | (refine IW (fun h => ?_) (fun h => ?_) <;> try (exfalso; omega))) <;> conv => whnf)
 all_goals
   refine FIN.value h0 rfl (congrArg (fun b => SV.tup [_, SV.bool b]) ?_)
   rw [Bool.eq_iff_iff]
   show _ ↔ (dr7 a b).2 = true
   first
     | (simp_all [XV, @eq_comm _ a.s.k b.p.k, @eq_comm _ a.s.t b.p.t, @eq_comm _ a.s.y b.p.y, @eq_comm _ a.s.l b.p.l]; done)
     | trace_state
set_option maxHeartbeats 4000000 in
theorem Z6w (a b : Qd) : Does Tryz.prog tab 67 0 [.int .i64 9, a.sv, b.sv] [] [] (Val (.tup [(ZA 9 a b).1.sv, .bool (ZA 9 a b).2])) := by
 unfold Qd.sv
 refine Does.enter Z2 (g := 67) (fn := Tryz.f67) Tryz.call67 Tryz.func67 rfl 161 rfl rfl [.cell 6 30, .tmp 7] rfl ?_
 intro w0 F η0 h0
 conv => whnf
 repeat' ((first | refine CALL.value (U8) rfl rfl ?_ | refine CALL.value (W2) rfl rfl ?_ | refine CALL.value (W3) rfl rfl ?_ | refine CALL.value (VI) rfl rfl ?_ | refine CALL.value (VJ) rfl rfl ?_ | refine DRAWN.of (id := 14) Z2 Z8 YC (by kernel_rfl) ?_ | refine DRAWN.of (id := 12) Z2 Z8 VG (by kernel_rfl) ?_ | refine DRAWN.of (id := 10) Z2 Z8 VH (by kernel_rfl) ?_ | refine DRAWN.of (id := 8) Z2 Z8 YC (by kernel_rfl) ?_ | refine DRAWN.of (id := 6) Z2 Z8 YD (by kernel_rfl) ?_ | refine DRAWN.of (id := 4) Z2 Z8 YD (by kernel_rfl) ?_ | refine ADD.mk (fun _ _ => ?_) | refine AD ?_ | refine FORK.mk ?_ ?_ | refine AU ?_ | (refine IW (fun h => ?_) (fun h => ?_) <;> try (exfalso; omega))) <;> conv => whnf)
 all_goals
   refine FIN.value h0 rfl (congrArg (fun b => SV.tup [_, SV.bool b]) ?_)
   rw [Bool.eq_iff_iff]
   show _ ↔ (dr9 a b).2 = true
   first
     | (simp_all [XV, @eq_comm _ a.s.k b.p.k, @eq_comm _ a.s.t b.p.t, @eq_comm _ a.s.y b.p.y, @eq_comm _ a.s.l b.p.l]; done)
     | trace_state
set_option maxHeartbeats 4000000 in
theorem Z4V (a b : Qd) : Does Tryz.prog tab 67 0 [.int .i64 11, a.sv, b.sv] [] [] (Val (.tup [(ZA 11 a b).1.sv, .bool (ZA 11 a b).2])) := by
 unfold Qd.sv
 refine Does.enter Z2 (g := 67) (fn := Tryz.f67) Tryz.call67 Tryz.func67 rfl 161 rfl rfl [.cell 6 30, .tmp 7] rfl ?_
 intro w0 F η0 h0
 conv => whnf
 repeat' ((first | refine CALL.value (U8) rfl rfl ?_ | refine CALL.value (W2) rfl rfl ?_ | refine CALL.value (W3) rfl rfl ?_ | refine CALL.value (VI) rfl rfl ?_ | refine CALL.value (VJ) rfl rfl ?_ | refine DRAWN.of (id := 14) Z2 Z8 YC (by kernel_rfl) ?_ | refine DRAWN.of (id := 12) Z2 Z8 VG (by kernel_rfl) ?_ | refine DRAWN.of (id := 10) Z2 Z8 VH (by kernel_rfl) ?_ | refine DRAWN.of (id := 8) Z2 Z8 YC (by kernel_rfl) ?_ | refine DRAWN.of (id := 6) Z2 Z8 YD (by kernel_rfl) ?_ | refine DRAWN.of (id := 4) Z2 Z8 YD (by kernel_rfl) ?_ | refine ADD.mk (fun _ _ => ?_) | refine AD ?_ | refine FORK.mk ?_ ?_ | refine AU ?_ | (refine IW (fun h => ?_) (fun h => ?_) <;> try (exfalso; omega))) <;> conv => whnf)
 all_goals
   refine FIN.value h0 rfl (congrArg (fun b => SV.tup [_, SV.bool b]) ?_)
   rw [Bool.eq_iff_iff]
   show _ ↔ (chn subC a b).2 = true
   first
     | (simp_all [XV, @eq_comm _ a.s.k b.p.k, @eq_comm _ a.s.t b.p.t, @eq_comm _ a.s.y b.p.y, @eq_comm _ a.s.l b.p.l]; done)
     | trace_state
theorem Z6x (n : Int) (hx : ¬ (n = 2 ∨ n = 3 ∨ n = 5 ∨ n = 7 ∨ n = 9 ∨ n = 11)) (a b : Qd) : Does Tryz.prog tab 67 0 [.int .i64 n, a.sv, b.sv] [] [] (Val (.tup [(ZA n a b).1.sv, .bool (ZA n a b).2])) := by
 have hn := Yy (a := a) (b := b) hx
 unfold Qd.sv
 refine Does.enter Z2 (g := 67) (fn := Tryz.f67) Tryz.call67 Tryz.func67 rfl 161 rfl rfl [.cell 6 30, .tmp 7] rfl ?_
 intro w0 F η0 h0
 conv => whnf
 repeat' ((first | refine CALL.value (U8) rfl rfl ?_ | refine AU ?_ | (refine IW (fun h => ?_) (fun h => ?_) <;> try (exfalso; omega))) <;> conv => whnf)
 all_goals first
   | (refine FIN.value h0 rfl ?_; rw [hn]; rfl)
   | (exfalso; omega)
   | trace_state
theorem Z7E (n : Int) (a b : Qd) : Does Tryz.prog tab 67 0 [.int .i64 n, a.sv, b.sv] [] [] (Val (.tup [(ZA n a b).1.sv, .bool (ZA n a b).2])) := by
 by_cases hx : n = 2 ∨ n = 3 ∨ n = 5 ∨ n = 7 ∨ n = 9 ∨ n = 11
 · rcases hx with rfl | rfl | rfl | rfl | rfl | rfl
   · exact Z6s a b
   · exact Z6t a b
   · exact Z6u a b
   · exact Z6v a b
   · exact Z6w a b
   · exact Z4V a b
 · exact Z6x n hx a b
end Go.Proofs.YtjbbkimodgffiaaGreatDoor
