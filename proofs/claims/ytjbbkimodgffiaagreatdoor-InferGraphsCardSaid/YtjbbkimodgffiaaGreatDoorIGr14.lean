/- Part 14: Infer, Infer3. Conditions: as each part says. -/
import Derived.Test.YtjbbkimodgffiaaGreatDoorIGr9
set_option linter.unusedVariables false
set_option linter.unusedSimpArgs false
set_option maxRecDepth 20000
set_option maxHeartbeats 8000000
namespace Go.Proofs.YtjbbkimodgffiaaGreatDoor
open Go.Sx Go.Our
def Z65 : Plan := (.take 0 1 (.take 2 1 (.take 4 1 (.take 7 1 (.take 1 2 (.take 3 2 (.take 5 2 (.take 8 2 (.take 6 3 (.take 9 3 (.take 10 1 (.take 11 1 (.take 13 1 (.fork3 12 3 14 3 17 0 (.fork 14 3 17 0 (Zq [(15, 1), (16, 1), (17, 0), (18, 1)]) (Zq [(14, 2), (15, 1), (16, 1), (18, 1)])) (.fork 12 3 17 0 (Zq [(15, 1), (16, 1), (17, 0), (18, 1)]) (Zq [(12, 2), (15, 1), (16, 1), (18, 1)])) (Zq [(12, 2), (14, 2), (15, 1), (16, 1), (18, 1)])))))))))))))))
def Z9V : Plan := (.take 0 1 (.take 2 1 (.take 4 1 (.take 6 1 (.take 9 1 (.take 1 2 (.take 3 2 (.take 5 2 (.take 7 2 (.take 8 1 (.take 10 2 (.take 11 3 (.take 12 1 (.take 13 1 (.take 15 1 (.fork3 14 3 16 3 19 0 (.fork 16 3 19 0 (Zq [(17, 1), (18, 1), (19, 0), (20, 1)]) (Zq [(16, 2), (17, 1), (18, 1), (20, 1)])) (.fork 14 3 19 0 (Zq [(17, 1), (18, 1), (19, 0), (20, 1)]) (Zq [(14, 2), (17, 1), (18, 1), (20, 1)])) (Zq [(14, 2), (16, 2), (17, 1), (18, 1), (20, 1)])))))))))))))))))
def Z9W : Plan := (.take 0 1 (.take 2 1 (.take 4 1 (.take 7 1 (.take 1 2 (.take 3 2 (.take 5 2 (.take 8 2 (.take 6 3 (.take 9 3 (.take 10 1 (.take 11 1 (.take 12 2 (.take 13 3 (.take 14 1 (.take 15 1 (.take 16 1 (.take 18 1 (.fork3 17 3 19 3 22 0 (.fork 19 3 22 0 (Zq [(20, 1), (21, 1), (22, 0), (23, 1)]) (Zq [(19, 2), (20, 1), (21, 1), (23, 1)])) (.fork 17 3 22 0 (Zq [(20, 1), (21, 1), (22, 0), (23, 1)]) (Zq [(17, 2), (20, 1), (21, 1), (23, 1)])) (Zq [(17, 2), (19, 2), (20, 1), (21, 1), (23, 1)]))))))))))))))))))))
def Z9X : Plan := (.take 0 1 (.take 2 1 (.take 4 1 (.take 6 1 (.take 9 1 (.take 1 2 (.take 3 2 (.take 5 2 (.take 7 2 (.take 8 1 (.take 10 2 (.take 11 2 (.take 12 3 (.take 13 1 (.take 14 1 (.take 16 1 (.take 15 2 (.take 17 2 (.take 18 1 (.take 19 1 (.take 20 1 (.take 21 1 (.take 23 1 (.fork3 22 3 24 3 27 0 (.fork 24 3 27 0 (Zq [(25, 1), (26, 1), (27, 0), (28, 1)]) (Zq [(24, 2), (25, 1), (26, 1), (28, 1)])) (.fork 22 3 27 0 (Zq [(25, 1), (26, 1), (27, 0), (28, 1)]) (Zq [(22, 2), (25, 1), (26, 1), (28, 1)])) (Zq [(22, 2), (24, 2), (25, 1), (26, 1), (28, 1)])))))))))))))))))))))))))
theorem teq (x y : Tm) : (x.k == y.k && (x.t == y.t && (x.y == y.y && (x.l == y.l && true)))) = decide (x = y) := by
 rw [Bool.eq_iff_iff]
 simp [V3]
theorem XH (x : Tm) (s : List UInt8) : Does Tryz.prog tab 98 0 [x.sv, .str s] [] [] (Val (.bool (decide (x = iriT s)))) := by
 unfold Tm.sv
 refine Does.enter Z2 (g := 98) (fn := Tryz.f98) Tryz.call98 Tryz.func98 rfl 9 rfl rfl [.tmp 4] rfl ?_
 intro w0 F η0 h0
 conv => whnf
 repeat' ((first | refine AU ?_ | (refine IW (fun h => ?_) (fun h => ?_) <;> try (exfalso; omega))) <;> conv => whnf)
 exact FIN.value h0 rfl (congrArg SV.bool (teq x (iriT s)))
theorem Ui (s o g : Tm) : Does Tryz.prog tab 97 0 [s.sv, o.sv, g.sv] [] [] (Val (Qd.sv ⟨s, iriT typB, o, g⟩)) := by
 unfold Tm.sv
 refine Does.enter Z2 (g := 97) (fn := Tryz.f97) Tryz.call97 Tryz.func97 rfl 12 rfl rfl [.cell 6 30] rfl ?_
 intro w0 F η0 h0
 conv => whnf
 repeat' ((first | refine AU ?_ | (refine IW (fun h => ?_) (fun h => ?_) <;> try (exfalso; omega))) <;> conv => whnf)
 exact FIN.value h0 rfl rfl
theorem Z6X (a b : Qd) : Does Tryz.prog tab 96 0 [a.sv, b.sv] [] [] (Val (.tup [(dr2 a b).1.sv, .bool (dr2 a b).2])) := by
 unfold Qd.sv
 refine Does.enter Z2 (g := 96) (fn := Tryz.f96) Tryz.call96 Tryz.func96 rfl 23 rfl rfl [.cell 4 30, .tmp 5] rfl ?_
 intro w0 F η0 h0
 conv => whnf
 repeat' ((first | refine DRAWN.of (id := 1) Z2 mixed Z65 (by kernel_rfl) ?_ | refine ADD.mk (fun _ _ => ?_) | refine AD ?_ | refine FORK.mk ?_ ?_ | refine CALL.value (Ui b.s a.o a.g) rfl rfl ?_ | refine CALL.value (XH a.p domB) rfl rfl ?_ | refine AU ?_ | (refine IW (fun h => ?_) (fun h => ?_) <;> try (exfalso; omega))) <;> conv => whnf)
 all_goals
   refine FIN.value h0 rfl (congrArg (fun b => SV.tup [_, SV.bool b]) ?_)
   rw [Bool.eq_iff_iff]
   first
     | (simp_all [V3]; done)
     | trace_state
theorem Z6Y (a b : Qd) : Does Tryz.prog tab 99 0 [a.sv, b.sv] [] [] (Val (.tup [(dr3 a b).1.sv, .bool (dr3 a b).2])) := by
 unfold Qd.sv
 refine Does.enter Z2 (g := 99) (fn := Tryz.f99) Tryz.call99 Tryz.func99 rfl 23 rfl rfl [.cell 4 30, .tmp 5] rfl ?_
 intro w0 F η0 h0
 conv => whnf
 repeat' ((first | refine DRAWN.of (id := 1) Z2 mixed Z65 (by kernel_rfl) ?_ | refine ADD.mk (fun _ _ => ?_) | refine AD ?_ | refine FORK.mk ?_ ?_ | refine CALL.value (Ui b.o a.o a.g) rfl rfl ?_ | refine CALL.value (XH a.p ranB) rfl rfl ?_ | refine AU ?_ | (refine IW (fun h => ?_) (fun h => ?_) <;> try (exfalso; omega))) <;> conv => whnf)
 all_goals
   refine FIN.value h0 rfl (congrArg (fun b => SV.tup [_, SV.bool b]) ?_)
   rw [Bool.eq_iff_iff]
   first
     | (simp_all [V3]; done)
     | trace_state
theorem Z6Z (a b : Qd) : Does Tryz.prog tab 101 0 [a.sv, b.sv] [] [] (Val (.tup [(dr7 a b).1.sv, .bool (dr7 a b).2])) := by
 unfold Qd.sv
 refine Does.enter Z2 (g := 101) (fn := Tryz.f101) Tryz.call101 Tryz.func101 rfl 25 rfl rfl [.cell 4 30, .tmp 5] rfl ?_
 intro w0 F η0 h0
 conv => whnf
 repeat' ((first | refine DRAWN.of (id := 1) Z2 mixed Z9V (by kernel_rfl) ?_ | refine ADD.mk (fun _ _ => ?_) | refine AD ?_ | refine FORK.mk ?_ ?_ | refine CALL.value (XH a.p subP) rfl rfl ?_ | refine AU ?_ | (refine IW (fun h => ?_) (fun h => ?_) <;> try (exfalso; omega))) <;> conv => whnf)
 all_goals
   refine FIN.value h0 rfl (congrArg (fun b => SV.tup [_, SV.bool b]) ?_)
   rw [Bool.eq_iff_iff]
   first
     | (simp_all [V3]; done)
     | trace_state
theorem Z70 (a b : Qd) : Does Tryz.prog tab 102 0 [a.sv, b.sv] [] [] (Val (.tup [(dr9 a b).1.sv, .bool (dr9 a b).2])) := by
 unfold Qd.sv
 refine Does.enter Z2 (g := 102) (fn := Tryz.f102) Tryz.call102 Tryz.func102 rfl 28 rfl rfl [.cell 4 30, .tmp 5] rfl ?_
 intro w0 F η0 h0
 conv => whnf
 repeat' ((first | refine DRAWN.of (id := 1) Z2 mixed Z9W (by kernel_rfl) ?_ | refine ADD.mk (fun _ _ => ?_) | refine AD ?_ | refine FORK.mk ?_ ?_ | refine CALL.value (Ui b.s a.o a.g) rfl rfl ?_ | refine CALL.value (XH a.p subC) rfl rfl ?_ | refine CALL.value (XH b.p typB) rfl rfl ?_ | refine AU ?_ | (refine IW (fun h => ?_) (fun h => ?_) <;> try (exfalso; omega))) <;> conv => whnf)
 all_goals
   refine FIN.value h0 rfl (congrArg (fun b => SV.tup [_, SV.bool b]) ?_)
   rw [Bool.eq_iff_iff]
   first
     | (simp_all [V3]; done)
     | trace_state
theorem Z1e (s : List UInt8) (a b : Qd) : Does Tryz.prog tab 119 1 [a.sv, b.sv, .ptr (.loc 0) 0 0 0] [] [(0, .box [.str s])] (ValK 1 (.tup [(chn s a b).1.sv, .bool (chn s a b).2])) := by
 unfold Qd.sv
 refine Does.enter Z2 (g := 119) (fn := Tryz.f119) Tryz.call119 Tryz.func119 rfl 34 rfl rfl [.cell 5 30, .tmp 6] rfl ?_
 intro w0 F η0 h0
 conv => whnf
 repeat' ((first | refine DRAWN.of (id := 1) Z2 mixed Z9X (by kernel_rfl) ?_ | refine ADD.mk (fun _ _ => ?_) | refine AD ?_ | refine FORK.mk ?_ ?_ | refine CALL.value (XH a.p s) rfl rfl ?_ | refine AU ?_ | (refine IW (fun h => ?_) (fun h => ?_) <;> try (exfalso; omega))) <;> conv => whnf)
 all_goals
   refine FIN.valueK h0 rfl (congrArg (fun b => SV.tup [_, SV.bool b]) ?_)
   rw [Bool.eq_iff_iff]
   first
     | (simp_all [V3]; done)
     | trace_state
def FnK (f : FuncId) (s : List UInt8) : SV → Hps → Nat → Prop := fun r O nx => r = .fn (.func f) [] [.ptr (.loc 0) 0 0 0] ∧ O = [(0, .box [.str s])] ∧ nx = 1
theorem Z23 (s : List UInt8) : Does Tryz.prog tab 100 0 [.str s] [] [] (FnK 119 s) := by
 refine Does.enter Z2 (g := 100) (fn := Tryz.f100) Tryz.call100 Tryz.func100 rfl 4 rfl rfl [.tmp 2] rfl ?_
 intro w0 F η0 h0
 conv => whnf
 repeat' ((first | refine AU ?_ | (refine IW (fun h => ?_) (fun h => ?_) <;> try (exfalso; omega))) <;> conv => whnf)
 refine FIN.aA h0 [0] (.fn (.func 119) [] [.ptr (.loc 0) 0 0 0]) [(0, .box [.str s])] ?_
 exact ⟨rfl, rfl, rfl⟩
def fnR (f : FuncId) : List SV := [.fn (.func f) [] []]
def fnC (f : FuncId) (i : Nat) : List SV := [.fn (.func f) [] [.ptr (.loc i) 0 0 0]]
def nilR : List SV := [.val .nilFunc]
def Zaz : List (List SV) := [nilR, nilR, fnR 96, fnR 99, nilR, fnC 119 0, nilR, fnR 101, nilR, fnR 102, nilR, fnC 119 1]
def Zc0 : SV → Hps → Nat → Prop := fun r O nx => r = .arr 1 Zaz ∧ O = [(0, .box [.str subP]), (1, .box [.str subC])] ∧ nx = 2
theorem ZU : Does Tryz.prog tab 65 0 [] [] [] Zc0 := by
 refine Does.enter Z2 (g := 65) (fn := Tryz.f65) Tryz.call65 Tryz.func65 rfl 4 rfl rfl [.cell 0 101] rfl ?_
 intro w0 F η0 h0
 conv => whnf
 refine CALL.aA [] (Z23 subP) ?_
 rintro r O' nx' ⟨rfl, rfl, rfl⟩
 conv => whnf
 refine CALL.aA [] (Z23 subC) ?_
 rintro r O' nx' ⟨rfl, rfl, rfl⟩
 conv => whnf
 repeat' ((first | refine AU ?_ | (refine IW (fun h => ?_) (fun h => ?_) <;> try (exfalso; omega))) <;> conv => whnf)
 refine FIN.aA h0 [1, 2] (.arr 1 Zaz) [(0, .box [.str subP]), (1, .box [.str subC])] ?_
 exact ⟨rfl, rfl, rfl⟩
end Go.Proofs.YtjbbkimodgffiaaGreatDoor
namespace Go.Proofs.YtjbbkimodgffiaaGreatDoor
open Go.Sx Go.Our
end Go.Proofs.YtjbbkimodgffiaaGreatDoor
