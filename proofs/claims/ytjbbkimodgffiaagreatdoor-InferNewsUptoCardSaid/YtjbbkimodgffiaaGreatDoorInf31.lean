/- Part 31: Sets4, Sets5. Conditions: as each part says. -/
import Derived.Test.YtjbbkimodgffiaaGreatDoorInf19
set_option linter.unusedVariables false
set_option linter.unusedSimpArgs false
set_option maxRecDepth 20000
set_option maxHeartbeats 8000000
namespace Go.Proofs.YtjbbkimodgffiaaGreatDoor
open Go.Sx Go.Our
def Z5Q : Plan := (Zj [(0, 1), (1, 1), (2, 1), (4, 1), (5, 1), (3, 2), (6, 2), (7, 3), (8, 1)])
theorem Zg5 {α : Type} {c : α → α → Int} {f b s : Bool} : ZH c f b s [] [] = [] := by unfold ZH; rfl
theorem pm_a {α : Type} {c : α → α → Int} {f b s : Bool} (x : α) (xs : List α) : ZH c f b s (x :: xs) [] = (if f then [x] else []) ++ ZH c f b s xs [] := by conv => lhs; unfold ZH
theorem pm_b {α : Type} {c : α → α → Int} {f b s : Bool} (y : α) (ys : List α) : ZH c f b s [] (y :: ys) = (if s then [y] else []) ++ ZH c f b s [] ys := by conv => lhs; unfold ZH
theorem Zg6 {α : Type} {c : α → α → Int} {f b s : Bool} {x y : α} {xs ys : List α} (h : c x y < 0) : ZH c f b s (x :: xs) (y :: ys) = (if f then [x] else []) ++ ZH c f b s xs (y :: ys) := by
 conv => lhs; unfold ZH
 rw [if_pos h]
theorem Zg7 {α : Type} {c : α → α → Int} {f b s : Bool} {x y : α} {xs ys : List α} (h : c x y = 0) : ZH c f b s (x :: xs) (y :: ys) = (if b then [x] else []) ++ ZH c f b s xs ys := by
 conv => lhs; unfold ZH
 rw [if_neg (by omega), if_pos h]
theorem Zg8 {α : Type} {c : α → α → Int} {f b s : Bool} {x y : α} {xs ys : List α} (h : 0 < c x y) : ZH c f b s (x :: xs) (y :: ys) = (if s then [y] else []) ++ ZH c f b s (x :: xs) ys := by
 conv => lhs; unfold ZH
 rw [if_neg (by omega), if_neg (by omega)]
set_option maxHeartbeats 4000000 in
theorem Z5R (A B : List Qd) (i n j m : Nat) (lA lB : Option Nat) (hA : i + n ≤ A.length) (hB : j + m ≤ B.length) (hl : (A.length + B.length) * 224 ≤ 281474976710656) (hnm : (n + m) * 224 ≤ 140737488351232) : Does Tryz.prog tab 92 2 [.sl (.loc 0) i 16 n lA, .sl (.loc 1) j 16 m lB, .fn (.func 62) [] [], .bool true, .bool false, .bool false] [] [(0, .rows 16 (A.map Z3)), (1, .rows 16 (B.map Z3))]
   (Z5G Z3 16 2 (ZH Zm true false false ((A.drop i).take n) ((B.drop j).take m))) := by
 refine Does.enter Z2 (g := 92) (fn := Tryz.f92) Tryz.call92 Tryz.func92 rfl 75 rfl rfl [.tmp 12] rfl ?_
 intro w0 F η0 h0
 conv => whnf
 refine LOOP.nil 13 16 rfl ?_
 refine LOOP.go Z2 [2, 3, 4, 5] (X := List Qd × Nat × Nat) (fun x => x.2.1 ≤ n ∧ x.2.2 ≤ m ∧ x.1.length ≤ x.2.1 + x.2.2 ∧ ZH Zm true false false ((A.drop i).take n) ((B.drop j).take m) = x.1 ++ ZH Zm true false false ((A.drop (i + x.2.1)).take (n - x.2.1)) ((B.drop (j + x.2.2)).take (m - x.2.2)))
   (fun x => [(0, .sl (.loc 0) (i + x.2.1) 16 (n - x.2.1) lA), (1, .sl (.loc 1) (j + x.2.2) 16 (m - x.2.2) lB), (13, .sl (.loc 2) 0 16 x.1.length none)]) (fun x => [(2, .rows 16 (x.1.map Z3))]) 3 (fun x => (n - x.2.1) + (m - x.2.2)) ([], 0, 0) ⟨by simp, by simp, by simp, rfl⟩ ?_
 conv => whnf
 refine ⟨by exact GOES.cA h0, ?_⟩
 rintro ⟨out, p, q⟩ ⟨hp, hq, ho, hr⟩
 dsimp only at hp hq ho hr ⊢
 have hsum : IntKind.i64.wrap (((n - p : Nat) : Int) + ((m - q : Nat) : Int)) = ((n - p + (m - q) : Nat) : Int) := by rw [Z9 (by omega) (by omega)]; omega
 rcases Nat.lt_or_ge p n with hpn | hpn <;> rcases Nat.lt_or_ge q m with hqm | hqm
 · have ha := Vj (A := A) (i := i) hpn hA
   have hb := Vj (A := B) (i := j) hqm hB
   rw [ha, hb] at hr
   conv => whnf
   repeat' ((first | refine DRAWN.of (id := 7) Z2 mixed Z5Q (by kernel_rfl) ?_ | refine ADD.mk (fun _ _ => ?_) | refine AD ?_ | refine FORK.mk ?_ ?_ | refine CALL.value (Xw _ _) rfl rfl ?_ | (rw [hsum]; conv => whnf) | (refine NEED.mk (YP 224 rfl rfl rfl (by simp) (by omega)) ?_; conv => whnf) | (refine GET.at (row := Z3 (A[i + p]'(by omega))) (Y3 (by omega) (by omega)) ?_; conv => whnf) | (refine GET.at (row := Z3 (B[j + q]'(by omega))) (Y3 (by omega) (by omega)) ?_; conv => whnf) | refine AU ?_ | (refine IW (fun h => ?_) (fun h => ?_) <;> try (exfalso; omega))) <;> conv => whnf)
   all_goals first
     | (refine ⟨(out ++ [A[i + p]'(by omega)], p + 1, q), ⟨by dsimp only; omega, by dsimp only; omega, by simp only [List.length_append, List.length_cons, List.length_nil]; omega, by dsimp only; rw [hr, Zg6 (by omega)]; (first | done | rfl | (simp only [List.append_assoc, if_pos, if_neg]; (first | done | rfl | rw [hb] | rw [ha]))  | skip)⟩, by dsimp only; omega, ?_⟩; dsimp only; (conv => whnf); (refine GOES.keeping h0 [4] rfl rfl rfl (by first | rfl | (simp only [Z6, Z4, Z0 _ (Z5 _), Bool.and_self, Bool.and_true] <;> rfl)) ?_ ?_ <;> (repeat' (first | (with_reducible rfl) | (exact Za (Z5 _) (Z7 _ (Z5 _))) | (exact Za (Z5 _) (by (simp [List.take_of_length_le, ZC, Z3]))) | (exact Zp rfl (by first | (simp; done) | omega | (simp; omega))) | (exact congrArg (SV.int _) (by first | omega | (simp (disch := omega) only [lnB, Z9, Zb] <;> omega) | (simp; done) | (simp <;> omega))) | ((conv => whnf); refine ⟨?_, ?_⟩) | exact trivial | (simp only [ren, renB]; done) | rfl))); done)
     | (refine ⟨(out, p + 1, q), ⟨by dsimp only; omega, by dsimp only; omega, by dsimp only; omega, by dsimp only; rw [hr, Zg6 (by omega)]; (first | done | rfl | rw [hb]; rfl | rw [ha]; rfl | skip)⟩, by dsimp only; omega, ?_⟩; dsimp only; (conv => whnf); (refine GOES.cutting h0 rfl rfl rfl (by first | rfl | (simp only [Z6, Z4, Z0 _ (Z5 _), Bool.and_self, Bool.and_true] <;> rfl)) ?_ ?_ <;> (repeat' (first | (with_reducible rfl) | (exact Zp rfl (by first | (simp; done) | omega | (simp; omega))) | (exact congrArg (SV.int _) (by first | omega | (simp (disch := omega) only [lnB, Z9, Zb] <;> omega) | (simp; done) | (simp <;> omega))) | (exact congrArg (Hp.rows _) (by rfl)) | ((conv => whnf); refine ⟨?_, ?_⟩) | exact trivial | rfl))); done)
     | (refine ⟨(out ++ [A[i + p]'(by omega)], p + 1, q + 1), ⟨by dsimp only; omega, by dsimp only; omega, by simp only [List.length_append, List.length_cons, List.length_nil]; omega, by dsimp only; rw [hr, Zg7 (by omega)]; (first | done | rfl | (simp only [List.append_assoc, if_pos, if_neg]; (first | done | rfl | rw [hb] | rw [ha]))  | skip)⟩, by dsimp only; omega, ?_⟩; dsimp only; (conv => whnf); (refine GOES.keeping h0 [4] rfl rfl rfl (by first | rfl | (simp only [Z6, Z4, Z0 _ (Z5 _), Bool.and_self, Bool.and_true] <;> rfl)) ?_ ?_ <;> (repeat' (first | (with_reducible rfl) | (exact Za (Z5 _) (Z7 _ (Z5 _))) | (exact Za (Z5 _) (by (simp [List.take_of_length_le, ZC, Z3]))) | (exact Zp rfl (by first | (simp; done) | omega | (simp; omega))) | (exact congrArg (SV.int _) (by first | omega | (simp (disch := omega) only [lnB, Z9, Zb] <;> omega) | (simp; done) | (simp <;> omega))) | ((conv => whnf); refine ⟨?_, ?_⟩) | exact trivial | (simp only [ren, renB]; done) | rfl))); done)
     | (refine ⟨(out, p + 1, q + 1), ⟨by dsimp only; omega, by dsimp only; omega, by dsimp only; omega, by dsimp only; rw [hr, Zg7 (by omega)]; (first | done | rfl | rw [hb]; rfl | rw [ha]; rfl | skip)⟩, by dsimp only; omega, ?_⟩; dsimp only; (conv => whnf); (refine GOES.cutting h0 rfl rfl rfl (by first | rfl | (simp only [Z6, Z4, Z0 _ (Z5 _), Bool.and_self, Bool.and_true] <;> rfl)) ?_ ?_ <;> (repeat' (first | (with_reducible rfl) | (exact Zp rfl (by first | (simp; done) | omega | (simp; omega))) | (exact congrArg (SV.int _) (by first | omega | (simp (disch := omega) only [lnB, Z9, Zb] <;> omega) | (simp; done) | (simp <;> omega))) | (exact congrArg (Hp.rows _) (by rfl)) | ((conv => whnf); refine ⟨?_, ?_⟩) | exact trivial | rfl))); done)
     | (refine ⟨(out ++ [B[j + q]'(by omega)], p, q + 1), ⟨by dsimp only; omega, by dsimp only; omega, by simp only [List.length_append, List.length_cons, List.length_nil]; omega, by dsimp only; rw [hr, Zg8 (by omega)]; (first | done | rfl | (simp only [List.append_assoc, if_pos, if_neg]; (first | done | rfl | rw [hb] | rw [ha]))  | skip)⟩, by dsimp only; omega, ?_⟩; dsimp only; (conv => whnf); (refine GOES.keeping h0 [4] rfl rfl rfl (by first | rfl | (simp only [Z6, Z4, Z0 _ (Z5 _), Bool.and_self, Bool.and_true] <;> rfl)) ?_ ?_ <;> (repeat' (first | (with_reducible rfl) | (exact Za (Z5 _) (Z7 _ (Z5 _))) | (exact Za (Z5 _) (by (simp [List.take_of_length_le, ZC, Z3]))) | (exact Zp rfl (by first | (simp; done) | omega | (simp; omega))) | (exact congrArg (SV.int _) (by first | omega | (simp (disch := omega) only [lnB, Z9, Zb] <;> omega) | (simp; done) | (simp <;> omega))) | ((conv => whnf); refine ⟨?_, ?_⟩) | exact trivial | (simp only [ren, renB]; done) | rfl))); done)
     | (refine ⟨(out, p, q + 1), ⟨by dsimp only; omega, by dsimp only; omega, by dsimp only; omega, by dsimp only; rw [hr, Zg8 (by omega)]; (first | done | rfl | rw [hb]; rfl | rw [ha]; rfl | skip)⟩, by dsimp only; omega, ?_⟩; dsimp only; (conv => whnf); (refine GOES.cutting h0 rfl rfl rfl (by first | rfl | (simp only [Z6, Z4, Z0 _ (Z5 _), Bool.and_self, Bool.and_true] <;> rfl)) ?_ ?_ <;> (repeat' (first | (with_reducible rfl) | (exact Zp rfl (by first | (simp; done) | omega | (simp; omega))) | (exact congrArg (SV.int _) (by first | omega | (simp (disch := omega) only [lnB, Z9, Zb] <;> omega) | (simp; done) | (simp <;> omega))) | (exact congrArg (Hp.rows _) (by rfl)) | ((conv => whnf); refine ⟨?_, ?_⟩) | exact trivial | rfl))); done)
     | trace_state
 · have ha := Vj (A := A) (i := i) hpn hA
   have hb : (B.drop (j + q)).take (m - q) = [] := by rw [show m - q = 0 by omega]; rfl
   rw [ha, hb] at hr
   conv => whnf
   repeat' ((first | refine DRAWN.of (id := 7) Z2 mixed Z5Q (by kernel_rfl) ?_ | refine ADD.mk (fun _ _ => ?_) | refine AD ?_ | refine FORK.mk ?_ ?_ | refine CALL.value (Xw _ _) rfl rfl ?_ | (rw [hsum]; conv => whnf) | (refine NEED.mk (YP 224 rfl rfl rfl (by simp) (by omega)) ?_; conv => whnf) | (refine GET.at (row := Z3 (A[i + p]'(by omega))) (Y3 (by omega) (by omega)) ?_; conv => whnf) | (refine GET.at (row := Z3 (B[j + q]'(by omega))) (Y3 (by omega) (by omega)) ?_; conv => whnf) | refine AU ?_ | (refine IW (fun h => ?_) (fun h => ?_) <;> try (exfalso; omega))) <;> conv => whnf)
   all_goals first
     | (refine ⟨(out ++ [A[i + p]'(by omega)], p + 1, q), ⟨by dsimp only; omega, by dsimp only; omega, by simp only [List.length_append, List.length_cons, List.length_nil]; omega, by dsimp only; rw [hr, pm_a]; (first | done | rfl | (simp only [List.append_assoc, if_pos, if_neg]; (first | done | rfl | rw [hb] | rw [ha]))  | skip)⟩, by dsimp only; omega, ?_⟩; dsimp only; (conv => whnf); (refine GOES.keeping h0 [4] rfl rfl rfl (by first | rfl | (simp only [Z6, Z4, Z0 _ (Z5 _), Bool.and_self, Bool.and_true] <;> rfl)) ?_ ?_ <;> (repeat' (first | (with_reducible rfl) | (exact Za (Z5 _) (Z7 _ (Z5 _))) | (exact Za (Z5 _) (by (simp [List.take_of_length_le, ZC, Z3]))) | (exact Zp rfl (by first | (simp; done) | omega | (simp; omega))) | (exact congrArg (SV.int _) (by first | omega | (simp (disch := omega) only [lnB, Z9, Zb] <;> omega) | (simp; done) | (simp <;> omega))) | ((conv => whnf); refine ⟨?_, ?_⟩) | exact trivial | (simp only [ren, renB]; done) | rfl))); done)
     | (refine ⟨(out, p + 1, q), ⟨by dsimp only; omega, by dsimp only; omega, by dsimp only; omega, by dsimp only; rw [hr, pm_a]; (first | done | rfl | rw [hb]; rfl | rw [ha]; rfl | skip)⟩, by dsimp only; omega, ?_⟩; dsimp only; (conv => whnf); (refine GOES.cutting h0 rfl rfl rfl (by first | rfl | (simp only [Z6, Z4, Z0 _ (Z5 _), Bool.and_self, Bool.and_true] <;> rfl)) ?_ ?_ <;> (repeat' (first | (with_reducible rfl) | (exact Zp rfl (by first | (simp; done) | omega | (simp; omega))) | (exact congrArg (SV.int _) (by first | omega | (simp (disch := omega) only [lnB, Z9, Zb] <;> omega) | (simp; done) | (simp <;> omega))) | (exact congrArg (Hp.rows _) (by rfl)) | ((conv => whnf); refine ⟨?_, ?_⟩) | exact trivial | rfl))); done)
     | trace_state
 · have hb := Vj (A := B) (i := j) hqm hB
   have ha : (A.drop (i + p)).take (n - p) = [] := by rw [show n - p = 0 by omega]; rfl
   rw [ha, hb] at hr
   conv => whnf
   repeat' ((first | refine DRAWN.of (id := 7) Z2 mixed Z5Q (by kernel_rfl) ?_ | refine ADD.mk (fun _ _ => ?_) | refine AD ?_ | refine FORK.mk ?_ ?_ | refine CALL.value (Xw _ _) rfl rfl ?_ | (rw [hsum]; conv => whnf) | (refine NEED.mk (YP 224 rfl rfl rfl (by simp) (by omega)) ?_; conv => whnf) | (refine GET.at (row := Z3 (A[i + p]'(by omega))) (Y3 (by omega) (by omega)) ?_; conv => whnf) | (refine GET.at (row := Z3 (B[j + q]'(by omega))) (Y3 (by omega) (by omega)) ?_; conv => whnf) | refine AU ?_ | (refine IW (fun h => ?_) (fun h => ?_) <;> try (exfalso; omega))) <;> conv => whnf)
   all_goals first
     | (refine ⟨(out ++ [B[j + q]'(by omega)], p, q + 1), ⟨by dsimp only; omega, by dsimp only; omega, by simp only [List.length_append, List.length_cons, List.length_nil]; omega, by dsimp only; rw [hr, pm_b]; (first | done | rfl | (simp only [List.append_assoc, if_pos, if_neg]; (first | done | rfl | rw [hb] | rw [ha]))  | skip)⟩, by dsimp only; omega, ?_⟩; dsimp only; (conv => whnf); (refine GOES.keeping h0 [4] rfl rfl rfl (by first | rfl | (simp only [Z6, Z4, Z0 _ (Z5 _), Bool.and_self, Bool.and_true] <;> rfl)) ?_ ?_ <;> (repeat' (first | (with_reducible rfl) | (exact Za (Z5 _) (Z7 _ (Z5 _))) | (exact Za (Z5 _) (by (simp [List.take_of_length_le, ZC, Z3]))) | (exact Zp rfl (by first | (simp; done) | omega | (simp; omega))) | (exact congrArg (SV.int _) (by first | omega | (simp (disch := omega) only [lnB, Z9, Zb] <;> omega) | (simp; done) | (simp <;> omega))) | ((conv => whnf); refine ⟨?_, ?_⟩) | exact trivial | (simp only [ren, renB]; done) | rfl))); done)
     | (refine ⟨(out, p, q + 1), ⟨by dsimp only; omega, by dsimp only; omega, by dsimp only; omega, by dsimp only; rw [hr, pm_b]; (first | done | rfl | rw [hb]; rfl | rw [ha]; rfl | skip)⟩, by dsimp only; omega, ?_⟩; dsimp only; (conv => whnf); (refine GOES.cutting h0 rfl rfl rfl (by first | rfl | (simp only [Z6, Z4, Z0 _ (Z5 _), Bool.and_self, Bool.and_true] <;> rfl)) ?_ ?_ <;> (repeat' (first | (with_reducible rfl) | (exact Zp rfl (by first | (simp; done) | omega | (simp; omega))) | (exact congrArg (SV.int _) (by first | omega | (simp (disch := omega) only [lnB, Z9, Zb] <;> omega) | (simp; done) | (simp <;> omega))) | (exact congrArg (Hp.rows _) (by rfl)) | ((conv => whnf); refine ⟨?_, ?_⟩) | exact trivial | rfl))); done)
     | trace_state
 · have ha : (A.drop (i + p)).take (n - p) = [] := by rw [show n - p = 0 by omega]; rfl
   have hb : (B.drop (j + q)).take (m - q) = [] := by rw [show m - q = 0 by omega]; rfl
   rw [ha, hb, Zg5, List.append_nil] at hr
   conv => whnf
   repeat' ((first | (rw [hsum]; conv => whnf) | refine AU ?_ | (refine IW (fun h => ?_) (fun h => ?_) <;> try (exfalso; omega))) <;> conv => whnf)
   rw [hr]
   exact FIN.rows h0 2 16 out.length rfl rfl rfl (Z5 _) ⟨rfl, rfl, rfl⟩
end Go.Proofs.YtjbbkimodgffiaaGreatDoor
namespace Go.Proofs.YtjbbkimodgffiaaGreatDoor
open Go.Sx Go.Our
def twoM (op : List Qd → List Qd → List Qd) (a b : List Qd) : List Qd × Int := if Yz a 1 = true ∧ Yz b 1 = true then (op a b, 0) else ([], 6)
def ZcK (k : Nat) (x : List Qd × Int) : SV → Hps → Nat → Prop := fun r O nx => r = .tup [.sl (.loc k) 0 16 x.1.length none, .int .i64 x.2] ∧ O = [(k, .rows 16 (x.1.map Z3))] ∧ nx = k + 1
theorem Z5S {α : Type} (l z : List α) : ((l ++ z).drop 0).take l.length = l := by simp
theorem Z9J {op : List Qd → List Qd → List Qd} {a b : List Qd} (h : ¬ (Yz a 1 = true ∧ Yz b 1 = true)) : twoM op a b = ([], 6) := by unfold twoM; rw [if_neg h]
theorem UW {op : List Qd → List Qd → List Qd} {a b : List Qd} (h : Yz a 1 = true ∧ Yz b 1 = true) : twoM op a b = (op a b, 0) := by unfold twoM; rw [if_pos h]
abbrev Z7I (l l' : List Qd) : Prop := (l.length + l'.length) * 224 ≤ 140737488351232
set_option maxHeartbeats 4000000 in
theorem ZcL (l z l' z' : List Qd) (lA lB : Option Nat) (hz : ((l ++ z).length + (l' ++ z').length) * 224 ≤ 281474976710656) (hl : Z7I l l') : Does Tryz.prog tab 63 2 [.sl (.loc 0) 0 16 l.length lA, .sl (.loc 1) 0 16 l'.length lB, .bool true, .bool false, .bool false] [] [(0, .rows 16 ((l ++ z).map Z3)), (1, .rows 16 ((l' ++ z').map Z3))]
   (ZcK 2 (twoM (ZH Zm true false false) l l')) := by
 have q1 : XQ l := by unfold XQ; unfold Z7I at hl; omega
 have q2 : XQ l' := by unfold XQ; unfold Z7I at hl; omega
 have hm := Z5R (l ++ z) (l' ++ z') 0 l.length 0 l'.length lA lB (by simp) (by simp) hz (by omega)
 rw [Z5S, Z5S] at hm
 refine Does.enter Z2 (g := 63) (fn := Tryz.f63) Tryz.call63 Tryz.func63 rfl 26 rfl rfl [.tmp 10, .tmp 11] rfl ?_
 intro w0 F η0 h0
 conv => whnf
 refine CALL.aA [0] (Z4A l z (lim := lA) q1) ?_
 rintro r O nx ⟨rfl, rfl, rfl⟩
 cases h1 : Yz l 1 with
 | false =>
   rw [Z9J (by rw [h1]; simp)]
   conv => whnf
   repeat' ((first | refine AU ?_ | (refine IW (fun h => ?_) (fun h => ?_) <;> try (exfalso; omega))) <;> conv => whnf)
   refine FIN.nilT 16 ?_
   refine FIN.aA h0 [2] (.tup [.sl (.loc 2) 0 16 0 none, .int .i64 6]) [(2, .rows 16 (([] : List Qd).map Z3))] ?_
   exact ⟨rfl, rfl, rfl⟩
 | true =>
   conv => whnf
   repeat' ((first | refine AU ?_ | (refine IW (fun h => ?_) (fun h => ?_) <;> try (exfalso; omega))) <;> conv => whnf)
   refine CALL.aA [1] (Z4A l' z' (lim := lB) q2) ?_
   rintro r O nx ⟨rfl, rfl, rfl⟩
   cases h2 : Yz l' 1 with
   | false =>
     rw [Z9J (by rw [h2]; simp)]
     conv => whnf
     repeat' ((first | refine AU ?_ | (refine IW (fun h => ?_) (fun h => ?_) <;> try (exfalso; omega))) <;> conv => whnf)
     refine FIN.nilT 16 ?_
     refine FIN.aA h0 [2] (.tup [.sl (.loc 2) 0 16 0 none, .int .i64 6]) [(2, .rows 16 (([] : List Qd).map Z3))] ?_
     exact ⟨rfl, rfl, rfl⟩
   | true =>
     rw [UW ⟨h1, h2⟩]
     conv => whnf
     repeat' ((first | refine AU ?_ | (refine IW (fun h => ?_) (fun h => ?_) <;> try (exfalso; omega))) <;> conv => whnf)
     refine CALL.aA [0, 1] (hm) ?_
     rintro r O nx ⟨rfl, rfl, rfl⟩
     conv => whnf
     refine FIN.aA h0 [2] (.tup [.sl (.loc 2) 0 16 (ZH Zm true false false l l').length none, .int .i64 0]) [(2, .rows 16 ((ZH Zm true false false l l').map Z3))] ?_
     exact ⟨rfl, rfl, rfl⟩
theorem Un (l z l' z' : List Qd) (lA lB : Option Nat) (hz : ((l ++ z).length + (l' ++ z').length) * 224 ≤ 281474976710656) (hl : Z7I l l') : Does Tryz.prog tab 33 2 [.sl (.loc 0) 0 16 l.length lA, .sl (.loc 1) 0 16 l'.length lB] [] [(0, .rows 16 ((l ++ z).map Z3)), (1, .rows 16 ((l' ++ z').map Z3))]
   (ZcK 2 (twoM (ZH Zm true false false) l l')) := by
 refine Does.enter Z2 (g := 33) (fn := Tryz.f33) Tryz.call33 Tryz.func33 rfl 11 rfl rfl [.tmp 4, .tmp 5] rfl ?_
 intro w0 F η0 h0
 conv => whnf
 refine CALL.aA [0, 1] (ZcL l z l' z' lA lB hz hl) ?_
 rintro r O nx ⟨rfl, rfl, rfl⟩
 conv => whnf
 generalize twoM (ZH Zm true false false) l l' = x
 refine FIN.aA h0 [2] (.tup [.sl (.loc 2) 0 16 x.1.length none, .int .i64 x.2]) [(2, .rows 16 (x.1.map Z3))] ?_
 exact ⟨rfl, rfl, rfl⟩
end Go.Proofs.YtjbbkimodgffiaaGreatDoor
