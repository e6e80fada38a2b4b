/- Part 10: LawHashes. Conditions: as each part says. -/
import Derived.Test.YtgjnlngljmfefaaDoorHsh8
set_option linter.unusedVariables false
set_option linter.unusedSimpArgs false
set_option maxRecDepth 20000
set_option maxHeartbeats 8000000
namespace Go.Our
open Go Go.Sx
structure HOp where
 kind : Int
 hash : Int
 other : Int
 b : List UInt8
 p : Option Addr
 c : Nat
def HOp.v (o : HOp) : Value := .slice o.p o.b.length o.c
def WK (o : HOp) : List SV := [.int .i64 o.kind, .int .i64 o.hash, .int .i64 o.other, .val o.v]
instance : PlF WK := ⟨fun _ => rfl⟩
def sumB (l : List HOp) (i : Nat) : Nat := ((l.take i).map fun o => o.b.length).sum
theorem Z3m {l : List HOp} {i : Nat} (h : i < l.length) : sumB l (i + 1) = sumB l i + (l[i]).b.length := by
 unfold sumB
 rw [List.take_add_one, List.getElem?_eq_getElem h, List.map_append, List.sum_append]
 simp
theorem Z3n (l : List HOp) {i : Nat} (h : i ≤ l.length) : sumB l i ≤ sumB l l.length := by
 unfold sumB
 conv => rhs; rw [List.take_length, ← List.take_append_drop i l]
 rw [List.map_append, List.sum_append]
 omega
structure HSt where
 i : Nat
 m0 : List UInt8
 m1 : List UInt8
 m2 : List UInt8
 p0 : Nat
 p1 : Nat
 p2 : Nat
 d0 : List UInt8
 d1 : List UInt8
 d2 : List UInt8
def HSt.at (x : HSt) (p : Nat) (m : List UInt8) : Prop := p = 9 ∧ x.d0 = m ∨ p = 10 ∧ x.d1 = m ∨ p = 11 ∧ x.d2 = m
structure HInv (ops : List HOp) (x : HSt) : Prop where
 i : x.i ≤ ops.length
 n0 : x.m0.length ≤ sumB ops x.i
 n1 : x.m1.length ≤ sumB ops x.i
 n2 : x.m2.length ≤ sumB ops x.i
 a0 : x.at x.p0 x.m0
 a1 : x.at x.p1 x.m1
 a2 : x.at x.p2 x.m2
theorem mod3 (h : Int) : ∃ k : Nat, k < 3 ∧ IntKind.i64.wrap (Int.tmod (IntKind.u64.wrap h) 3) = (k : Int) := by
 have h0 : 0 ≤ IntKind.u64.wrap h ∧ IntKind.u64.wrap h < 18446744073709551616 := by
   have : IntKind.u64.wrap h = h % 18446744073709551616 := by simp [IntKind.wrap, IntKind.signed, IntKind.bits]
   rw [this]; omega
 refine ⟨(IntKind.u64.wrap h % 3).toNat, by omega, ?_⟩
 rw [Int.tmod_eq_emod_of_nonneg h0.1, Zc (by omega) (by omega)]
 omega
end Go.Our
namespace Go.Proofs.YtgjnlngljmfefaaDoor
open Go.Sx Go.Our
def Z3 : Plan := (ZV [(0, 1), (1, 1), (4, 1), (5, 1), (2, 2), (6, 2), (3, 3), (7, 3), (8, 1)])
def J4 : Plan := (ZV [(0, 1), (1, 1), (3, 1), (4, 1), (2, 2), (5, 2), (6, 1), (7, 1), (8, 0)])
def Z4 : Plan := (ZV [(0, 1), (1, 1), (5, 1), (2, 2), (3, 1), (4, 1), (6, 2), (7, 3), (8, 1), (9, 1), (10, 1), (11, 1), (12, 2), (13, 1), (14, 1), (15, 2), (16, 1), (17, 1)])
def Z5 : Plan := (ZV [(0, 1), (1, 1), (2, 1), (4, 1), (3, 2), (5, 2), (6, 3), (7, 1), (8, 0)])
def Z6 : Plan := (ZV [(0, 1), (1, 1), (4, 1), (5, 1), (2, 2), (6, 2), (7, 1), (3, 3), (8, 1)])
def Z7 : Plan := (ZV [(0, 1), (1, 1), (4, 1), (5, 1), (2, 2), (6, 2), (3, 3), (7, 3), (8, 1), (9, 1), (10, 1), (11, 1), (14, 1), (15, 1), (12, 2), (16, 2), (13, 3), (17, 3), (18, 1), (19, 1), (20, 1), (21, 1), (22, 1), (25, 1), (26, 1), (23, 2), (27, 2), (28, 1), (24, 3), (29, 1), (30, 1)])
def Z8 : Plan := (ZV [(0, 1), (1, 1), (3, 1), (4, 1), (2, 2), (5, 2), (6, 1), (7, 1), (8, 3)])
def OX (x : HSt) : Hps := [(1, .rows 1 [[.ptr (.loc 3) 0 0 0], [.ptr (.loc 5) 0 0 0], [.ptr (.loc 7) 0 0 0]]), (2, .rows 1 [[.sl (.loc x.p0) 0 1 x.m0.length none], [.sl (.loc x.p1) 0 1 x.m1.length none], [.sl (.loc x.p2) 0 1 x.m2.length none]]),
   (3, hx x.m0 4), (4, tl x.m0), (5, hx x.m1 6), (6, tl x.m1), (7, hx x.m2 8), (8, tl x.m2), (9, .rows 1 (x.d0.map Sx.bytesRow)), (10, .rows 1 (x.d1.map Sx.bytesRow)), (11, .rows 1 (x.d2.map Sx.bytesRow))]
def P3 (p : Nat) : Prop := p = 9 ∨ p = 10 ∨ p = 11
theorem HSt.at.p3 {x : HSt} {p : Nat} {m : List UInt8} (h : x.at p m) : P3 p := h.imp (·.1) fun h => h.imp (·.1) (·.1)
theorem P3.lt {p : Nat} (h : P3 p) : Nat.blt p 12 = true := by rcases h with rfl | rfl | rfl <;> rfl
theorem P3.ltn {p n : Nat} (h : P3 p) (hn : Nat.ble 12 n = true) : Nat.blt p n = true := by
 have := Nat.le_of_ble_eq_true hn
 rw [Nat.blt_eq]
 rcases h with rfl | rfl | rfl <;> omega
theorem ZH {x : HSt} (q0 : P3 x.p0) (q1 : P3 x.p1) (q2 : P3 x.p2) : Zi 12 (OX x) = true := by
 unfold OX
 refine Zl rfl rfl (Zl rfl ?_ (Zl rfl rfl (Zl rfl YQ (Zl rfl rfl (Zl rfl YQ (Zl rfl rfl (Zl rfl YQ (Zl rfl YQ (Zl rfl YQ (Zl rfl YQ rfl))))))))))
 simp only [Zg, Zy, Zr, Zx, YP, q0.lt, q1.lt, q2.lt, Bool.and_self]
theorem P3.ren {p a b c d e f : Nat} (h : P3 p) : Y6 1 [1, 2, a, b, c, d, e, f, 9, 10, 11] p = p := by rcases h with rfl | rfl | rfl <;> rfl
def frc (a b : Nat) : Nat := if a ≠ 9 ∧ b ≠ 9 then 9 else if a ≠ 10 ∧ b ≠ 10 then 10 else 11
theorem XK {a b : Nat} (ha : P3 a) (hb : P3 b) : P3 (frc a b) ∧ frc a b ≠ a ∧ frc a b ≠ b := by
 unfold P3
 rcases ha with rfl | rfl | rfl <;> rcases hb with rfl | rfl | rfl <;> decide
def J5 (c k : Nat) (M d : List UInt8) : List UInt8 := if c = k then M else d
theorem UH {c : Nat} {M d0 d1 d2 : List UInt8} (h : P3 c) : c = 9 ∧ J5 c 9 M d0 = M ∨ c = 10 ∧ J5 c 10 M d1 = M ∨ c = 11 ∧ J5 c 11 M d2 = M := by
 unfold J5
 rcases h with rfl | rfl | rfl <;> simp
theorem Xv {c p : Nat} {M m d0 d1 d2 : List UInt8} (h : c ≠ p) (a : p = 9 ∧ d0 = m ∨ p = 10 ∧ d1 = m ∨ p = 11 ∧ d2 = m) : p = 9 ∧ J5 c 9 M d0 = m ∨ p = 10 ∧ J5 c 10 M d1 = m ∨ p = 11 ∧ J5 c 11 M d2 = m := by
 unfold J5
 rcases a with ⟨rfl, rfl⟩ | ⟨rfl, rfl⟩ | ⟨rfl, rfl⟩ <;> simp [h]
def t3 (c k : Nat) : Nat := if c = k then 20 else k
set_option maxHeartbeats 4000000 in
theorem UK (ops : List HOp) (hb : sumB ops ops.length ≤ 1048576) (hl : ops.length ≤ 1048576) : DoesW (fun w => ∀ o ∈ ops, ByteIn w o.p o.b o.c) Tryd.prog tab 3 1 [.sl (.loc 0) 0 4 ops.length none] [] [(0, .rows 4 (ops.map WK))] (ValK 1 (.bool true)) := by
 refine Does.enterW Z0 (g := 3) (fn := Tryd.f3) Tryd.call3 Tryd.func3 rfl 169 rfl rfl [.tmp 2] rfl ?_
 intro w0 F η0 h0 hG hF
 conv => whnf
 have hno : ∀ k, ¬ F k := by subst hF; rintro k ⟨i, h, hh, _⟩; cases hh
 iterate 3
   refine LOOP.once Z0 ?_
   conv => whnf
   repeat' ((first | with_reducible refine IF.tt ?_ | with_reducible refine IF.ff ?_ | refine AU ?_ | (refine IW (fun h => ?_) (fun h => ?_) <;> try (exfalso; omega))) <;> conv => whnf)
   refine CALL.aA [] (Z1L) ?_
   rintro r' O' nx' ⟨rfl, rfl, rfl⟩
   conv => whnf
   repeat' ((first | with_reducible refine IF.tt ?_ | with_reducible refine IF.ff ?_ | refine AU ?_ | (refine IW (fun h => ?_) (fun h => ?_) <;> try (exfalso; omega))) <;> conv => whnf)
 refine LOOP.once Z0 ?_
 conv => whnf
 repeat' ((first | with_reducible refine IF.tt ?_ | with_reducible refine IF.ff ?_ | refine AU ?_ | (refine IW (fun h => ?_) (fun h => ?_) <;> try (exfalso; omega))) <;> conv => whnf)
 refine GHO.loop (GHO.nilRow 2 0 0 1 rfl rfl rfl) (GHO.loop (GHO.nilRow 2 1 0 1 rfl rfl rfl) (GHO.loop (GHO.nilRow 2 2 0 1 rfl rfl rfl) ?_))
 refine LOOP.go Z0 [0, 3, 4] (X := HSt) (HInv ops) (fun x => [(6, .int .i64 (x.i : Int))]) OX 12 (fun x => ops.length - x.i) ⟨0, [], [], [], 9, 10, 11, [], [], []⟩ ⟨by simp, by simp, by simp, by simp, .inl ⟨rfl, rfl⟩, .inr (.inl ⟨rfl, rfl⟩), .inr (.inr ⟨rfl, rfl⟩)⟩ ?_
 conv => whnf
 refine ⟨by exact GOES.cA h0, ?_⟩
 rintro ⟨i, m0, m1, m2, p0, p1, p2, d0, d1, d2⟩ ⟨hi, n0, n1, n2, a0, a1, a2⟩
 have q0 : P3 p0 := HSt.at.p3 a0
 have q1 : P3 p1 := HSt.at.p3 a1
 have q2 : P3 p2 := HSt.at.p3 a2
 dsimp only at hi n0 n1 n2 ⊢
 replace a0 : p0 = 9 ∧ d0 = m0 ∨ p0 = 10 ∧ d1 = m0 ∨ p0 = 11 ∧ d2 = m0 := a0
 replace a1 : p1 = 9 ∧ d0 = m1 ∨ p1 = 10 ∧ d1 = m1 ∨ p1 = 11 ∧ d2 = m1 := a1
 replace a2 : p2 = 9 ∧ d0 = m2 ∨ p2 = 10 ∧ d1 = m2 ∨ p2 = 11 ∧ d2 = m2 := a2
 conv => whnf
 refine IF.mk (fun h => ?_) (fun h => ?_)
 · have h : i < ops.length := by simp at h; omega
   have hsum := Z3m h
   have hv := hG _ (List.getElem_mem h)
   have hg : (ops.map WK)[i]? = some (WK ops[i]) := by rw [List.getElem?_map, List.getElem?_eq_getElem h]; rfl
   generalize ops[i] = o at hsum hv hg
   have hB : sumB ops (i + 1) ≤ 1048576 := Nat.le_trans (Z3n ops (by omega)) hb
   have hb0 : m0.length ≤ 1048576 := by omega
   have hb1 : m1.length ≤ 1048576 := by omega
   have hb2 : m2.length ≤ 1048576 := by omega
   obtain ⟨k, hk3, hk⟩ := mod3 o.hash
   obtain ⟨j, hj3, hj⟩ := mod3 o.other
   conv => whnf
   repeat' ((first | with_reducible refine IF.tt ?_ | with_reducible refine IF.ff ?_ | (refine GET.at (row := WK o) (by rw [Int.toNat_natCast, Nat.zero_add]; exact hg) ?_; conv => whnf) | (rw [hk]; conv => whnf) | (rw [hj]; conv => whnf) | refine AU ?_ | (refine IW (fun h => ?_) (fun h => ?_) <;> try (exfalso; omega))) <;> conv => whnf)
   · have hk' : k = 0 ∨ k = 1 ∨ k = 2 := by omega
     rcases hk' with rfl | rfl | rfl
     · repeat' ((first | with_reducible refine IF.tt ?_ | with_reducible refine IF.ff ?_ | refine AU ?_ | (refine IW (fun h => ?_) (fun h => ?_) <;> try (exfalso; omega))) <;> conv => whnf)
       have hap : List.take o.b.length (o.b.map Sx.bytesRow) ++ List.take 1 (List.drop 0 [[XO (Value.int IntKind.u8 1)]]) = (o.b ++ [1]).map Sx.bytesRow := app1 (Nat.le_refl _) rfl
       have hwr := Jx m0 (o.b ++ [1]) o.b.length (by simp) (by simp; omega) (by omega)
       rw [List.take_left' rfl] at hwr
       refine CALL.cop rfl rfl hv hno (by omega) ?_
       conv => whnf
       repeat' ((first | with_reducible refine IF.tt ?_ | with_reducible refine IF.ff ?_ | (refine NEED.mk (Yq 1 rfl rfl rfl (by simp) (by omega)) ?_; conv => whnf) | refine AU ?_ | (refine IW (fun h => ?_) (fun h => ?_) <;> try (exfalso; omega))) <;> conv => whnf)
       rw [hap]
       conv => whnf
       repeat' ((first | with_reducible refine IF.tt ?_ | with_reducible refine IF.ff ?_ | (refine NEED.mk ⟨by omega, by show _ ≤ ((max (o.b.length + 1) _ : Nat) : Int); omega⟩ ?_; conv => whnf) | (rw [Int.toNat_natCast]; conv => whnf) | (show DRAWN _ _ _ _ _ _ _; first | refine DRAWN.of (id := 32) Z0 Z1 Z3 (by kernel_rfl) ?_ | refine DRAWN.of (id := 17) Z0 Z1 J4 (by kernel_rfl) ?_ | refine DRAWN.of (id := 18) Z0 Z1 Z4 (by kernel_rfl) ?_ | refine DRAWN.of (id := 24) Z0 Z1 Z5 (by kernel_rfl) ?_ | refine DRAWN.of (id := 34) Z0 Z1 Z6 (by kernel_rfl) ?_ | refine DRAWN.of (id := 39) Z0 Z1 Z7 (by kernel_rfl) ?_) | refine ADD.mk (fun _ _ => ?_) | refine AD ?_ | refine FORK.mk ?_ ?_ | refine AU ?_ | (refine IW (fun h => ?_) (fun h => ?_) <;> try (exfalso; omega))) <;> conv => whnf)
       refine CALL.aA [3, 4, 16] (hwr) ?_
       rintro r' O' nx' ⟨rfl, rfl, rfl⟩
       simp only [renO, Z3l, Wb, List.cons_append]
       conv => whnf
       repeat' ((first | with_reducible refine IF.tt ?_ | with_reducible refine IF.ff ?_ | (refine NEED.mk ⟨by omega, by show _ ≤ ((max (o.b.length + 1) _ : Nat) : Int); omega⟩ ?_; conv => whnf) | (rw [Int.toNat_natCast]; conv => whnf) | (refine ADD.mkH (fun η1 w1 H1 => ?_); (have hv1 := ByteIn.now hv H1.fr hno); conv => whnf) | (show DRAWN _ _ _ _ _ _ _; first | refine DRAWN.of (id := 32) Z0 Z1 Z3 (by kernel_rfl) ?_ | refine DRAWN.of (id := 17) Z0 Z1 Z8 (by kernel_rfl) ?_ | refine DRAWN.of (id := 18) Z0 Z1 Z4 (by kernel_rfl) ?_ | refine DRAWN.of (id := 24) Z0 Z1 Z5 (by kernel_rfl) ?_ | refine DRAWN.of (id := 34) Z0 Z1 Z6 (by kernel_rfl) ?_ | refine DRAWN.of (id := 39) Z0 Z1 Z7 (by kernel_rfl) ?_) | refine ADD.mk (fun _ _ => ?_) | refine AD ?_ | refine FORK.mk ?_ ?_ | refine AU ?_ | (refine IW (fun h => ?_) (fun h => ?_) <;> try (exfalso; omega))) <;> conv => whnf)
       refine CALL.sam (y := 16) (d := 1) rfl rfl rfl rfl hv1 (fun _ h => h) (by omega) ?_
       conv => whnf
       repeat' ((first | with_reducible refine IF.tt ?_ | with_reducible refine IF.ff ?_ | (refine GET.at (row := Sx.bytesRow 1) (by rw [Int.toNat_natCast, Nat.zero_add]; simp) ?_; conv => whnf) | (show DRAWN _ _ _ _ _ _ _; first | refine DRAWN.of (id := 32) Z0 Z1 Z3 (by kernel_rfl) ?_ | refine DRAWN.of (id := 17) Z0 Z1 Z8 (by kernel_rfl) ?_ | refine DRAWN.of (id := 18) Z0 Z1 Z4 (by kernel_rfl) ?_ | refine DRAWN.of (id := 24) Z0 Z1 Z5 (by kernel_rfl) ?_ | refine DRAWN.of (id := 34) Z0 Z1 Z6 (by kernel_rfl) ?_ | refine DRAWN.of (id := 39) Z0 Z1 Z7 (by kernel_rfl) ?_) | refine ADD.mk (fun _ _ => ?_) | refine AD ?_ | refine FORK.mk ?_ ?_ | refine AU ?_ | (refine IW (fun h => ?_) (fun h => ?_) <;> try (exfalso; omega))) <;> conv => whnf)
       have r0 : Nat.blt p0 19 = true := q0.ltn rfl
       have r1 : Nat.blt p1 19 = true := q1.ltn rfl
       have r2 : Nat.blt p2 19 = true := q2.ltn rfl
       refine LOOP.gok Z0 [0, 3, 4, 6, 7, 8, 9] [12, 1, 2, 3, 17, 5, 6, 7, 8, 9, 10, 11] (X := Nat × List UInt8) (fun y => y.1 ≤ o.b.length + 1 ∧ y.2.length = o.b.length + 1) (fun y => [(10, .int .i64 (y.1 : Int))]) (fun y => [(16, .rows 1 (y.2.map Sx.bytesRow))]) 19 (fun y => o.b.length + 1 - y.1) (0, o.b ++ [1]) ⟨by simp, by simp⟩ ?_
       conv => whnf
       refine ⟨by exact GOES.cA h0 (hbo := by (repeat' (first | (refine Zl rfl ?_ ?_) | exact YQ | (simp only [Zg, Zy, Zr, Zx, YP, r0, r1, r2, Bool.and_self]; done) | rfl))), ?_⟩
       rintro ⟨j, y⟩ ⟨hj1, hyl⟩
       dsimp only at hj1 hyl ⊢
       conv => whnf
       refine IF.mk (fun h => ?_) (fun h => ?_)
       · have h : j < o.b.length + 1 := by simp at h; omega
         conv => whnf
         repeat' ((first | with_reducible refine IF.tt ?_ | with_reducible refine IF.ff ?_ | (refine GET.at (row := Sx.bytesRow (y.getD j 0)) (by rw [Int.toNat_natCast, Nat.zero_add]; exact YR (by omega)) ?_; conv => whnf) | refine AU ?_ | (refine IW (fun h => ?_) (fun h => ?_) <;> try (exfalso; omega))) <;> conv => whnf)
         refine ⟨(j + 1, y.set j 200), ⟨by dsimp only; omega, by simp [hyl]⟩, by dsimp only; omega, ?_⟩
         conv => whnf
         rw [show (y.map Sx.bytesRow).set (0 + ((j : Nat) : Int).toNat) [XO (Value.int IntKind.u8 200)] = (y.set j 200).map Sx.bytesRow by rw [Int.toNat_natCast, Nat.zero_add, List.map_set]; rfl]
         exact GOES.cA h0 (hbo := by (repeat' (first | (refine Zl rfl ?_ ?_) | exact YQ | (simp only [Zg, Zy, Zr, Zx, YP, r0, r1, r2, Bool.and_self]; done) | rfl)))
       conv => whnf
       repeat' ((first | with_reducible refine IF.tt ?_ | with_reducible refine IF.ff ?_ | (refine ADD.mkH (fun η1 w1 H1 => ?_); (have hv1 := ByteIn.now hv H1.fr hno); conv => whnf) | (show DRAWN _ _ _ _ _ _ _; first | refine DRAWN.of (id := 32) Z0 Z1 Z3 (by kernel_rfl) ?_ | refine DRAWN.of (id := 17) Z0 Z1 Z8 (by kernel_rfl) ?_ | refine DRAWN.of (id := 18) Z0 Z1 Z4 (by kernel_rfl) ?_ | refine DRAWN.of (id := 24) Z0 Z1 Z5 (by kernel_rfl) ?_ | refine DRAWN.of (id := 34) Z0 Z1 Z6 (by kernel_rfl) ?_ | refine DRAWN.of (id := 39) Z0 Z1 Z7 (by kernel_rfl) ?_) | refine ADD.mk (fun _ _ => ?_) | refine AD ?_ | refine FORK.mk ?_ ?_ | refine AU ?_ | (refine IW (fun h => ?_) (fun h => ?_) <;> try (exfalso; omega))) <;> conv => whnf)
       refine CALL.joi (y := p0) rfl rfl ?_ ?_ hv1 (fun _ h => h) (by omega) ?_
       · exact q0.ltn rfl
       · rcases a0 with ⟨rfl, rfl⟩ | ⟨rfl, rfl⟩ | ⟨rfl, rfl⟩ <;> rfl
       conv => whnf
       repeat' ((first | with_reducible refine IF.tt ?_ | with_reducible refine IF.ff ?_ | (show DRAWN _ _ _ _ _ _ _; first | refine DRAWN.of (id := 32) Z0 Z1 Z3 (by kernel_rfl) ?_ | refine DRAWN.of (id := 17) Z0 Z1 Z8 (by kernel_rfl) ?_ | refine DRAWN.of (id := 18) Z0 Z1 Z4 (by kernel_rfl) ?_ | refine DRAWN.of (id := 24) Z0 Z1 Z5 (by kernel_rfl) ?_ | refine DRAWN.of (id := 34) Z0 Z1 Z6 (by kernel_rfl) ?_ | refine DRAWN.of (id := 39) Z0 Z1 Z7 (by kernel_rfl) ?_) | refine ADD.mk (fun _ _ => ?_) | refine AD ?_ | refine FORK.mk ?_ ?_ | refine AU ?_ | (refine IW (fun h => ?_) (fun h => ?_) <;> try (exfalso; omega))) <;> conv => whnf)
       refine CALL.aA [3, 17] (Zp (m0 ++ o.b)) ?_
       rintro r' O' nx' ⟨rfl, rfl, rfl⟩
       conv => whnf
       repeat' ((first | with_reducible refine IF.tt ?_ | with_reducible refine IF.ff ?_ | (show DRAWN _ _ _ _ _ _ _; first | refine DRAWN.of (id := 32) Z0 Z1 Z3 (by kernel_rfl) ?_ | refine DRAWN.of (id := 17) Z0 Z1 Z8 (by kernel_rfl) ?_ | refine DRAWN.of (id := 18) Z0 Z1 Z4 (by kernel_rfl) ?_ | refine DRAWN.of (id := 24) Z0 Z1 Z5 (by kernel_rfl) ?_ | refine DRAWN.of (id := 34) Z0 Z1 Z6 (by kernel_rfl) ?_ | refine DRAWN.of (id := 39) Z0 Z1 Z7 (by kernel_rfl) ?_) | refine ADD.mk (fun _ _ => ?_) | refine AD ?_ | refine FORK.mk ?_ ?_ | refine AU ?_ | (refine IW (fun h => ?_) (fun h => ?_) <;> try (exfalso; omega))) <;> conv => whnf)
       refine ⟨⟨i + 1, m0 ++ o.b, m1, m2, frc p1 p2, p1, p2, J5 (frc p1 p2) 9 (m0 ++ o.b) d0, J5 (frc p1 p2) 10 (m0 ++ o.b) d1, J5 (frc p1 p2) 11 (m0 ++ o.b) d2⟩, ⟨by dsimp only; omega, by simp only [List.length_append]; omega, by simp only [List.length_append]; omega, by simp only [List.length_append]; omega, UH (XK q1 q2).1, Xv (XK q1 q2).2.1 a1, Xv (XK q1 q2).2.2 a2⟩, by dsimp only; omega, ?_⟩
       conv => whnf
       refine GOES.keeping h0 [1, 2, 3, 17, 5, 6, 7, 8, t3 (frc p1 p2) 9, t3 (frc p1 p2) 10, t3 (frc p1 p2) 11] ?_ ?_ ?_ (ZH (XK q1 q2).1 q1 q2) ?_ ?_ <;> rcases q1 with rfl | rfl | rfl <;> rcases q2 with rfl | rfl | rfl <;> (repeat' (first | (with_reducible rfl) | exact trivial | (exact congrArg (SV.int _) (by first | omega | (simp (disch := omega) only [Zc] <;> omega))) | exact (Zd _ (h := .rows _ _) (Z2 _)).symm | exact (Wb _ _).symm | rfl | ((conv => whnf); refine And.intro ?_ ?_)))
     · repeat' ((first | with_reducible refine IF.tt ?_ | with_reducible refine IF.ff ?_ | refine AU ?_ | (refine IW (fun h => ?_) (fun h => ?_) <;> try (exfalso; omega))) <;> conv => whnf)
       have hap : List.take o.b.length (o.b.map Sx.bytesRow) ++ List.take 1 (List.drop 0 [[XO (Value.int IntKind.u8 1)]]) = (o.b ++ [1]).map Sx.bytesRow := app1 (Nat.le_refl _) rfl
       have hwr := Jx m1 (o.b ++ [1]) o.b.length (by simp) (by simp; omega) (by omega)
       rw [List.take_left' rfl] at hwr
       refine CALL.cop rfl rfl hv hno (by omega) ?_
       conv => whnf
       repeat' ((first | with_reducible refine IF.tt ?_ | with_reducible refine IF.ff ?_ | (refine NEED.mk (Yq 1 rfl rfl rfl (by simp) (by omega)) ?_; conv => whnf) | refine AU ?_ | (refine IW (fun h => ?_) (fun h => ?_) <;> try (exfalso; omega))) <;> conv => whnf)
       rw [hap]
       conv => whnf
       repeat' ((first | with_reducible refine IF.tt ?_ | with_reducible refine IF.ff ?_ | (refine NEED.mk ⟨by omega, by show _ ≤ ((max (o.b.length + 1) _ : Nat) : Int); omega⟩ ?_; conv => whnf) | (rw [Int.toNat_natCast]; conv => whnf) | (show DRAWN _ _ _ _ _ _ _; first | refine DRAWN.of (id := 32) Z0 Z1 Z3 (by kernel_rfl) ?_ | refine DRAWN.of (id := 17) Z0 Z1 J4 (by kernel_rfl) ?_ | refine DRAWN.of (id := 18) Z0 Z1 Z4 (by kernel_rfl) ?_ | refine DRAWN.of (id := 24) Z0 Z1 Z5 (by kernel_rfl) ?_ | refine DRAWN.of (id := 34) Z0 Z1 Z6 (by kernel_rfl) ?_ | refine DRAWN.of (id := 39) Z0 Z1 Z7 (by kernel_rfl) ?_) | refine ADD.mk (fun _ _ => ?_) | refine AD ?_ | refine FORK.mk ?_ ?_ | refine AU ?_ | (refine IW (fun h => ?_) (fun h => ?_) <;> try (exfalso; omega))) <;> conv => whnf)
       refine CALL.aA [5, 6, 16] (hwr) ?_
       rintro r' O' nx' ⟨rfl, rfl, rfl⟩
       simp only [renO, Z3l, Wb, List.cons_append]
       conv => whnf
       repeat' ((first | with_reducible refine IF.tt ?_ | with_reducible refine IF.ff ?_ | (refine NEED.mk ⟨by omega, by show _ ≤ ((max (o.b.length + 1) _ : Nat) : Int); omega⟩ ?_; conv => whnf) | (rw [Int.toNat_natCast]; conv => whnf) | (refine ADD.mkH (fun η1 w1 H1 => ?_); (have hv1 := ByteIn.now hv H1.fr hno); conv => whnf) | (show DRAWN _ _ _ _ _ _ _; first | refine DRAWN.of (id := 32) Z0 Z1 Z3 (by kernel_rfl) ?_ | refine DRAWN.of (id := 17) Z0 Z1 Z8 (by kernel_rfl) ?_ | refine DRAWN.of (id := 18) Z0 Z1 Z4 (by kernel_rfl) ?_ | refine DRAWN.of (id := 24) Z0 Z1 Z5 (by kernel_rfl) ?_ | refine DRAWN.of (id := 34) Z0 Z1 Z6 (by kernel_rfl) ?_ | refine DRAWN.of (id := 39) Z0 Z1 Z7 (by kernel_rfl) ?_) | refine ADD.mk (fun _ _ => ?_) | refine AD ?_ | refine FORK.mk ?_ ?_ | refine AU ?_ | (refine IW (fun h => ?_) (fun h => ?_) <;> try (exfalso; omega))) <;> conv => whnf)
       refine CALL.sam (y := 16) (d := 1) rfl rfl rfl rfl hv1 (fun _ h => h) (by omega) ?_
       conv => whnf
       repeat' ((first | with_reducible refine IF.tt ?_ | with_reducible refine IF.ff ?_ | (refine GET.at (row := Sx.bytesRow 1) (by rw [Int.toNat_natCast, Nat.zero_add]; simp) ?_; conv => whnf) | (show DRAWN _ _ _ _ _ _ _; first | refine DRAWN.of (id := 32) Z0 Z1 Z3 (by kernel_rfl) ?_ | refine DRAWN.of (id := 17) Z0 Z1 Z8 (by kernel_rfl) ?_ | refine DRAWN.of (id := 18) Z0 Z1 Z4 (by kernel_rfl) ?_ | refine DRAWN.of (id := 24) Z0 Z1 Z5 (by kernel_rfl) ?_ | refine DRAWN.of (id := 34) Z0 Z1 Z6 (by kernel_rfl) ?_ | refine DRAWN.of (id := 39) Z0 Z1 Z7 (by kernel_rfl) ?_) | refine ADD.mk (fun _ _ => ?_) | refine AD ?_ | refine FORK.mk ?_ ?_ | refine AU ?_ | (refine IW (fun h => ?_) (fun h => ?_) <;> try (exfalso; omega))) <;> conv => whnf)
       have r0 : Nat.blt p0 19 = true := q0.ltn rfl
       have r1 : Nat.blt p1 19 = true := q1.ltn rfl
       have r2 : Nat.blt p2 19 = true := q2.ltn rfl
       refine LOOP.gok Z0 [0, 3, 4, 6, 7, 8, 9] [12, 1, 2, 3, 4, 5, 17, 7, 8, 9, 10, 11] (X := Nat × List UInt8) (fun y => y.1 ≤ o.b.length + 1 ∧ y.2.length = o.b.length + 1) (fun y => [(10, .int .i64 (y.1 : Int))]) (fun y => [(16, .rows 1 (y.2.map Sx.bytesRow))]) 19 (fun y => o.b.length + 1 - y.1) (0, o.b ++ [1]) ⟨by simp, by simp⟩ ?_
       conv => whnf
       refine ⟨by exact GOES.cA h0 (hbo := by (repeat' (first | (refine Zl rfl ?_ ?_) | exact YQ | (simp only [Zg, Zy, Zr, Zx, YP, r0, r1, r2, Bool.and_self]; done) | rfl))), ?_⟩
       rintro ⟨j, y⟩ ⟨hj1, hyl⟩
       dsimp only at hj1 hyl ⊢
       conv => whnf
       refine IF.mk (fun h => ?_) (fun h => ?_)
       · have h : j < o.b.length + 1 := by simp at h; omega
         conv => whnf
         repeat' ((first | with_reducible refine IF.tt ?_ | with_reducible refine IF.ff ?_ | (refine GET.at (row := Sx.bytesRow (y.getD j 0)) (by rw [Int.toNat_natCast, Nat.zero_add]; exact YR (by omega)) ?_; conv => whnf) | refine AU ?_ | (refine IW (fun h => ?_) (fun h => ?_) <;> try (exfalso; omega))) <;> conv => whnf)
         refine ⟨(j + 1, y.set j 200), ⟨by dsimp only; omega, by simp [hyl]⟩, by dsimp only; omega, ?_⟩
         conv => whnf
         rw [show (y.map Sx.bytesRow).set (0 + ((j : Nat) : Int).toNat) [XO (Value.int IntKind.u8 200)] = (y.set j 200).map Sx.bytesRow by rw [Int.toNat_natCast, Nat.zero_add, List.map_set]; rfl]
         exact GOES.cA h0 (hbo := by (repeat' (first | (refine Zl rfl ?_ ?_) | exact YQ | (simp only [Zg, Zy, Zr, Zx, YP, r0, r1, r2, Bool.and_self]; done) | rfl)))
       conv => whnf
       repeat' ((first | with_reducible refine IF.tt ?_ | with_reducible refine IF.ff ?_ | (refine ADD.mkH (fun η1 w1 H1 => ?_); (have hv1 := ByteIn.now hv H1.fr hno); conv => whnf) | (show DRAWN _ _ _ _ _ _ _; first | refine DRAWN.of (id := 32) Z0 Z1 Z3 (by kernel_rfl) ?_ | refine DRAWN.of (id := 17) Z0 Z1 Z8 (by kernel_rfl) ?_ | refine DRAWN.of (id := 18) Z0 Z1 Z4 (by kernel_rfl) ?_ | refine DRAWN.of (id := 24) Z0 Z1 Z5 (by kernel_rfl) ?_ | refine DRAWN.of (id := 34) Z0 Z1 Z6 (by kernel_rfl) ?_ | refine DRAWN.of (id := 39) Z0 Z1 Z7 (by kernel_rfl) ?_) | refine ADD.mk (fun _ _ => ?_) | refine AD ?_ | refine FORK.mk ?_ ?_ | refine AU ?_ | (refine IW (fun h => ?_) (fun h => ?_) <;> try (exfalso; omega))) <;> conv => whnf)
       refine CALL.joi (y := p1) rfl rfl ?_ ?_ hv1 (fun _ h => h) (by omega) ?_
       · exact q1.ltn rfl
       · rcases a1 with ⟨rfl, rfl⟩ | ⟨rfl, rfl⟩ | ⟨rfl, rfl⟩ <;> rfl
       conv => whnf
       repeat' ((first | with_reducible refine IF.tt ?_ | with_reducible refine IF.ff ?_ | (show DRAWN _ _ _ _ _ _ _; first | refine DRAWN.of (id := 32) Z0 Z1 Z3 (by kernel_rfl) ?_ | refine DRAWN.of (id := 17) Z0 Z1 Z8 (by kernel_rfl) ?_ | refine DRAWN.of (id := 18) Z0 Z1 Z4 (by kernel_rfl) ?_ | refine DRAWN.of (id := 24) Z0 Z1 Z5 (by kernel_rfl) ?_ | refine DRAWN.of (id := 34) Z0 Z1 Z6 (by kernel_rfl) ?_ | refine DRAWN.of (id := 39) Z0 Z1 Z7 (by kernel_rfl) ?_) | refine ADD.mk (fun _ _ => ?_) | refine AD ?_ | refine FORK.mk ?_ ?_ | refine AU ?_ | (refine IW (fun h => ?_) (fun h => ?_) <;> try (exfalso; omega))) <;> conv => whnf)
       refine CALL.aA [5, 17] (Zp (m1 ++ o.b)) ?_
       rintro r' O' nx' ⟨rfl, rfl, rfl⟩
       conv => whnf
       repeat' ((first | with_reducible refine IF.tt ?_ | with_reducible refine IF.ff ?_ | (show DRAWN _ _ _ _ _ _ _; first | refine DRAWN.of (id := 32) Z0 Z1 Z3 (by kernel_rfl) ?_ | refine DRAWN.of (id := 17) Z0 Z1 Z8 (by kernel_rfl) ?_ | refine DRAWN.of (id := 18) Z0 Z1 Z4 (by kernel_rfl) ?_ | refine DRAWN.of (id := 24) Z0 Z1 Z5 (by kernel_rfl) ?_ | refine DRAWN.of (id := 34) Z0 Z1 Z6 (by kernel_rfl) ?_ | refine DRAWN.of (id := 39) Z0 Z1 Z7 (by kernel_rfl) ?_) | refine ADD.mk (fun _ _ => ?_) | refine AD ?_ | refine FORK.mk ?_ ?_ | refine AU ?_ | (refine IW (fun h => ?_) (fun h => ?_) <;> try (exfalso; omega))) <;> conv => whnf)
       refine ⟨⟨i + 1, m0, m1 ++ o.b, m2, p0, frc p0 p2, p2, J5 (frc p0 p2) 9 (m1 ++ o.b) d0, J5 (frc p0 p2) 10 (m1 ++ o.b) d1, J5 (frc p0 p2) 11 (m1 ++ o.b) d2⟩, ⟨by dsimp only; omega, by simp only [List.length_append]; omega, by simp only [List.length_append]; omega, by simp only [List.length_append]; omega, Xv (XK q0 q2).2.1 a0, UH (XK q0 q2).1, Xv (XK q0 q2).2.2 a2⟩, by dsimp only; omega, ?_⟩
       conv => whnf
       refine GOES.keeping h0 [1, 2, 3, 4, 5, 17, 7, 8, t3 (frc p0 p2) 9, t3 (frc p0 p2) 10, t3 (frc p0 p2) 11] ?_ ?_ ?_ (ZH q0 (XK q0 q2).1 q2) ?_ ?_ <;> rcases q0 with rfl | rfl | rfl <;> rcases q2 with rfl | rfl | rfl <;> (repeat' (first | (with_reducible rfl) | exact trivial | (exact congrArg (SV.int _) (by first | omega | (simp (disch := omega) only [Zc] <;> omega))) | exact (Zd _ (h := .rows _ _) (Z2 _)).symm | exact (Wb _ _).symm | rfl | ((conv => whnf); refine And.intro ?_ ?_)))
     · repeat' ((first | with_reducible refine IF.tt ?_ | with_reducible refine IF.ff ?_ | refine AU ?_ | (refine IW (fun h => ?_) (fun h => ?_) <;> try (exfalso; omega))) <;> conv => whnf)
       have hap : List.take o.b.length (o.b.map Sx.bytesRow) ++ List.take 1 (List.drop 0 [[XO (Value.int IntKind.u8 1)]]) = (o.b ++ [1]).map Sx.bytesRow := app1 (Nat.le_refl _) rfl
       have hwr := Jx m2 (o.b ++ [1]) o.b.length (by simp) (by simp; omega) (by omega)
       rw [List.take_left' rfl] at hwr
       refine CALL.cop rfl rfl hv hno (by omega) ?_
       conv => whnf
       repeat' ((first | with_reducible refine IF.tt ?_ | with_reducible refine IF.ff ?_ | (refine NEED.mk (Yq 1 rfl rfl rfl (by simp) (by omega)) ?_; conv => whnf) | refine AU ?_ | (refine IW (fun h => ?_) (fun h => ?_) <;> try (exfalso; omega))) <;> conv => whnf)
       rw [hap]
       conv => whnf
       repeat' ((first | with_reducible refine IF.tt ?_ | with_reducible refine IF.ff ?_ | (refine NEED.mk ⟨by omega, by show _ ≤ ((max (o.b.length + 1) _ : Nat) : Int); omega⟩ ?_; conv => whnf) | (rw [Int.toNat_natCast]; conv => whnf) | (show DRAWN _ _ _ _ _ _ _; first | refine DRAWN.of (id := 32) Z0 Z1 Z3 (by kernel_rfl) ?_ | refine DRAWN.of (id := 17) Z0 Z1 J4 (by kernel_rfl) ?_ | refine DRAWN.of (id := 18) Z0 Z1 Z4 (by kernel_rfl) ?_ | refine DRAWN.of (id := 24) Z0 Z1 Z5 (by kernel_rfl) ?_ | refine DRAWN.of (id := 34) Z0 Z1 Z6 (by kernel_rfl) ?_ | refine DRAWN.of (id := 39) Z0 Z1 Z7 (by kernel_rfl) ?_) | refine ADD.mk (fun _ _ => ?_) | refine AD ?_ | refine FORK.mk ?_ ?_ | refine AU ?_ | (refine IW (fun h => ?_) (fun h => ?_) <;> try (exfalso; omega))) <;> conv => whnf)
       refine CALL.aA [7, 8, 16] (hwr) ?_
       rintro r' O' nx' ⟨rfl, rfl, rfl⟩
       simp only [renO, Z3l, Wb, List.cons_append]
       conv => whnf
       repeat' ((first | with_reducible refine IF.tt ?_ | with_reducible refine IF.ff ?_ | (refine NEED.mk ⟨by omega, by show _ ≤ ((max (o.b.length + 1) _ : Nat) : Int); omega⟩ ?_; conv => whnf) | (rw [Int.toNat_natCast]; conv => whnf) | (refine ADD.mkH (fun η1 w1 H1 => ?_); (have hv1 := ByteIn.now hv H1.fr hno); conv => whnf) | (show DRAWN _ _ _ _ _ _ _; first | refine DRAWN.of (id := 32) Z0 Z1 Z3 (by kernel_rfl) ?_ | refine DRAWN.of (id := 17) Z0 Z1 Z8 (by kernel_rfl) ?_ | refine DRAWN.of (id := 18) Z0 Z1 Z4 (by kernel_rfl) ?_ | refine DRAWN.of (id := 24) Z0 Z1 Z5 (by kernel_rfl) ?_ | refine DRAWN.of (id := 34) Z0 Z1 Z6 (by kernel_rfl) ?_ | refine DRAWN.of (id := 39) Z0 Z1 Z7 (by kernel_rfl) ?_) | refine ADD.mk (fun _ _ => ?_) | refine AD ?_ | refine FORK.mk ?_ ?_ | refine AU ?_ | (refine IW (fun h => ?_) (fun h => ?_) <;> try (exfalso; omega))) <;> conv => whnf)
       refine CALL.sam (y := 16) (d := 1) rfl rfl rfl rfl hv1 (fun _ h => h) (by omega) ?_
       conv => whnf
       repeat' ((first | with_reducible refine IF.tt ?_ | with_reducible refine IF.ff ?_ | (refine GET.at (row := Sx.bytesRow 1) (by rw [Int.toNat_natCast, Nat.zero_add]; simp) ?_; conv => whnf) | (show DRAWN _ _ _ _ _ _ _; first | refine DRAWN.of (id := 32) Z0 Z1 Z3 (by kernel_rfl) ?_ | refine DRAWN.of (id := 17) Z0 Z1 Z8 (by kernel_rfl) ?_ | refine DRAWN.of (id := 18) Z0 Z1 Z4 (by kernel_rfl) ?_ | refine DRAWN.of (id := 24) Z0 Z1 Z5 (by kernel_rfl) ?_ | refine DRAWN.of (id := 34) Z0 Z1 Z6 (by kernel_rfl) ?_ | refine DRAWN.of (id := 39) Z0 Z1 Z7 (by kernel_rfl) ?_) | refine ADD.mk (fun _ _ => ?_) | refine AD ?_ | refine FORK.mk ?_ ?_ | refine AU ?_ | (refine IW (fun h => ?_) (fun h => ?_) <;> try (exfalso; omega))) <;> conv => whnf)
       have r0 : Nat.blt p0 19 = true := q0.ltn rfl
       have r1 : Nat.blt p1 19 = true := q1.ltn rfl
       have r2 : Nat.blt p2 19 = true := q2.ltn rfl
       refine LOOP.gok Z0 [0, 3, 4, 6, 7, 8, 9] [12, 1, 2, 3, 4, 5, 6, 7, 17, 9, 10, 11] (X := Nat × List UInt8) (fun y => y.1 ≤ o.b.length + 1 ∧ y.2.length = o.b.length + 1) (fun y => [(10, .int .i64 (y.1 : Int))]) (fun y => [(16, .rows 1 (y.2.map Sx.bytesRow))]) 19 (fun y => o.b.length + 1 - y.1) (0, o.b ++ [1]) ⟨by simp, by simp⟩ ?_
       conv => whnf
       refine ⟨by exact GOES.cA h0 (hbo := by (repeat' (first | (refine Zl rfl ?_ ?_) | exact YQ | (simp only [Zg, Zy, Zr, Zx, YP, r0, r1, r2, Bool.and_self]; done) | rfl))), ?_⟩
       rintro ⟨j, y⟩ ⟨hj1, hyl⟩
       dsimp only at hj1 hyl ⊢
       conv => whnf
       refine IF.mk (fun h => ?_) (fun h => ?_)
       · have h : j < o.b.length + 1 := by simp at h; omega
         conv => whnf
         repeat' ((first | with_reducible refine IF.tt ?_ | with_reducible refine IF.ff ?_ | (refine GET.at (row := Sx.bytesRow (y.getD j 0)) (by rw [Int.toNat_natCast, Nat.zero_add]; exact YR (by omega)) ?_; conv => whnf) | refine AU ?_ | (refine IW (fun h => ?_) (fun h => ?_) <;> try (exfalso; omega))) <;> conv => whnf)
         refine ⟨(j + 1, y.set j 200), ⟨by dsimp only; omega, by simp [hyl]⟩, by dsimp only; omega, ?_⟩
         conv => whnf
         rw [show (y.map Sx.bytesRow).set (0 + ((j : Nat) : Int).toNat) [XO (Value.int IntKind.u8 200)] = (y.set j 200).map Sx.bytesRow by rw [Int.toNat_natCast, Nat.zero_add, List.map_set]; rfl]
         exact GOES.cA h0 (hbo := by (repeat' (first | (refine Zl rfl ?_ ?_) | exact YQ | (simp only [Zg, Zy, Zr, Zx, YP, r0, r1, r2, Bool.and_self]; done) | rfl)))
       conv => whnf
       repeat' ((first | with_reducible refine IF.tt ?_ | with_reducible refine IF.ff ?_ | (refine ADD.mkH (fun η1 w1 H1 => ?_); (have hv1 := ByteIn.now hv H1.fr hno); conv => whnf) | (show DRAWN _ _ _ _ _ _ _; first | refine DRAWN.of (id := 32) Z0 Z1 Z3 (by kernel_rfl) ?_ | refine DRAWN.of (id := 17) Z0 Z1 Z8 (by kernel_rfl) ?_ | refine DRAWN.of (id := 18) Z0 Z1 Z4 (by kernel_rfl) ?_ | refine DRAWN.of (id := 24) Z0 Z1 Z5 (by kernel_rfl) ?_ | refine DRAWN.of (id := 34) Z0 Z1 Z6 (by kernel_rfl) ?_ | refine DRAWN.of (id := 39) Z0 Z1 Z7 (by kernel_rfl) ?_) | refine ADD.mk (fun _ _ => ?_) | refine AD ?_ | refine FORK.mk ?_ ?_ | refine AU ?_ | (refine IW (fun h => ?_) (fun h => ?_) <;> try (exfalso; omega))) <;> conv => whnf)
       refine CALL.joi (y := p2) rfl rfl ?_ ?_ hv1 (fun _ h => h) (by omega) ?_
       · exact q2.ltn rfl
       · rcases a2 with ⟨rfl, rfl⟩ | ⟨rfl, rfl⟩ | ⟨rfl, rfl⟩ <;> rfl
       conv => whnf
       repeat' ((first | with_reducible refine IF.tt ?_ | with_reducible refine IF.ff ?_ | (show DRAWN _ _ _ _ _ _ _; first | refine DRAWN.of (id := 32) Z0 Z1 Z3 (by kernel_rfl) ?_ | refine DRAWN.of (id := 17) Z0 Z1 Z8 (by kernel_rfl) ?_ | refine DRAWN.of (id := 18) Z0 Z1 Z4 (by kernel_rfl) ?_ | refine DRAWN.of (id := 24) Z0 Z1 Z5 (by kernel_rfl) ?_ | refine DRAWN.of (id := 34) Z0 Z1 Z6 (by kernel_rfl) ?_ | refine DRAWN.of (id := 39) Z0 Z1 Z7 (by kernel_rfl) ?_) | refine ADD.mk (fun _ _ => ?_) | refine AD ?_ | refine FORK.mk ?_ ?_ | refine AU ?_ | (refine IW (fun h => ?_) (fun h => ?_) <;> try (exfalso; omega))) <;> conv => whnf)
       refine CALL.aA [7, 17] (Zp (m2 ++ o.b)) ?_
       rintro r' O' nx' ⟨rfl, rfl, rfl⟩
       conv => whnf
       repeat' ((first | with_reducible refine IF.tt ?_ | with_reducible refine IF.ff ?_ | (show DRAWN _ _ _ _ _ _ _; first | refine DRAWN.of (id := 32) Z0 Z1 Z3 (by kernel_rfl) ?_ | refine DRAWN.of (id := 17) Z0 Z1 Z8 (by kernel_rfl) ?_ | refine DRAWN.of (id := 18) Z0 Z1 Z4 (by kernel_rfl) ?_ | refine DRAWN.of (id := 24) Z0 Z1 Z5 (by kernel_rfl) ?_ | refine DRAWN.of (id := 34) Z0 Z1 Z6 (by kernel_rfl) ?_ | refine DRAWN.of (id := 39) Z0 Z1 Z7 (by kernel_rfl) ?_) | refine ADD.mk (fun _ _ => ?_) | refine AD ?_ | refine FORK.mk ?_ ?_ | refine AU ?_ | (refine IW (fun h => ?_) (fun h => ?_) <;> try (exfalso; omega))) <;> conv => whnf)
       refine ⟨⟨i + 1, m0, m1, m2 ++ o.b, p0, p1, frc p0 p1, J5 (frc p0 p1) 9 (m2 ++ o.b) d0, J5 (frc p0 p1) 10 (m2 ++ o.b) d1, J5 (frc p0 p1) 11 (m2 ++ o.b) d2⟩, ⟨by dsimp only; omega, by simp only [List.length_append]; omega, by simp only [List.length_append]; omega, by simp only [List.length_append]; omega, Xv (XK q0 q1).2.1 a0, Xv (XK q0 q1).2.2 a1, UH (XK q0 q1).1⟩, by dsimp only; omega, ?_⟩
       conv => whnf
       refine GOES.keeping h0 [1, 2, 3, 4, 5, 6, 7, 17, t3 (frc p0 p1) 9, t3 (frc p0 p1) 10, t3 (frc p0 p1) 11] ?_ ?_ ?_ (ZH q0 q1 (XK q0 q1).1) ?_ ?_ <;> rcases q0 with rfl | rfl | rfl <;> rcases q1 with rfl | rfl | rfl <;> (repeat' (first | (with_reducible rfl) | exact trivial | (exact congrArg (SV.int _) (by first | omega | (simp (disch := omega) only [Zc] <;> omega))) | exact (Zd _ (h := .rows _ _) (Z2 _)).symm | exact (Wb _ _).symm | rfl | ((conv => whnf); refine And.intro ?_ ?_)))
   · have hk' : k = 0 ∨ k = 1 ∨ k = 2 := by omega
     have hj' : j = 0 ∨ j = 1 ∨ j = 2 := by omega
     rcases hk' with rfl | rfl | rfl
     · rcases hj' with rfl | rfl | rfl
       · repeat' ((first | with_reducible refine IF.tt ?_ | with_reducible refine IF.ff ?_ | (show DRAWN _ _ _ _ _ _ _; first | refine DRAWN.of (id := 32) Z0 Z1 Z3 (by kernel_rfl) ?_ | refine DRAWN.of (id := 17) Z0 Z1 Z8 (by kernel_rfl) ?_ | refine DRAWN.of (id := 18) Z0 Z1 Z4 (by kernel_rfl) ?_ | refine DRAWN.of (id := 24) Z0 Z1 Z5 (by kernel_rfl) ?_ | refine DRAWN.of (id := 34) Z0 Z1 Z6 (by kernel_rfl) ?_ | refine DRAWN.of (id := 39) Z0 Z1 Z7 (by kernel_rfl) ?_) | refine ADD.mk (fun _ _ => ?_) | refine AD ?_ | refine FORK.mk ?_ ?_ | refine AU ?_ | (refine IW (fun h => ?_) (fun h => ?_) <;> try (exfalso; omega))) <;> conv => whnf)
         refine CALL.aA [3, 4] (Y7 m0) ?_
         rintro r' O' nx' ⟨rfl, rfl, rfl⟩
         conv => whnf
         repeat' ((first | with_reducible refine IF.tt ?_ | with_reducible refine IF.ff ?_ | (show DRAWN _ _ _ _ _ _ _; first | refine DRAWN.of (id := 32) Z0 Z1 Z3 (by kernel_rfl) ?_ | refine DRAWN.of (id := 17) Z0 Z1 Z8 (by kernel_rfl) ?_ | refine DRAWN.of (id := 18) Z0 Z1 Z4 (by kernel_rfl) ?_ | refine DRAWN.of (id := 24) Z0 Z1 Z5 (by kernel_rfl) ?_ | refine DRAWN.of (id := 34) Z0 Z1 Z6 (by kernel_rfl) ?_ | refine DRAWN.of (id := 39) Z0 Z1 Z7 (by kernel_rfl) ?_) | refine ADD.mk (fun _ _ => ?_) | refine AD ?_ | refine FORK.mk ?_ ?_ | refine AU ?_ | (refine IW (fun h => ?_) (fun h => ?_) <;> try (exfalso; omega))) <;> conv => whnf)
         refine CALL.aA [13, 14] (Zp m0) ?_
         rintro r' O' nx' ⟨rfl, rfl, rfl⟩
         conv => whnf
         repeat' ((first | with_reducible refine IF.tt ?_ | with_reducible refine IF.ff ?_ | (show DRAWN _ _ _ _ _ _ _; first | refine DRAWN.of (id := 32) Z0 Z1 Z3 (by kernel_rfl) ?_ | refine DRAWN.of (id := 17) Z0 Z1 Z8 (by kernel_rfl) ?_ | refine DRAWN.of (id := 18) Z0 Z1 Z4 (by kernel_rfl) ?_ | refine DRAWN.of (id := 24) Z0 Z1 Z5 (by kernel_rfl) ?_ | refine DRAWN.of (id := 34) Z0 Z1 Z6 (by kernel_rfl) ?_ | refine DRAWN.of (id := 39) Z0 Z1 Z7 (by kernel_rfl) ?_) | refine ADD.mk (fun _ _ => ?_) | refine AD ?_ | refine FORK.mk ?_ ?_ | refine AU ?_ | (refine IW (fun h => ?_) (fun h => ?_) <;> try (exfalso; omega))) <;> conv => whnf)
         refine ⟨⟨i + 1, m0, m1, m2, p0, p1, p2, d0, d1, d2⟩, ⟨by dsimp only; omega, by dsimp only; omega, by dsimp only; omega, by dsimp only; omega, a0, a1, a2⟩, by dsimp only; omega, ?_⟩
         conv => whnf
         refine GOES.keeping h0 [1, 2, 13, 14, 5, 6, 7, 8, 9, 10, 11] rfl rfl rfl (ZH q0 q1 q2) ?_ ?_ <;> (repeat' (first | (with_reducible rfl) | exact trivial | (exact congrArg (SV.int _) (by first | omega | (simp (disch := omega) only [Zc] <;> omega))) | exact (Zd _ (h := .rows _ _) (Z2 _)).symm | exact (Zd _ (h := tl _) (Z2 _)).trans (Zd _ (h := tl _) (Z2 _)).symm | (simp only [renH, ZG, renL, ren, renB, q0.ren, q1.ren, q2.ren]; done) | (simp only [renH, ZG, renL, ren, renB, q0.ren, q1.ren, q2.ren]; rfl) | rfl | ((conv => whnf); refine And.intro ?_ ?_)))
       · repeat' ((first | with_reducible refine IF.tt ?_ | with_reducible refine IF.ff ?_ | (show DRAWN _ _ _ _ _ _ _; first | refine DRAWN.of (id := 32) Z0 Z1 Z3 (by kernel_rfl) ?_ | refine DRAWN.of (id := 17) Z0 Z1 Z8 (by kernel_rfl) ?_ | refine DRAWN.of (id := 18) Z0 Z1 Z4 (by kernel_rfl) ?_ | refine DRAWN.of (id := 24) Z0 Z1 Z5 (by kernel_rfl) ?_ | refine DRAWN.of (id := 34) Z0 Z1 Z6 (by kernel_rfl) ?_ | refine DRAWN.of (id := 39) Z0 Z1 Z7 (by kernel_rfl) ?_) | refine ADD.mk (fun _ _ => ?_) | refine AD ?_ | refine FORK.mk ?_ ?_ | refine AU ?_ | (refine IW (fun h => ?_) (fun h => ?_) <;> try (exfalso; omega))) <;> conv => whnf)
         refine CALL.aA [5, 6] (Y7 m1) ?_
         rintro r' O' nx' ⟨rfl, rfl, rfl⟩
         conv => whnf
         repeat' ((first | with_reducible refine IF.tt ?_ | with_reducible refine IF.ff ?_ | (show DRAWN _ _ _ _ _ _ _; first | refine DRAWN.of (id := 32) Z0 Z1 Z3 (by kernel_rfl) ?_ | refine DRAWN.of (id := 17) Z0 Z1 Z8 (by kernel_rfl) ?_ | refine DRAWN.of (id := 18) Z0 Z1 Z4 (by kernel_rfl) ?_ | refine DRAWN.of (id := 24) Z0 Z1 Z5 (by kernel_rfl) ?_ | refine DRAWN.of (id := 34) Z0 Z1 Z6 (by kernel_rfl) ?_ | refine DRAWN.of (id := 39) Z0 Z1 Z7 (by kernel_rfl) ?_) | refine ADD.mk (fun _ _ => ?_) | refine AD ?_ | refine FORK.mk ?_ ?_ | refine AU ?_ | (refine IW (fun h => ?_) (fun h => ?_) <;> try (exfalso; omega))) <;> conv => whnf)
         refine CALL.aA [13, 14] (Zp m1) ?_
         rintro r' O' nx' ⟨rfl, rfl, rfl⟩
         conv => whnf
         repeat' ((first | with_reducible refine IF.tt ?_ | with_reducible refine IF.ff ?_ | (show DRAWN _ _ _ _ _ _ _; first | refine DRAWN.of (id := 32) Z0 Z1 Z3 (by kernel_rfl) ?_ | refine DRAWN.of (id := 17) Z0 Z1 Z8 (by kernel_rfl) ?_ | refine DRAWN.of (id := 18) Z0 Z1 Z4 (by kernel_rfl) ?_ | refine DRAWN.of (id := 24) Z0 Z1 Z5 (by kernel_rfl) ?_ | refine DRAWN.of (id := 34) Z0 Z1 Z6 (by kernel_rfl) ?_ | refine DRAWN.of (id := 39) Z0 Z1 Z7 (by kernel_rfl) ?_) | refine ADD.mk (fun _ _ => ?_) | refine AD ?_ | refine FORK.mk ?_ ?_ | refine AU ?_ | (refine IW (fun h => ?_) (fun h => ?_) <;> try (exfalso; omega))) <;> conv => whnf)
         refine ⟨⟨i + 1, m1, m1, m2, p1, p1, p2, d0, d1, d2⟩, ⟨by dsimp only; omega, by dsimp only; omega, by dsimp only; omega, by dsimp only; omega, a1, a1, a2⟩, by dsimp only; omega, ?_⟩
         conv => whnf
         refine GOES.keeping h0 [1, 2, 13, 14, 5, 6, 7, 8, 9, 10, 11] rfl rfl rfl (ZH q1 q1 q2) ?_ ?_ <;> (repeat' (first | (with_reducible rfl) | exact trivial | (exact congrArg (SV.int _) (by first | omega | (simp (disch := omega) only [Zc] <;> omega))) | exact (Zd _ (h := .rows _ _) (Z2 _)).symm | exact (Zd _ (h := tl _) (Z2 _)).trans (Zd _ (h := tl _) (Z2 _)).symm | (simp only [renH, ZG, renL, ren, renB, q0.ren, q1.ren, q2.ren]; done) | (simp only [renH, ZG, renL, ren, renB, q0.ren, q1.ren, q2.ren]; rfl) | rfl | ((conv => whnf); refine And.intro ?_ ?_)))
       · repeat' ((first | with_reducible refine IF.tt ?_ | with_reducible refine IF.ff ?_ | (show DRAWN _ _ _ _ _ _ _; first | refine DRAWN.of (id := 32) Z0 Z1 Z3 (by kernel_rfl) ?_ | refine DRAWN.of (id := 17) Z0 Z1 Z8 (by kernel_rfl) ?_ | refine DRAWN.of (id := 18) Z0 Z1 Z4 (by kernel_rfl) ?_ | refine DRAWN.of (id := 24) Z0 Z1 Z5 (by kernel_rfl) ?_ | refine DRAWN.of (id := 34) Z0 Z1 Z6 (by kernel_rfl) ?_ | refine DRAWN.of (id := 39) Z0 Z1 Z7 (by kernel_rfl) ?_) | refine ADD.mk (fun _ _ => ?_) | refine AD ?_ | refine FORK.mk ?_ ?_ | refine AU ?_ | (refine IW (fun h => ?_) (fun h => ?_) <;> try (exfalso; omega))) <;> conv => whnf)
         refine CALL.aA [7, 8] (Y7 m2) ?_
         rintro r' O' nx' ⟨rfl, rfl, rfl⟩
         conv => whnf
         repeat' ((first | with_reducible refine IF.tt ?_ | with_reducible refine IF.ff ?_ | (show DRAWN _ _ _ _ _ _ _; first | refine DRAWN.of (id := 32) Z0 Z1 Z3 (by kernel_rfl) ?_ | refine DRAWN.of (id := 17) Z0 Z1 Z8 (by kernel_rfl) ?_ | refine DRAWN.of (id := 18) Z0 Z1 Z4 (by kernel_rfl) ?_ | refine DRAWN.of (id := 24) Z0 Z1 Z5 (by kernel_rfl) ?_ | refine DRAWN.of (id := 34) Z0 Z1 Z6 (by kernel_rfl) ?_ | refine DRAWN.of (id := 39) Z0 Z1 Z7 (by kernel_rfl) ?_) | refine ADD.mk (fun _ _ => ?_) | refine AD ?_ | refine FORK.mk ?_ ?_ | refine AU ?_ | (refine IW (fun h => ?_) (fun h => ?_) <;> try (exfalso; omega))) <;> conv => whnf)
         refine CALL.aA [13, 14] (Zp m2) ?_
         rintro r' O' nx' ⟨rfl, rfl, rfl⟩
         conv => whnf
         repeat' ((first | with_reducible refine IF.tt ?_ | with_reducible refine IF.ff ?_ | (show DRAWN _ _ _ _ _ _ _; first | refine DRAWN.of (id := 32) Z0 Z1 Z3 (by kernel_rfl) ?_ | refine DRAWN.of (id := 17) Z0 Z1 Z8 (by kernel_rfl) ?_ | refine DRAWN.of (id := 18) Z0 Z1 Z4 (by kernel_rfl) ?_ | refine DRAWN.of (id := 24) Z0 Z1 Z5 (by kernel_rfl) ?_ | refine DRAWN.of (id := 34) Z0 Z1 Z6 (by kernel_rfl) ?_ | refine DRAWN.of (id := 39) Z0 Z1 Z7 (by kernel_rfl) ?_) | refine ADD.mk (fun _ _ => ?_) | refine AD ?_ | refine FORK.mk ?_ ?_ | refine AU ?_ | (refine IW (fun h => ?_) (fun h => ?_) <;> try (exfalso; omega))) <;> conv => whnf)
         refine ⟨⟨i + 1, m2, m1, m2, p2, p1, p2, d0, d1, d2⟩, ⟨by dsimp only; omega, by dsimp only; omega, by dsimp only; omega, by dsimp only; omega, a2, a1, a2⟩, by dsimp only; omega, ?_⟩
         conv => whnf
         refine GOES.keeping h0 [1, 2, 13, 14, 5, 6, 7, 8, 9, 10, 11] rfl rfl rfl (ZH q2 q1 q2) ?_ ?_ <;> (repeat' (first | (with_reducible rfl) | exact trivial | (exact congrArg (SV.int _) (by first | omega | (simp (disch := omega) only [Zc] <;> omega))) | exact (Zd _ (h := .rows _ _) (Z2 _)).symm | exact (Zd _ (h := tl _) (Z2 _)).trans (Zd _ (h := tl _) (Z2 _)).symm | (simp only [renH, ZG, renL, ren, renB, q0.ren, q1.ren, q2.ren]; done) | (simp only [renH, ZG, renL, ren, renB, q0.ren, q1.ren, q2.ren]; rfl) | rfl | ((conv => whnf); refine And.intro ?_ ?_)))
     · rcases hj' with rfl | rfl | rfl
       · repeat' ((first | with_reducible refine IF.tt ?_ | with_reducible refine IF.ff ?_ | (show DRAWN _ _ _ _ _ _ _; first | refine DRAWN.of (id := 32) Z0 Z1 Z3 (by kernel_rfl) ?_ | refine DRAWN.of (id := 17) Z0 Z1 Z8 (by kernel_rfl) ?_ | refine DRAWN.of (id := 18) Z0 Z1 Z4 (by kernel_rfl) ?_ | refine DRAWN.of (id := 24) Z0 Z1 Z5 (by kernel_rfl) ?_ | refine DRAWN.of (id := 34) Z0 Z1 Z6 (by kernel_rfl) ?_ | refine DRAWN.of (id := 39) Z0 Z1 Z7 (by kernel_rfl) ?_) | refine ADD.mk (fun _ _ => ?_) | refine AD ?_ | refine FORK.mk ?_ ?_ | refine AU ?_ | (refine IW (fun h => ?_) (fun h => ?_) <;> try (exfalso; omega))) <;> conv => whnf)
         refine CALL.aA [3, 4] (Y7 m0) ?_
         rintro r' O' nx' ⟨rfl, rfl, rfl⟩
         conv => whnf
         repeat' ((first | with_reducible refine IF.tt ?_ | with_reducible refine IF.ff ?_ | (show DRAWN _ _ _ _ _ _ _; first | refine DRAWN.of (id := 32) Z0 Z1 Z3 (by kernel_rfl) ?_ | refine DRAWN.of (id := 17) Z0 Z1 Z8 (by kernel_rfl) ?_ | refine DRAWN.of (id := 18) Z0 Z1 Z4 (by kernel_rfl) ?_ | refine DRAWN.of (id := 24) Z0 Z1 Z5 (by kernel_rfl) ?_ | refine DRAWN.of (id := 34) Z0 Z1 Z6 (by kernel_rfl) ?_ | refine DRAWN.of (id := 39) Z0 Z1 Z7 (by kernel_rfl) ?_) | refine ADD.mk (fun _ _ => ?_) | refine AD ?_ | refine FORK.mk ?_ ?_ | refine AU ?_ | (refine IW (fun h => ?_) (fun h => ?_) <;> try (exfalso; omega))) <;> conv => whnf)
         refine CALL.aA [13, 14] (Zp m0) ?_
         rintro r' O' nx' ⟨rfl, rfl, rfl⟩
         conv => whnf
         repeat' ((first | with_reducible refine IF.tt ?_ | with_reducible refine IF.ff ?_ | (show DRAWN _ _ _ _ _ _ _; first | refine DRAWN.of (id := 32) Z0 Z1 Z3 (by kernel_rfl) ?_ | refine DRAWN.of (id := 17) Z0 Z1 Z8 (by kernel_rfl) ?_ | refine DRAWN.of (id := 18) Z0 Z1 Z4 (by kernel_rfl) ?_ | refine DRAWN.of (id := 24) Z0 Z1 Z5 (by kernel_rfl) ?_ | refine DRAWN.of (id := 34) Z0 Z1 Z6 (by kernel_rfl) ?_ | refine DRAWN.of (id := 39) Z0 Z1 Z7 (by kernel_rfl) ?_) | refine ADD.mk (fun _ _ => ?_) | refine AD ?_ | refine FORK.mk ?_ ?_ | refine AU ?_ | (refine IW (fun h => ?_) (fun h => ?_) <;> try (exfalso; omega))) <;> conv => whnf)
         refine ⟨⟨i + 1, m0, m0, m2, p0, p0, p2, d0, d1, d2⟩, ⟨by dsimp only; omega, by dsimp only; omega, by dsimp only; omega, by dsimp only; omega, a0, a0, a2⟩, by dsimp only; omega, ?_⟩
         conv => whnf
         refine GOES.keeping h0 [1, 2, 3, 4, 13, 14, 7, 8, 9, 10, 11] rfl rfl rfl (ZH q0 q0 q2) ?_ ?_ <;> (repeat' (first | (with_reducible rfl) | exact trivial | (exact congrArg (SV.int _) (by first | omega | (simp (disch := omega) only [Zc] <;> omega))) | exact (Zd _ (h := .rows _ _) (Z2 _)).symm | exact (Zd _ (h := tl _) (Z2 _)).trans (Zd _ (h := tl _) (Z2 _)).symm | (simp only [renH, ZG, renL, ren, renB, q0.ren, q1.ren, q2.ren]; done) | (simp only [renH, ZG, renL, ren, renB, q0.ren, q1.ren, q2.ren]; rfl) | rfl | ((conv => whnf); refine And.intro ?_ ?_)))
       · repeat' ((first | with_reducible refine IF.tt ?_ | with_reducible refine IF.ff ?_ | (show DRAWN _ _ _ _ _ _ _; first | refine DRAWN.of (id := 32) Z0 Z1 Z3 (by kernel_rfl) ?_ | refine DRAWN.of (id := 17) Z0 Z1 Z8 (by kernel_rfl) ?_ | refine DRAWN.of (id := 18) Z0 Z1 Z4 (by kernel_rfl) ?_ | refine DRAWN.of (id := 24) Z0 Z1 Z5 (by kernel_rfl) ?_ | refine DRAWN.of (id := 34) Z0 Z1 Z6 (by kernel_rfl) ?_ | refine DRAWN.of (id := 39) Z0 Z1 Z7 (by kernel_rfl) ?_) | refine ADD.mk (fun _ _ => ?_) | refine AD ?_ | refine FORK.mk ?_ ?_ | refine AU ?_ | (refine IW (fun h => ?_) (fun h => ?_) <;> try (exfalso; omega))) <;> conv => whnf)
         refine CALL.aA [5, 6] (Y7 m1) ?_
         rintro r' O' nx' ⟨rfl, rfl, rfl⟩
         conv => whnf
         repeat' ((first | with_reducible refine IF.tt ?_ | with_reducible refine IF.ff ?_ | (show DRAWN _ _ _ _ _ _ _; first | refine DRAWN.of (id := 32) Z0 Z1 Z3 (by kernel_rfl) ?_ | refine DRAWN.of (id := 17) Z0 Z1 Z8 (by kernel_rfl) ?_ | refine DRAWN.of (id := 18) Z0 Z1 Z4 (by kernel_rfl) ?_ | refine DRAWN.of (id := 24) Z0 Z1 Z5 (by kernel_rfl) ?_ | refine DRAWN.of (id := 34) Z0 Z1 Z6 (by kernel_rfl) ?_ | refine DRAWN.of (id := 39) Z0 Z1 Z7 (by kernel_rfl) ?_) | refine ADD.mk (fun _ _ => ?_) | refine AD ?_ | refine FORK.mk ?_ ?_ | refine AU ?_ | (refine IW (fun h => ?_) (fun h => ?_) <;> try (exfalso; omega))) <;> conv => whnf)
         refine CALL.aA [13, 14] (Zp m1) ?_
         rintro r' O' nx' ⟨rfl, rfl, rfl⟩
         conv => whnf
         repeat' ((first | with_reducible refine IF.tt ?_ | with_reducible refine IF.ff ?_ | (show DRAWN _ _ _ _ _ _ _; first | refine DRAWN.of (id := 32) Z0 Z1 Z3 (by kernel_rfl) ?_ | refine DRAWN.of (id := 17) Z0 Z1 Z8 (by kernel_rfl) ?_ | refine DRAWN.of (id := 18) Z0 Z1 Z4 (by kernel_rfl) ?_ | refine DRAWN.of (id := 24) Z0 Z1 Z5 (by kernel_rfl) ?_ | refine DRAWN.of (id := 34) Z0 Z1 Z6 (by kernel_rfl) ?_ | refine DRAWN.of (id := 39) Z0 Z1 Z7 (by kernel_rfl) ?_) | refine ADD.mk (fun _ _ => ?_) | refine AD ?_ | refine FORK.mk ?_ ?_ | refine AU ?_ | (refine IW (fun h => ?_) (fun h => ?_) <;> try (exfalso; omega))) <;> conv => whnf)
         refine ⟨⟨i + 1, m0, m1, m2, p0, p1, p2, d0, d1, d2⟩, ⟨by dsimp only; omega, by dsimp only; omega, by dsimp only; omega, by dsimp only; omega, a0, a1, a2⟩, by dsimp only; omega, ?_⟩
         conv => whnf
         refine GOES.keeping h0 [1, 2, 3, 4, 13, 14, 7, 8, 9, 10, 11] rfl rfl rfl (ZH q0 q1 q2) ?_ ?_ <;> (repeat' (first | (with_reducible rfl) | exact trivial | (exact congrArg (SV.int _) (by first | omega | (simp (disch := omega) only [Zc] <;> omega))) | exact (Zd _ (h := .rows _ _) (Z2 _)).symm | exact (Zd _ (h := tl _) (Z2 _)).trans (Zd _ (h := tl _) (Z2 _)).symm | (simp only [renH, ZG, renL, ren, renB, q0.ren, q1.ren, q2.ren]; done) | (simp only [renH, ZG, renL, ren, renB, q0.ren, q1.ren, q2.ren]; rfl) | rfl | ((conv => whnf); refine And.intro ?_ ?_)))
       · repeat' ((first | with_reducible refine IF.tt ?_ | with_reducible refine IF.ff ?_ | (show DRAWN _ _ _ _ _ _ _; first | refine DRAWN.of (id := 32) Z0 Z1 Z3 (by kernel_rfl) ?_ | refine DRAWN.of (id := 17) Z0 Z1 Z8 (by kernel_rfl) ?_ | refine DRAWN.of (id := 18) Z0 Z1 Z4 (by kernel_rfl) ?_ | refine DRAWN.of (id := 24) Z0 Z1 Z5 (by kernel_rfl) ?_ | refine DRAWN.of (id := 34) Z0 Z1 Z6 (by kernel_rfl) ?_ | refine DRAWN.of (id := 39) Z0 Z1 Z7 (by kernel_rfl) ?_) | refine ADD.mk (fun _ _ => ?_) | refine AD ?_ | refine FORK.mk ?_ ?_ | refine AU ?_ | (refine IW (fun h => ?_) (fun h => ?_) <;> try (exfalso; omega))) <;> conv => whnf)
         refine CALL.aA [7, 8] (Y7 m2) ?_
         rintro r' O' nx' ⟨rfl, rfl, rfl⟩
         conv => whnf
         repeat' ((first | with_reducible refine IF.tt ?_ | with_reducible refine IF.ff ?_ | (show DRAWN _ _ _ _ _ _ _; first | refine DRAWN.of (id := 32) Z0 Z1 Z3 (by kernel_rfl) ?_ | refine DRAWN.of (id := 17) Z0 Z1 Z8 (by kernel_rfl) ?_ | refine DRAWN.of (id := 18) Z0 Z1 Z4 (by kernel_rfl) ?_ | refine DRAWN.of (id := 24) Z0 Z1 Z5 (by kernel_rfl) ?_ | refine DRAWN.of (id := 34) Z0 Z1 Z6 (by kernel_rfl) ?_ | refine DRAWN.of (id := 39) Z0 Z1 Z7 (by kernel_rfl) ?_) | refine ADD.mk (fun _ _ => ?_) | refine AD ?_ | refine FORK.mk ?_ ?_ | refine AU ?_ | (refine IW (fun h => ?_) (fun h => ?_) <;> try (exfalso; omega))) <;> conv => whnf)
         refine CALL.aA [13, 14] (Zp m2) ?_
         rintro r' O' nx' ⟨rfl, rfl, rfl⟩
         conv => whnf
         repeat' ((first | with_reducible refine IF.tt ?_ | with_reducible refine IF.ff ?_ | (show DRAWN _ _ _ _ _ _ _; first | refine DRAWN.of (id := 32) Z0 Z1 Z3 (by kernel_rfl) ?_ | refine DRAWN.of (id := 17) Z0 Z1 Z8 (by kernel_rfl) ?_ | refine DRAWN.of (id := 18) Z0 Z1 Z4 (by kernel_rfl) ?_ | refine DRAWN.of (id := 24) Z0 Z1 Z5 (by kernel_rfl) ?_ | refine DRAWN.of (id := 34) Z0 Z1 Z6 (by kernel_rfl) ?_ | refine DRAWN.of (id := 39) Z0 Z1 Z7 (by kernel_rfl) ?_) | refine ADD.mk (fun _ _ => ?_) | refine AD ?_ | refine FORK.mk ?_ ?_ | refine AU ?_ | (refine IW (fun h => ?_) (fun h => ?_) <;> try (exfalso; omega))) <;> conv => whnf)
         refine ⟨⟨i + 1, m0, m2, m2, p0, p2, p2, d0, d1, d2⟩, ⟨by dsimp only; omega, by dsimp only; omega, by dsimp only; omega, by dsimp only; omega, a0, a2, a2⟩, by dsimp only; omega, ?_⟩
         conv => whnf
         refine GOES.keeping h0 [1, 2, 3, 4, 13, 14, 7, 8, 9, 10, 11] rfl rfl rfl (ZH q0 q2 q2) ?_ ?_ <;> (repeat' (first | (with_reducible rfl) | exact trivial | (exact congrArg (SV.int _) (by first | omega | (simp (disch := omega) only [Zc] <;> omega))) | exact (Zd _ (h := .rows _ _) (Z2 _)).symm | exact (Zd _ (h := tl _) (Z2 _)).trans (Zd _ (h := tl _) (Z2 _)).symm | (simp only [renH, ZG, renL, ren, renB, q0.ren, q1.ren, q2.ren]; done) | (simp only [renH, ZG, renL, ren, renB, q0.ren, q1.ren, q2.ren]; rfl) | rfl | ((conv => whnf); refine And.intro ?_ ?_)))
     · rcases hj' with rfl | rfl | rfl
       · repeat' ((first | with_reducible refine IF.tt ?_ | with_reducible refine IF.ff ?_ | (show DRAWN _ _ _ _ _ _ _; first | refine DRAWN.of (id := 32) Z0 Z1 Z3 (by kernel_rfl) ?_ | refine DRAWN.of (id := 17) Z0 Z1 Z8 (by kernel_rfl) ?_ | refine DRAWN.of (id := 18) Z0 Z1 Z4 (by kernel_rfl) ?_ | refine DRAWN.of (id := 24) Z0 Z1 Z5 (by kernel_rfl) ?_ | refine DRAWN.of (id := 34) Z0 Z1 Z6 (by kernel_rfl) ?_ | refine DRAWN.of (id := 39) Z0 Z1 Z7 (by kernel_rfl) ?_) | refine ADD.mk (fun _ _ => ?_) | refine AD ?_ | refine FORK.mk ?_ ?_ | refine AU ?_ | (refine IW (fun h => ?_) (fun h => ?_) <;> try (exfalso; omega))) <;> conv => whnf)
         refine CALL.aA [3, 4] (Y7 m0) ?_
         rintro r' O' nx' ⟨rfl, rfl, rfl⟩
         conv => whnf
         repeat' ((first | with_reducible refine IF.tt ?_ | with_reducible refine IF.ff ?_ | (show DRAWN _ _ _ _ _ _ _; first | refine DRAWN.of (id := 32) Z0 Z1 Z3 (by kernel_rfl) ?_ | refine DRAWN.of (id := 17) Z0 Z1 Z8 (by kernel_rfl) ?_ | refine DRAWN.of (id := 18) Z0 Z1 Z4 (by kernel_rfl) ?_ | refine DRAWN.of (id := 24) Z0 Z1 Z5 (by kernel_rfl) ?_ | refine DRAWN.of (id := 34) Z0 Z1 Z6 (by kernel_rfl) ?_ | refine DRAWN.of (id := 39) Z0 Z1 Z7 (by kernel_rfl) ?_) | refine ADD.mk (fun _ _ => ?_) | refine AD ?_ | refine FORK.mk ?_ ?_ | refine AU ?_ | (refine IW (fun h => ?_) (fun h => ?_) <;> try (exfalso; omega))) <;> conv => whnf)
         refine CALL.aA [13, 14] (Zp m0) ?_
         rintro r' O' nx' ⟨rfl, rfl, rfl⟩
         conv => whnf
         repeat' ((first | with_reducible refine IF.tt ?_ | with_reducible refine IF.ff ?_ | (show DRAWN _ _ _ _ _ _ _; first | refine DRAWN.of (id := 32) Z0 Z1 Z3 (by kernel_rfl) ?_ | refine DRAWN.of (id := 17) Z0 Z1 Z8 (by kernel_rfl) ?_ | refine DRAWN.of (id := 18) Z0 Z1 Z4 (by kernel_rfl) ?_ | refine DRAWN.of (id := 24) Z0 Z1 Z5 (by kernel_rfl) ?_ | refine DRAWN.of (id := 34) Z0 Z1 Z6 (by kernel_rfl) ?_ | refine DRAWN.of (id := 39) Z0 Z1 Z7 (by kernel_rfl) ?_) | refine ADD.mk (fun _ _ => ?_) | refine AD ?_ | refine FORK.mk ?_ ?_ | refine AU ?_ | (refine IW (fun h => ?_) (fun h => ?_) <;> try (exfalso; omega))) <;> conv => whnf)
         refine ⟨⟨i + 1, m0, m1, m0, p0, p1, p0, d0, d1, d2⟩, ⟨by dsimp only; omega, by dsimp only; omega, by dsimp only; omega, by dsimp only; omega, a0, a1, a0⟩, by dsimp only; omega, ?_⟩
         conv => whnf
         refine GOES.keeping h0 [1, 2, 3, 4, 5, 6, 13, 14, 9, 10, 11] rfl rfl rfl (ZH q0 q1 q0) ?_ ?_ <;> (repeat' (first | (with_reducible rfl) | exact trivial | (exact congrArg (SV.int _) (by first | omega | (simp (disch := omega) only [Zc] <;> omega))) | exact (Zd _ (h := .rows _ _) (Z2 _)).symm | exact (Zd _ (h := tl _) (Z2 _)).trans (Zd _ (h := tl _) (Z2 _)).symm | (simp only [renH, ZG, renL, ren, renB, q0.ren, q1.ren, q2.ren]; done) | (simp only [renH, ZG, renL, ren, renB, q0.ren, q1.ren, q2.ren]; rfl) | rfl | ((conv => whnf); refine And.intro ?_ ?_)))
       · repeat' ((first | with_reducible refine IF.tt ?_ | with_reducible refine IF.ff ?_ | (show DRAWN _ _ _ _ _ _ _; first | refine DRAWN.of (id := 32) Z0 Z1 Z3 (by kernel_rfl) ?_ | refine DRAWN.of (id := 17) Z0 Z1 Z8 (by kernel_rfl) ?_ | refine DRAWN.of (id := 18) Z0 Z1 Z4 (by kernel_rfl) ?_ | refine DRAWN.of (id := 24) Z0 Z1 Z5 (by kernel_rfl) ?_ | refine DRAWN.of (id := 34) Z0 Z1 Z6 (by kernel_rfl) ?_ | refine DRAWN.of (id := 39) Z0 Z1 Z7 (by kernel_rfl) ?_) | refine ADD.mk (fun _ _ => ?_) | refine AD ?_ | refine FORK.mk ?_ ?_ | refine AU ?_ | (refine IW (fun h => ?_) (fun h => ?_) <;> try (exfalso; omega))) <;> conv => whnf)
         refine CALL.aA [5, 6] (Y7 m1) ?_
         rintro r' O' nx' ⟨rfl, rfl, rfl⟩
         conv => whnf
         repeat' ((first | with_reducible refine IF.tt ?_ | with_reducible refine IF.ff ?_ | (show DRAWN _ _ _ _ _ _ _; first | refine DRAWN.of (id := 32) Z0 Z1 Z3 (by kernel_rfl) ?_ | refine DRAWN.of (id := 17) Z0 Z1 Z8 (by kernel_rfl) ?_ | refine DRAWN.of (id := 18) Z0 Z1 Z4 (by kernel_rfl) ?_ | refine DRAWN.of (id := 24) Z0 Z1 Z5 (by kernel_rfl) ?_ | refine DRAWN.of (id := 34) Z0 Z1 Z6 (by kernel_rfl) ?_ | refine DRAWN.of (id := 39) Z0 Z1 Z7 (by kernel_rfl) ?_) | refine ADD.mk (fun _ _ => ?_) | refine AD ?_ | refine FORK.mk ?_ ?_ | refine AU ?_ | (refine IW (fun h => ?_) (fun h => ?_) <;> try (exfalso; omega))) <;> conv => whnf)
         refine CALL.aA [13, 14] (Zp m1) ?_
         rintro r' O' nx' ⟨rfl, rfl, rfl⟩
         conv => whnf
         repeat' ((first | with_reducible refine IF.tt ?_ | with_reducible refine IF.ff ?_ | (show DRAWN _ _ _ _ _ _ _; first | refine DRAWN.of (id := 32) Z0 Z1 Z3 (by kernel_rfl) ?_ | refine DRAWN.of (id := 17) Z0 Z1 Z8 (by kernel_rfl) ?_ | refine DRAWN.of (id := 18) Z0 Z1 Z4 (by kernel_rfl) ?_ | refine DRAWN.of (id := 24) Z0 Z1 Z5 (by kernel_rfl) ?_ | refine DRAWN.of (id := 34) Z0 Z1 Z6 (by kernel_rfl) ?_ | refine DRAWN.of (id := 39) Z0 Z1 Z7 (by kernel_rfl) ?_) | refine ADD.mk (fun _ _ => ?_) | refine AD ?_ | refine FORK.mk ?_ ?_ | refine AU ?_ | (refine IW (fun h => ?_) (fun h => ?_) <;> try (exfalso; omega))) <;> conv => whnf)
         refine ⟨⟨i + 1, m0, m1, m1, p0, p1, p1, d0, d1, d2⟩, ⟨by dsimp only; omega, by dsimp only; omega, by dsimp only; omega, by dsimp only; omega, a0, a1, a1⟩, by dsimp only; omega, ?_⟩
         conv => whnf
         refine GOES.keeping h0 [1, 2, 3, 4, 5, 6, 13, 14, 9, 10, 11] rfl rfl rfl (ZH q0 q1 q1) ?_ ?_ <;> (repeat' (first | (with_reducible rfl) | exact trivial | (exact congrArg (SV.int _) (by first | omega | (simp (disch := omega) only [Zc] <;> omega))) | exact (Zd _ (h := .rows _ _) (Z2 _)).symm | exact (Zd _ (h := tl _) (Z2 _)).trans (Zd _ (h := tl _) (Z2 _)).symm | (simp only [renH, ZG, renL, ren, renB, q0.ren, q1.ren, q2.ren]; done) | (simp only [renH, ZG, renL, ren, renB, q0.ren, q1.ren, q2.ren]; rfl) | rfl | ((conv => whnf); refine And.intro ?_ ?_)))
       · repeat' ((first | with_reducible refine IF.tt ?_ | with_reducible refine IF.ff ?_ | (show DRAWN _ _ _ _ _ _ _; first | refine DRAWN.of (id := 32) Z0 Z1 Z3 (by kernel_rfl) ?_ | refine DRAWN.of (id := 17) Z0 Z1 Z8 (by kernel_rfl) ?_ | refine DRAWN.of (id := 18) Z0 Z1 Z4 (by kernel_rfl) ?_ | refine DRAWN.of (id := 24) Z0 Z1 Z5 (by kernel_rfl) ?_ | refine DRAWN.of (id := 34) Z0 Z1 Z6 (by kernel_rfl) ?_ | refine DRAWN.of (id := 39) Z0 Z1 Z7 (by kernel_rfl) ?_) | refine ADD.mk (fun _ _ => ?_) | refine AD ?_ | refine FORK.mk ?_ ?_ | refine AU ?_ | (refine IW (fun h => ?_) (fun h => ?_) <;> try (exfalso; omega))) <;> conv => whnf)
         refine CALL.aA [7, 8] (Y7 m2) ?_
         rintro r' O' nx' ⟨rfl, rfl, rfl⟩
         conv => whnf
         repeat' ((first | with_reducible refine IF.tt ?_ | with_reducible refine IF.ff ?_ | (show DRAWN _ _ _ _ _ _ _; first | refine DRAWN.of (id := 32) Z0 Z1 Z3 (by kernel_rfl) ?_ | refine DRAWN.of (id := 17) Z0 Z1 Z8 (by kernel_rfl) ?_ | refine DRAWN.of (id := 18) Z0 Z1 Z4 (by kernel_rfl) ?_ | refine DRAWN.of (id := 24) Z0 Z1 Z5 (by kernel_rfl) ?_ | refine DRAWN.of (id := 34) Z0 Z1 Z6 (by kernel_rfl) ?_ | refine DRAWN.of (id := 39) Z0 Z1 Z7 (by kernel_rfl) ?_) | refine ADD.mk (fun _ _ => ?_) | refine AD ?_ | refine FORK.mk ?_ ?_ | refine AU ?_ | (refine IW (fun h => ?_) (fun h => ?_) <;> try (exfalso; omega))) <;> conv => whnf)
         refine CALL.aA [13, 14] (Zp m2) ?_
         rintro r' O' nx' ⟨rfl, rfl, rfl⟩
         conv => whnf
         repeat' ((first | with_reducible refine IF.tt ?_ | with_reducible refine IF.ff ?_ | (show DRAWN _ _ _ _ _ _ _; first | refine DRAWN.of (id := 32) Z0 Z1 Z3 (by kernel_rfl) ?_ | refine DRAWN.of (id := 17) Z0 Z1 Z8 (by kernel_rfl) ?_ | refine DRAWN.of (id := 18) Z0 Z1 Z4 (by kernel_rfl) ?_ | refine DRAWN.of (id := 24) Z0 Z1 Z5 (by kernel_rfl) ?_ | refine DRAWN.of (id := 34) Z0 Z1 Z6 (by kernel_rfl) ?_ | refine DRAWN.of (id := 39) Z0 Z1 Z7 (by kernel_rfl) ?_) | refine ADD.mk (fun _ _ => ?_) | refine AD ?_ | refine FORK.mk ?_ ?_ | refine AU ?_ | (refine IW (fun h => ?_) (fun h => ?_) <;> try (exfalso; omega))) <;> conv => whnf)
         refine ⟨⟨i + 1, m0, m1, m2, p0, p1, p2, d0, d1, d2⟩, ⟨by dsimp only; omega, by dsimp only; omega, by dsimp only; omega, by dsimp only; omega, a0, a1, a2⟩, by dsimp only; omega, ?_⟩
         conv => whnf
         refine GOES.keeping h0 [1, 2, 3, 4, 5, 6, 13, 14, 9, 10, 11] rfl rfl rfl (ZH q0 q1 q2) ?_ ?_ <;> (repeat' (first | (with_reducible rfl) | exact trivial | (exact congrArg (SV.int _) (by first | omega | (simp (disch := omega) only [Zc] <;> omega))) | exact (Zd _ (h := .rows _ _) (Z2 _)).symm | exact (Zd _ (h := tl _) (Z2 _)).trans (Zd _ (h := tl _) (Z2 _)).symm | (simp only [renH, ZG, renL, ren, renB, q0.ren, q1.ren, q2.ren]; done) | (simp only [renH, ZG, renL, ren, renB, q0.ren, q1.ren, q2.ren]; rfl) | rfl | ((conv => whnf); refine And.intro ?_ ?_)))
   · have hk' : k = 0 ∨ k = 1 ∨ k = 2 := by omega
     rcases hk' with rfl | rfl | rfl
     · repeat' ((first | with_reducible refine IF.tt ?_ | with_reducible refine IF.ff ?_ | (show DRAWN _ _ _ _ _ _ _; first | refine DRAWN.of (id := 32) Z0 Z1 Z3 (by kernel_rfl) ?_ | refine DRAWN.of (id := 17) Z0 Z1 Z8 (by kernel_rfl) ?_ | refine DRAWN.of (id := 18) Z0 Z1 Z4 (by kernel_rfl) ?_ | refine DRAWN.of (id := 24) Z0 Z1 Z5 (by kernel_rfl) ?_ | refine DRAWN.of (id := 34) Z0 Z1 Z6 (by kernel_rfl) ?_ | refine DRAWN.of (id := 39) Z0 Z1 Z7 (by kernel_rfl) ?_) | refine ADD.mk (fun _ _ => ?_) | refine AD ?_ | refine FORK.mk ?_ ?_ | refine AU ?_ | (refine IW (fun h => ?_) (fun h => ?_) <;> try (exfalso; omega))) <;> conv => whnf)
       refine CALL.aA [3, 4] (Yr m0 (by omega)) ?_
       rintro r' O' nx' ⟨rfl, rfl, rfl⟩
       simp only [ren, Zf _ (Z2 _)]
       conv => whnf
       repeat' ((first | with_reducible refine IF.tt ?_ | with_reducible refine IF.ff ?_ | (show DRAWN _ _ _ _ _ _ _; first | refine DRAWN.of (id := 32) Z0 Z1 Z3 (by kernel_rfl) ?_ | refine DRAWN.of (id := 17) Z0 Z1 Z8 (by kernel_rfl) ?_ | refine DRAWN.of (id := 18) Z0 Z1 Z4 (by kernel_rfl) ?_ | refine DRAWN.of (id := 24) Z0 Z1 Z5 (by kernel_rfl) ?_ | refine DRAWN.of (id := 34) Z0 Z1 Z6 (by kernel_rfl) ?_ | refine DRAWN.of (id := 39) Z0 Z1 Z7 (by kernel_rfl) ?_) | refine ADD.mk (fun _ _ => ?_) | refine AD ?_ | refine FORK.mk ?_ ?_ | refine AU ?_ | (refine IW (fun h => ?_) (fun h => ?_) <;> try (exfalso; omega))) <;> conv => whnf)
       have hrd := Xu m0 (by omega)
       refine CALL.look1 p0 hrd rfl ?_ rfl ?_ (Z2 _) (Z2 _) ?_
       · exact q0.ltn rfl
       · rcases a0 with ⟨rfl, rfl⟩ | ⟨rfl, rfl⟩ | ⟨rfl, rfl⟩ <;> rfl
       conv => whnf
       repeat' ((first | with_reducible refine IF.tt ?_ | with_reducible refine IF.ff ?_ | (refine NEED.mk (YS _) ?_; conv => whnf) | (refine IF.no (YT _) ?_; conv => whnf) | (show DRAWN _ _ _ _ _ _ _; first | refine DRAWN.of (id := 32) Z0 Z1 Z3 (by kernel_rfl) ?_ | refine DRAWN.of (id := 17) Z0 Z1 Z8 (by kernel_rfl) ?_ | refine DRAWN.of (id := 18) Z0 Z1 Z4 (by kernel_rfl) ?_ | refine DRAWN.of (id := 24) Z0 Z1 Z5 (by kernel_rfl) ?_ | refine DRAWN.of (id := 34) Z0 Z1 Z6 (by kernel_rfl) ?_ | refine DRAWN.of (id := 39) Z0 Z1 Z7 (by kernel_rfl) ?_) | refine ADD.mk (fun _ _ => ?_) | refine AD ?_ | refine FORK.mk ?_ ?_ | refine AU ?_ | (refine IW (fun h => ?_) (fun h => ?_) <;> try (exfalso; omega))) <;> conv => whnf)
       repeat' ((first | with_reducible refine IF.tt ?_ | with_reducible refine IF.ff ?_ | (show DRAWN _ _ _ _ _ _ _; first | refine DRAWN.of (id := 32) Z0 Z1 Z3 (by kernel_rfl) ?_ | refine DRAWN.of (id := 17) Z0 Z1 Z8 (by kernel_rfl) ?_ | refine DRAWN.of (id := 18) Z0 Z1 Z4 (by kernel_rfl) ?_ | refine DRAWN.of (id := 24) Z0 Z1 Z5 (by kernel_rfl) ?_ | refine DRAWN.of (id := 34) Z0 Z1 Z6 (by kernel_rfl) ?_ | refine DRAWN.of (id := 39) Z0 Z1 Z7 (by kernel_rfl) ?_) | refine ADD.mk (fun _ _ => ?_) | refine AD ?_ | refine FORK.mk ?_ ?_ | refine AU ?_ | (refine IW (fun h => ?_) (fun h => ?_) <;> try (exfalso; omega))) <;> conv => whnf)
       refine CALL.aA [3, 4] (Zp m0) ?_
       rintro r' O' nx' ⟨rfl, rfl, rfl⟩
       conv => whnf
       repeat' ((first | with_reducible refine IF.tt ?_ | with_reducible refine IF.ff ?_ | (show DRAWN _ _ _ _ _ _ _; first | refine DRAWN.of (id := 32) Z0 Z1 Z3 (by kernel_rfl) ?_ | refine DRAWN.of (id := 17) Z0 Z1 Z8 (by kernel_rfl) ?_ | refine DRAWN.of (id := 18) Z0 Z1 Z4 (by kernel_rfl) ?_ | refine DRAWN.of (id := 24) Z0 Z1 Z5 (by kernel_rfl) ?_ | refine DRAWN.of (id := 34) Z0 Z1 Z6 (by kernel_rfl) ?_ | refine DRAWN.of (id := 39) Z0 Z1 Z7 (by kernel_rfl) ?_) | refine ADD.mk (fun _ _ => ?_) | refine AD ?_ | refine FORK.mk ?_ ?_ | refine AU ?_ | (refine IW (fun h => ?_) (fun h => ?_) <;> try (exfalso; omega))) <;> conv => whnf)
       refine ⟨⟨i + 1, m0, m1, m2, p0, p1, p2, d0, d1, d2⟩, ⟨by dsimp only; omega, by dsimp only; omega, by dsimp only; omega, by dsimp only; omega, a0, a1, a2⟩, by dsimp only; omega, ?_⟩
       conv => whnf
       exact GOES.cA h0 (hbo := ZH q0 q1 q2)
     · repeat' ((first | with_reducible refine IF.tt ?_ | with_reducible refine IF.ff ?_ | (show DRAWN _ _ _ _ _ _ _; first | refine DRAWN.of (id := 32) Z0 Z1 Z3 (by kernel_rfl) ?_ | refine DRAWN.of (id := 17) Z0 Z1 Z8 (by kernel_rfl) ?_ | refine DRAWN.of (id := 18) Z0 Z1 Z4 (by kernel_rfl) ?_ | refine DRAWN.of (id := 24) Z0 Z1 Z5 (by kernel_rfl) ?_ | refine DRAWN.of (id := 34) Z0 Z1 Z6 (by kernel_rfl) ?_ | refine DRAWN.of (id := 39) Z0 Z1 Z7 (by kernel_rfl) ?_) | refine ADD.mk (fun _ _ => ?_) | refine AD ?_ | refine FORK.mk ?_ ?_ | refine AU ?_ | (refine IW (fun h => ?_) (fun h => ?_) <;> try (exfalso; omega))) <;> conv => whnf)
       refine CALL.aA [5, 6] (Yr m1 (by omega)) ?_
       rintro r' O' nx' ⟨rfl, rfl, rfl⟩
       simp only [ren, Zf _ (Z2 _)]
       conv => whnf
       repeat' ((first | with_reducible refine IF.tt ?_ | with_reducible refine IF.ff ?_ | (show DRAWN _ _ _ _ _ _ _; first | refine DRAWN.of (id := 32) Z0 Z1 Z3 (by kernel_rfl) ?_ | refine DRAWN.of (id := 17) Z0 Z1 Z8 (by kernel_rfl) ?_ | refine DRAWN.of (id := 18) Z0 Z1 Z4 (by kernel_rfl) ?_ | refine DRAWN.of (id := 24) Z0 Z1 Z5 (by kernel_rfl) ?_ | refine DRAWN.of (id := 34) Z0 Z1 Z6 (by kernel_rfl) ?_ | refine DRAWN.of (id := 39) Z0 Z1 Z7 (by kernel_rfl) ?_) | refine ADD.mk (fun _ _ => ?_) | refine AD ?_ | refine FORK.mk ?_ ?_ | refine AU ?_ | (refine IW (fun h => ?_) (fun h => ?_) <;> try (exfalso; omega))) <;> conv => whnf)
       have hrd := Xu m1 (by omega)
       refine CALL.look1 p1 hrd rfl ?_ rfl ?_ (Z2 _) (Z2 _) ?_
       · exact q1.ltn rfl
       · rcases a1 with ⟨rfl, rfl⟩ | ⟨rfl, rfl⟩ | ⟨rfl, rfl⟩ <;> rfl
       conv => whnf
       repeat' ((first | with_reducible refine IF.tt ?_ | with_reducible refine IF.ff ?_ | (refine NEED.mk (YS _) ?_; conv => whnf) | (refine IF.no (YT _) ?_; conv => whnf) | (show DRAWN _ _ _ _ _ _ _; first | refine DRAWN.of (id := 32) Z0 Z1 Z3 (by kernel_rfl) ?_ | refine DRAWN.of (id := 17) Z0 Z1 Z8 (by kernel_rfl) ?_ | refine DRAWN.of (id := 18) Z0 Z1 Z4 (by kernel_rfl) ?_ | refine DRAWN.of (id := 24) Z0 Z1 Z5 (by kernel_rfl) ?_ | refine DRAWN.of (id := 34) Z0 Z1 Z6 (by kernel_rfl) ?_ | refine DRAWN.of (id := 39) Z0 Z1 Z7 (by kernel_rfl) ?_) | refine ADD.mk (fun _ _ => ?_) | refine AD ?_ | refine FORK.mk ?_ ?_ | refine AU ?_ | (refine IW (fun h => ?_) (fun h => ?_) <;> try (exfalso; omega))) <;> conv => whnf)
       repeat' ((first | with_reducible refine IF.tt ?_ | with_reducible refine IF.ff ?_ | (show DRAWN _ _ _ _ _ _ _; first | refine DRAWN.of (id := 32) Z0 Z1 Z3 (by kernel_rfl) ?_ | refine DRAWN.of (id := 17) Z0 Z1 Z8 (by kernel_rfl) ?_ | refine DRAWN.of (id := 18) Z0 Z1 Z4 (by kernel_rfl) ?_ | refine DRAWN.of (id := 24) Z0 Z1 Z5 (by kernel_rfl) ?_ | refine DRAWN.of (id := 34) Z0 Z1 Z6 (by kernel_rfl) ?_ | refine DRAWN.of (id := 39) Z0 Z1 Z7 (by kernel_rfl) ?_) | refine ADD.mk (fun _ _ => ?_) | refine AD ?_ | refine FORK.mk ?_ ?_ | refine AU ?_ | (refine IW (fun h => ?_) (fun h => ?_) <;> try (exfalso; omega))) <;> conv => whnf)
       refine CALL.aA [5, 6] (Zp m1) ?_
       rintro r' O' nx' ⟨rfl, rfl, rfl⟩
       conv => whnf
       repeat' ((first | with_reducible refine IF.tt ?_ | with_reducible refine IF.ff ?_ | (show DRAWN _ _ _ _ _ _ _; first | refine DRAWN.of (id := 32) Z0 Z1 Z3 (by kernel_rfl) ?_ | refine DRAWN.of (id := 17) Z0 Z1 Z8 (by kernel_rfl) ?_ | refine DRAWN.of (id := 18) Z0 Z1 Z4 (by kernel_rfl) ?_ | refine DRAWN.of (id := 24) Z0 Z1 Z5 (by kernel_rfl) ?_ | refine DRAWN.of (id := 34) Z0 Z1 Z6 (by kernel_rfl) ?_ | refine DRAWN.of (id := 39) Z0 Z1 Z7 (by kernel_rfl) ?_) | refine ADD.mk (fun _ _ => ?_) | refine AD ?_ | refine FORK.mk ?_ ?_ | refine AU ?_ | (refine IW (fun h => ?_) (fun h => ?_) <;> try (exfalso; omega))) <;> conv => whnf)
       refine ⟨⟨i + 1, m0, m1, m2, p0, p1, p2, d0, d1, d2⟩, ⟨by dsimp only; omega, by dsimp only; omega, by dsimp only; omega, by dsimp only; omega, a0, a1, a2⟩, by dsimp only; omega, ?_⟩
       conv => whnf
       exact GOES.cA h0 (hbo := ZH q0 q1 q2)
     · repeat' ((first | with_reducible refine IF.tt ?_ | with_reducible refine IF.ff ?_ | (show DRAWN _ _ _ _ _ _ _; first | refine DRAWN.of (id := 32) Z0 Z1 Z3 (by kernel_rfl) ?_ | refine DRAWN.of (id := 17) Z0 Z1 Z8 (by kernel_rfl) ?_ | refine DRAWN.of (id := 18) Z0 Z1 Z4 (by kernel_rfl) ?_ | refine DRAWN.of (id := 24) Z0 Z1 Z5 (by kernel_rfl) ?_ | refine DRAWN.of (id := 34) Z0 Z1 Z6 (by kernel_rfl) ?_ | refine DRAWN.of (id := 39) Z0 Z1 Z7 (by kernel_rfl) ?_) | refine ADD.mk (fun _ _ => ?_) | refine AD ?_ | refine FORK.mk ?_ ?_ | refine AU ?_ | (refine IW (fun h => ?_) (fun h => ?_) <;> try (exfalso; omega))) <;> conv => whnf)
       refine CALL.aA [7, 8] (Yr m2 (by omega)) ?_
       rintro r' O' nx' ⟨rfl, rfl, rfl⟩
       simp only [ren, Zf _ (Z2 _)]
       conv => whnf
       repeat' ((first | with_reducible refine IF.tt ?_ | with_reducible refine IF.ff ?_ | (show DRAWN _ _ _ _ _ _ _; first | refine DRAWN.of (id := 32) Z0 Z1 Z3 (by kernel_rfl) ?_ | refine DRAWN.of (id := 17) Z0 Z1 Z8 (by kernel_rfl) ?_ | refine DRAWN.of (id := 18) Z0 Z1 Z4 (by kernel_rfl) ?_ | refine DRAWN.of (id := 24) Z0 Z1 Z5 (by kernel_rfl) ?_ | refine DRAWN.of (id := 34) Z0 Z1 Z6 (by kernel_rfl) ?_ | refine DRAWN.of (id := 39) Z0 Z1 Z7 (by kernel_rfl) ?_) | refine ADD.mk (fun _ _ => ?_) | refine AD ?_ | refine FORK.mk ?_ ?_ | refine AU ?_ | (refine IW (fun h => ?_) (fun h => ?_) <;> try (exfalso; omega))) <;> conv => whnf)
       have hrd := Xu m2 (by omega)
       refine CALL.look1 p2 hrd rfl ?_ rfl ?_ (Z2 _) (Z2 _) ?_
       · exact q2.ltn rfl
       · rcases a2 with ⟨rfl, rfl⟩ | ⟨rfl, rfl⟩ | ⟨rfl, rfl⟩ <;> rfl
       conv => whnf
       repeat' ((first | with_reducible refine IF.tt ?_ | with_reducible refine IF.ff ?_ | (refine NEED.mk (YS _) ?_; conv => whnf) | (refine IF.no (YT _) ?_; conv => whnf) | (show DRAWN _ _ _ _ _ _ _; first | refine DRAWN.of (id := 32) Z0 Z1 Z3 (by kernel_rfl) ?_ | refine DRAWN.of (id := 17) Z0 Z1 Z8 (by kernel_rfl) ?_ | refine DRAWN.of (id := 18) Z0 Z1 Z4 (by kernel_rfl) ?_ | refine DRAWN.of (id := 24) Z0 Z1 Z5 (by kernel_rfl) ?_ | refine DRAWN.of (id := 34) Z0 Z1 Z6 (by kernel_rfl) ?_ | refine DRAWN.of (id := 39) Z0 Z1 Z7 (by kernel_rfl) ?_) | refine ADD.mk (fun _ _ => ?_) | refine AD ?_ | refine FORK.mk ?_ ?_ | refine AU ?_ | (refine IW (fun h => ?_) (fun h => ?_) <;> try (exfalso; omega))) <;> conv => whnf)
       repeat' ((first | with_reducible refine IF.tt ?_ | with_reducible refine IF.ff ?_ | (show DRAWN _ _ _ _ _ _ _; first | refine DRAWN.of (id := 32) Z0 Z1 Z3 (by kernel_rfl) ?_ | refine DRAWN.of (id := 17) Z0 Z1 Z8 (by kernel_rfl) ?_ | refine DRAWN.of (id := 18) Z0 Z1 Z4 (by kernel_rfl) ?_ | refine DRAWN.of (id := 24) Z0 Z1 Z5 (by kernel_rfl) ?_ | refine DRAWN.of (id := 34) Z0 Z1 Z6 (by kernel_rfl) ?_ | refine DRAWN.of (id := 39) Z0 Z1 Z7 (by kernel_rfl) ?_) | refine ADD.mk (fun _ _ => ?_) | refine AD ?_ | refine FORK.mk ?_ ?_ | refine AU ?_ | (refine IW (fun h => ?_) (fun h => ?_) <;> try (exfalso; omega))) <;> conv => whnf)
       refine CALL.aA [7, 8] (Zp m2) ?_
       rintro r' O' nx' ⟨rfl, rfl, rfl⟩
       conv => whnf
       repeat' ((first | with_reducible refine IF.tt ?_ | with_reducible refine IF.ff ?_ | (show DRAWN _ _ _ _ _ _ _; first | refine DRAWN.of (id := 32) Z0 Z1 Z3 (by kernel_rfl) ?_ | refine DRAWN.of (id := 17) Z0 Z1 Z8 (by kernel_rfl) ?_ | refine DRAWN.of (id := 18) Z0 Z1 Z4 (by kernel_rfl) ?_ | refine DRAWN.of (id := 24) Z0 Z1 Z5 (by kernel_rfl) ?_ | refine DRAWN.of (id := 34) Z0 Z1 Z6 (by kernel_rfl) ?_ | refine DRAWN.of (id := 39) Z0 Z1 Z7 (by kernel_rfl) ?_) | refine ADD.mk (fun _ _ => ?_) | refine AD ?_ | refine FORK.mk ?_ ?_ | refine AU ?_ | (refine IW (fun h => ?_) (fun h => ?_) <;> try (exfalso; omega))) <;> conv => whnf)
       refine ⟨⟨i + 1, m0, m1, m2, p0, p1, p2, d0, d1, d2⟩, ⟨by dsimp only; omega, by dsimp only; omega, by dsimp only; omega, by dsimp only; omega, a0, a1, a2⟩, by dsimp only; omega, ?_⟩
       conv => whnf
       exact GOES.cA h0 (hbo := ZH q0 q1 q2)
   · have hk' : k = 0 ∨ k = 1 ∨ k = 2 := by omega
     rcases hk' with rfl | rfl | rfl
     · repeat' ((first | with_reducible refine IF.tt ?_ | with_reducible refine IF.ff ?_ | (show DRAWN _ _ _ _ _ _ _; first | refine DRAWN.of (id := 32) Z0 Z1 Z3 (by kernel_rfl) ?_ | refine DRAWN.of (id := 17) Z0 Z1 Z8 (by kernel_rfl) ?_ | refine DRAWN.of (id := 18) Z0 Z1 Z4 (by kernel_rfl) ?_ | refine DRAWN.of (id := 24) Z0 Z1 Z5 (by kernel_rfl) ?_ | refine DRAWN.of (id := 34) Z0 Z1 Z6 (by kernel_rfl) ?_ | refine DRAWN.of (id := 39) Z0 Z1 Z7 (by kernel_rfl) ?_) | refine ADD.mk (fun _ _ => ?_) | refine AD ?_ | refine FORK.mk ?_ ?_ | refine AU ?_ | (refine IW (fun h => ?_) (fun h => ?_) <;> try (exfalso; omega))) <;> conv => whnf)
       refine CALL.aA [3, 4] (Zp m0) ?_
       rintro r' O' nx' ⟨rfl, rfl, rfl⟩
       conv => whnf
       repeat' ((first | with_reducible refine IF.tt ?_ | with_reducible refine IF.ff ?_ | (show DRAWN _ _ _ _ _ _ _; first | refine DRAWN.of (id := 32) Z0 Z1 Z3 (by kernel_rfl) ?_ | refine DRAWN.of (id := 17) Z0 Z1 Z8 (by kernel_rfl) ?_ | refine DRAWN.of (id := 18) Z0 Z1 Z4 (by kernel_rfl) ?_ | refine DRAWN.of (id := 24) Z0 Z1 Z5 (by kernel_rfl) ?_ | refine DRAWN.of (id := 34) Z0 Z1 Z6 (by kernel_rfl) ?_ | refine DRAWN.of (id := 39) Z0 Z1 Z7 (by kernel_rfl) ?_) | refine ADD.mk (fun _ _ => ?_) | refine AD ?_ | refine FORK.mk ?_ ?_ | refine AU ?_ | (refine IW (fun h => ?_) (fun h => ?_) <;> try (exfalso; omega))) <;> conv => whnf)
       refine ⟨⟨i + 1, m0, m1, m2, p0, p1, p2, d0, d1, d2⟩, ⟨by dsimp only; omega, by dsimp only; omega, by dsimp only; omega, by dsimp only; omega, a0, a1, a2⟩, by dsimp only; omega, ?_⟩
       conv => whnf
       exact GOES.cA h0 (hbo := ZH q0 q1 q2)
     · repeat' ((first | with_reducible refine IF.tt ?_ | with_reducible refine IF.ff ?_ | (show DRAWN _ _ _ _ _ _ _; first | refine DRAWN.of (id := 32) Z0 Z1 Z3 (by kernel_rfl) ?_ | refine DRAWN.of (id := 17) Z0 Z1 Z8 (by kernel_rfl) ?_ | refine DRAWN.of (id := 18) Z0 Z1 Z4 (by kernel_rfl) ?_ | refine DRAWN.of (id := 24) Z0 Z1 Z5 (by kernel_rfl) ?_ | refine DRAWN.of (id := 34) Z0 Z1 Z6 (by kernel_rfl) ?_ | refine DRAWN.of (id := 39) Z0 Z1 Z7 (by kernel_rfl) ?_) | refine ADD.mk (fun _ _ => ?_) | refine AD ?_ | refine FORK.mk ?_ ?_ | refine AU ?_ | (refine IW (fun h => ?_) (fun h => ?_) <;> try (exfalso; omega))) <;> conv => whnf)
       refine CALL.aA [5, 6] (Zp m1) ?_
       rintro r' O' nx' ⟨rfl, rfl, rfl⟩
       conv => whnf
       repeat' ((first | with_reducible refine IF.tt ?_ | with_reducible refine IF.ff ?_ | (show DRAWN _ _ _ _ _ _ _; first | refine DRAWN.of (id := 32) Z0 Z1 Z3 (by kernel_rfl) ?_ | refine DRAWN.of (id := 17) Z0 Z1 Z8 (by kernel_rfl) ?_ | refine DRAWN.of (id := 18) Z0 Z1 Z4 (by kernel_rfl) ?_ | refine DRAWN.of (id := 24) Z0 Z1 Z5 (by kernel_rfl) ?_ | refine DRAWN.of (id := 34) Z0 Z1 Z6 (by kernel_rfl) ?_ | refine DRAWN.of (id := 39) Z0 Z1 Z7 (by kernel_rfl) ?_) | refine ADD.mk (fun _ _ => ?_) | refine AD ?_ | refine FORK.mk ?_ ?_ | refine AU ?_ | (refine IW (fun h => ?_) (fun h => ?_) <;> try (exfalso; omega))) <;> conv => whnf)
       refine ⟨⟨i + 1, m0, m1, m2, p0, p1, p2, d0, d1, d2⟩, ⟨by dsimp only; omega, by dsimp only; omega, by dsimp only; omega, by dsimp only; omega, a0, a1, a2⟩, by dsimp only; omega, ?_⟩
       conv => whnf
       exact GOES.cA h0 (hbo := ZH q0 q1 q2)
     · repeat' ((first | with_reducible refine IF.tt ?_ | with_reducible refine IF.ff ?_ | (show DRAWN _ _ _ _ _ _ _; first | refine DRAWN.of (id := 32) Z0 Z1 Z3 (by kernel_rfl) ?_ | refine DRAWN.of (id := 17) Z0 Z1 Z8 (by kernel_rfl) ?_ | refine DRAWN.of (id := 18) Z0 Z1 Z4 (by kernel_rfl) ?_ | refine DRAWN.of (id := 24) Z0 Z1 Z5 (by kernel_rfl) ?_ | refine DRAWN.of (id := 34) Z0 Z1 Z6 (by kernel_rfl) ?_ | refine DRAWN.of (id := 39) Z0 Z1 Z7 (by kernel_rfl) ?_) | refine ADD.mk (fun _ _ => ?_) | refine AD ?_ | refine FORK.mk ?_ ?_ | refine AU ?_ | (refine IW (fun h => ?_) (fun h => ?_) <;> try (exfalso; omega))) <;> conv => whnf)
       refine CALL.aA [7, 8] (Zp m2) ?_
       rintro r' O' nx' ⟨rfl, rfl, rfl⟩
       conv => whnf
       repeat' ((first | with_reducible refine IF.tt ?_ | with_reducible refine IF.ff ?_ | (show DRAWN _ _ _ _ _ _ _; first | refine DRAWN.of (id := 32) Z0 Z1 Z3 (by kernel_rfl) ?_ | refine DRAWN.of (id := 17) Z0 Z1 Z8 (by kernel_rfl) ?_ | refine DRAWN.of (id := 18) Z0 Z1 Z4 (by kernel_rfl) ?_ | refine DRAWN.of (id := 24) Z0 Z1 Z5 (by kernel_rfl) ?_ | refine DRAWN.of (id := 34) Z0 Z1 Z6 (by kernel_rfl) ?_ | refine DRAWN.of (id := 39) Z0 Z1 Z7 (by kernel_rfl) ?_) | refine ADD.mk (fun _ _ => ?_) | refine AD ?_ | refine FORK.mk ?_ ?_ | refine AU ?_ | (refine IW (fun h => ?_) (fun h => ?_) <;> try (exfalso; omega))) <;> conv => whnf)
       refine ⟨⟨i + 1, m0, m1, m2, p0, p1, p2, d0, d1, d2⟩, ⟨by dsimp only; omega, by dsimp only; omega, by dsimp only; omega, by dsimp only; omega, a0, a1, a2⟩, by dsimp only; omega, ?_⟩
       conv => whnf
       exact GOES.cA h0 (hbo := ZH q0 q1 q2)
 · have hB := Z3n ops hi
   have hb0 : m0.length ≤ 1048576 := by omega
   have hb1 : m1.length ≤ 1048576 := by omega
   have hb2 : m2.length ≤ 1048576 := by omega
   clear hG
   conv => whnf
   repeat' ((first | with_reducible refine IF.tt ?_ | with_reducible refine IF.ff ?_ | refine AU ?_ | (refine IW (fun h => ?_) (fun h => ?_) <;> try (exfalso; omega))) <;> conv => whnf)
   refine LOOP.once Z0 ?_
   conv => whnf
   repeat' ((first | with_reducible refine IF.tt ?_ | with_reducible refine IF.ff ?_ | (show DRAWN _ _ _ _ _ _ _; first | refine DRAWN.of (id := 32) Z0 Z1 Z3 (by kernel_rfl) ?_ | refine DRAWN.of (id := 17) Z0 Z1 Z8 (by kernel_rfl) ?_ | refine DRAWN.of (id := 18) Z0 Z1 Z4 (by kernel_rfl) ?_ | refine DRAWN.of (id := 24) Z0 Z1 Z5 (by kernel_rfl) ?_ | refine DRAWN.of (id := 34) Z0 Z1 Z6 (by kernel_rfl) ?_ | refine DRAWN.of (id := 39) Z0 Z1 Z7 (by kernel_rfl) ?_) | refine ADD.mk (fun _ _ => ?_) | refine AD ?_ | refine FORK.mk ?_ ?_ | refine AU ?_ | (refine IW (fun h => ?_) (fun h => ?_) <;> try (exfalso; omega))) <;> conv => whnf)
   refine CALL.aA [3, 4] (Yr m0 (by omega)) ?_
   rintro r' O' nx' ⟨rfl, rfl, rfl⟩
   simp only [ren, Zf _ (Z2 _)]
   conv => whnf
   repeat' ((first | with_reducible refine IF.tt ?_ | with_reducible refine IF.ff ?_ | (show DRAWN _ _ _ _ _ _ _; first | refine DRAWN.of (id := 32) Z0 Z1 Z3 (by kernel_rfl) ?_ | refine DRAWN.of (id := 17) Z0 Z1 Z8 (by kernel_rfl) ?_ | refine DRAWN.of (id := 18) Z0 Z1 Z4 (by kernel_rfl) ?_ | refine DRAWN.of (id := 24) Z0 Z1 Z5 (by kernel_rfl) ?_ | refine DRAWN.of (id := 34) Z0 Z1 Z6 (by kernel_rfl) ?_ | refine DRAWN.of (id := 39) Z0 Z1 Z7 (by kernel_rfl) ?_) | refine ADD.mk (fun _ _ => ?_) | refine AD ?_ | refine FORK.mk ?_ ?_ | refine AU ?_ | (refine IW (fun h => ?_) (fun h => ?_) <;> try (exfalso; omega))) <;> conv => whnf)
   have hrd := Xu m0 (by omega)
   refine CALL.look1 p0 hrd rfl ?_ rfl ?_ (Z2 _) (Z2 _) ?_
   · exact q0.ltn rfl
   · rcases a0 with ⟨rfl, rfl⟩ | ⟨rfl, rfl⟩ | ⟨rfl, rfl⟩ <;> rfl
   conv => whnf
   repeat' ((first | with_reducible refine IF.tt ?_ | with_reducible refine IF.ff ?_ | (refine NEED.mk (YS _) ?_; conv => whnf) | (refine IF.no (YT _) ?_; conv => whnf) | (show DRAWN _ _ _ _ _ _ _; first | refine DRAWN.of (id := 32) Z0 Z1 Z3 (by kernel_rfl) ?_ | refine DRAWN.of (id := 17) Z0 Z1 Z8 (by kernel_rfl) ?_ | refine DRAWN.of (id := 18) Z0 Z1 Z4 (by kernel_rfl) ?_ | refine DRAWN.of (id := 24) Z0 Z1 Z5 (by kernel_rfl) ?_ | refine DRAWN.of (id := 34) Z0 Z1 Z6 (by kernel_rfl) ?_ | refine DRAWN.of (id := 39) Z0 Z1 Z7 (by kernel_rfl) ?_) | refine ADD.mk (fun _ _ => ?_) | refine AD ?_ | refine FORK.mk ?_ ?_ | refine AU ?_ | (refine IW (fun h => ?_) (fun h => ?_) <;> try (exfalso; omega))) <;> conv => whnf)
   refine CALL.aA [3, 4] (Yr m0 (by omega)) ?_
   rintro r' O' nx' ⟨rfl, rfl, rfl⟩
   simp only [ren, Zf _ (Z2 _)]
   conv => whnf
   repeat' ((first | with_reducible refine IF.tt ?_ | with_reducible refine IF.ff ?_ | (show DRAWN _ _ _ _ _ _ _; first | refine DRAWN.of (id := 32) Z0 Z1 Z3 (by kernel_rfl) ?_ | refine DRAWN.of (id := 17) Z0 Z1 Z8 (by kernel_rfl) ?_ | refine DRAWN.of (id := 18) Z0 Z1 Z4 (by kernel_rfl) ?_ | refine DRAWN.of (id := 24) Z0 Z1 Z5 (by kernel_rfl) ?_ | refine DRAWN.of (id := 34) Z0 Z1 Z6 (by kernel_rfl) ?_ | refine DRAWN.of (id := 39) Z0 Z1 Z7 (by kernel_rfl) ?_) | refine ADD.mk (fun _ _ => ?_) | refine AD ?_ | refine FORK.mk ?_ ?_ | refine AU ?_ | (refine IW (fun h => ?_) (fun h => ?_) <;> try (exfalso; omega))) <;> conv => whnf)
   have hsd := UF m0 (by omega)
   refine CALL.look1 p0 hsd rfl ?_ rfl ?_ (Z2 _) (Z2 _) ?_
   · exact q0.ltn rfl
   · rcases a0 with ⟨rfl, rfl⟩ | ⟨rfl, rfl⟩ | ⟨rfl, rfl⟩ <;> rfl
   conv => whnf
   repeat' ((first | with_reducible refine IF.tt ?_ | with_reducible refine IF.ff ?_ | (refine NEED.mk (YS _) ?_; conv => whnf) | (refine IF.no (YT _) ?_; conv => whnf) | (show DRAWN _ _ _ _ _ _ _; first | refine DRAWN.of (id := 32) Z0 Z1 Z3 (by kernel_rfl) ?_ | refine DRAWN.of (id := 17) Z0 Z1 Z8 (by kernel_rfl) ?_ | refine DRAWN.of (id := 18) Z0 Z1 Z4 (by kernel_rfl) ?_ | refine DRAWN.of (id := 24) Z0 Z1 Z5 (by kernel_rfl) ?_ | refine DRAWN.of (id := 34) Z0 Z1 Z6 (by kernel_rfl) ?_ | refine DRAWN.of (id := 39) Z0 Z1 Z7 (by kernel_rfl) ?_) | refine ADD.mk (fun _ _ => ?_) | refine AD ?_ | refine FORK.mk ?_ ?_ | refine AU ?_ | (refine IW (fun h => ?_) (fun h => ?_) <;> try (exfalso; omega))) <;> conv => whnf)
   refine CALL.aA [3, 4] (Zp m0) ?_
   rintro r' O' nx' ⟨rfl, rfl, rfl⟩
   conv => whnf
   repeat' ((first | with_reducible refine IF.tt ?_ | with_reducible refine IF.ff ?_ | (show DRAWN _ _ _ _ _ _ _; first | refine DRAWN.of (id := 32) Z0 Z1 Z3 (by kernel_rfl) ?_ | refine DRAWN.of (id := 17) Z0 Z1 Z8 (by kernel_rfl) ?_ | refine DRAWN.of (id := 18) Z0 Z1 Z4 (by kernel_rfl) ?_ | refine DRAWN.of (id := 24) Z0 Z1 Z5 (by kernel_rfl) ?_ | refine DRAWN.of (id := 34) Z0 Z1 Z6 (by kernel_rfl) ?_ | refine DRAWN.of (id := 39) Z0 Z1 Z7 (by kernel_rfl) ?_) | refine ADD.mk (fun _ _ => ?_) | refine AD ?_ | refine FORK.mk ?_ ?_ | refine AU ?_ | (refine IW (fun h => ?_) (fun h => ?_) <;> try (exfalso; omega))) <;> conv => whnf)
   clear hrd hsd
   refine LOOP.once Z0 ?_
   conv => whnf
   repeat' ((first | with_reducible refine IF.tt ?_ | with_reducible refine IF.ff ?_ | (show DRAWN _ _ _ _ _ _ _; first | refine DRAWN.of (id := 32) Z0 Z1 Z3 (by kernel_rfl) ?_ | refine DRAWN.of (id := 17) Z0 Z1 Z8 (by kernel_rfl) ?_ | refine DRAWN.of (id := 18) Z0 Z1 Z4 (by kernel_rfl) ?_ | refine DRAWN.of (id := 24) Z0 Z1 Z5 (by kernel_rfl) ?_ | refine DRAWN.of (id := 34) Z0 Z1 Z6 (by kernel_rfl) ?_ | refine DRAWN.of (id := 39) Z0 Z1 Z7 (by kernel_rfl) ?_) | refine ADD.mk (fun _ _ => ?_) | refine AD ?_ | refine FORK.mk ?_ ?_ | refine AU ?_ | (refine IW (fun h => ?_) (fun h => ?_) <;> try (exfalso; omega))) <;> conv => whnf)
   refine CALL.aA [5, 6] (Yr m1 (by omega)) ?_
   rintro r' O' nx' ⟨rfl, rfl, rfl⟩
   simp only [ren, Zf _ (Z2 _)]
   conv => whnf
   repeat' ((first | with_reducible refine IF.tt ?_ | with_reducible refine IF.ff ?_ | (show DRAWN _ _ _ _ _ _ _; first | refine DRAWN.of (id := 32) Z0 Z1 Z3 (by kernel_rfl) ?_ | refine DRAWN.of (id := 17) Z0 Z1 Z8 (by kernel_rfl) ?_ | refine DRAWN.of (id := 18) Z0 Z1 Z4 (by kernel_rfl) ?_ | refine DRAWN.of (id := 24) Z0 Z1 Z5 (by kernel_rfl) ?_ | refine DRAWN.of (id := 34) Z0 Z1 Z6 (by kernel_rfl) ?_ | refine DRAWN.of (id := 39) Z0 Z1 Z7 (by kernel_rfl) ?_) | refine ADD.mk (fun _ _ => ?_) | refine AD ?_ | refine FORK.mk ?_ ?_ | refine AU ?_ | (refine IW (fun h => ?_) (fun h => ?_) <;> try (exfalso; omega))) <;> conv => whnf)
   have hrd := Xu m1 (by omega)
   refine CALL.look1 p1 hrd rfl ?_ rfl ?_ (Z2 _) (Z2 _) ?_
   · exact q1.ltn rfl
   · rcases a1 with ⟨rfl, rfl⟩ | ⟨rfl, rfl⟩ | ⟨rfl, rfl⟩ <;> rfl
   conv => whnf
   repeat' ((first | with_reducible refine IF.tt ?_ | with_reducible refine IF.ff ?_ | (refine NEED.mk (YS _) ?_; conv => whnf) | (refine IF.no (YT _) ?_; conv => whnf) | (show DRAWN _ _ _ _ _ _ _; first | refine DRAWN.of (id := 32) Z0 Z1 Z3 (by kernel_rfl) ?_ | refine DRAWN.of (id := 17) Z0 Z1 Z8 (by kernel_rfl) ?_ | refine DRAWN.of (id := 18) Z0 Z1 Z4 (by kernel_rfl) ?_ | refine DRAWN.of (id := 24) Z0 Z1 Z5 (by kernel_rfl) ?_ | refine DRAWN.of (id := 34) Z0 Z1 Z6 (by kernel_rfl) ?_ | refine DRAWN.of (id := 39) Z0 Z1 Z7 (by kernel_rfl) ?_) | refine ADD.mk (fun _ _ => ?_) | refine AD ?_ | refine FORK.mk ?_ ?_ | refine AU ?_ | (refine IW (fun h => ?_) (fun h => ?_) <;> try (exfalso; omega))) <;> conv => whnf)
   refine CALL.aA [5, 6] (Yr m1 (by omega)) ?_
   rintro r' O' nx' ⟨rfl, rfl, rfl⟩
   simp only [ren, Zf _ (Z2 _)]
   conv => whnf
   repeat' ((first | with_reducible refine IF.tt ?_ | with_reducible refine IF.ff ?_ | (show DRAWN _ _ _ _ _ _ _; first | refine DRAWN.of (id := 32) Z0 Z1 Z3 (by kernel_rfl) ?_ | refine DRAWN.of (id := 17) Z0 Z1 Z8 (by kernel_rfl) ?_ | refine DRAWN.of (id := 18) Z0 Z1 Z4 (by kernel_rfl) ?_ | refine DRAWN.of (id := 24) Z0 Z1 Z5 (by kernel_rfl) ?_ | refine DRAWN.of (id := 34) Z0 Z1 Z6 (by kernel_rfl) ?_ | refine DRAWN.of (id := 39) Z0 Z1 Z7 (by kernel_rfl) ?_) | refine ADD.mk (fun _ _ => ?_) | refine AD ?_ | refine FORK.mk ?_ ?_ | refine AU ?_ | (refine IW (fun h => ?_) (fun h => ?_) <;> try (exfalso; omega))) <;> conv => whnf)
   have hsd := UF m1 (by omega)
   refine CALL.look1 p1 hsd rfl ?_ rfl ?_ (Z2 _) (Z2 _) ?_
   · exact q1.ltn rfl
   · rcases a1 with ⟨rfl, rfl⟩ | ⟨rfl, rfl⟩ | ⟨rfl, rfl⟩ <;> rfl
   conv => whnf
   repeat' ((first | with_reducible refine IF.tt ?_ | with_reducible refine IF.ff ?_ | (refine NEED.mk (YS _) ?_; conv => whnf) | (refine IF.no (YT _) ?_; conv => whnf) | (show DRAWN _ _ _ _ _ _ _; first | refine DRAWN.of (id := 32) Z0 Z1 Z3 (by kernel_rfl) ?_ | refine DRAWN.of (id := 17) Z0 Z1 Z8 (by kernel_rfl) ?_ | refine DRAWN.of (id := 18) Z0 Z1 Z4 (by kernel_rfl) ?_ | refine DRAWN.of (id := 24) Z0 Z1 Z5 (by kernel_rfl) ?_ | refine DRAWN.of (id := 34) Z0 Z1 Z6 (by kernel_rfl) ?_ | refine DRAWN.of (id := 39) Z0 Z1 Z7 (by kernel_rfl) ?_) | refine ADD.mk (fun _ _ => ?_) | refine AD ?_ | refine FORK.mk ?_ ?_ | refine AU ?_ | (refine IW (fun h => ?_) (fun h => ?_) <;> try (exfalso; omega))) <;> conv => whnf)
   refine CALL.aA [5, 6] (Zp m1) ?_
   rintro r' O' nx' ⟨rfl, rfl, rfl⟩
   conv => whnf
   repeat' ((first | with_reducible refine IF.tt ?_ | with_reducible refine IF.ff ?_ | (show DRAWN _ _ _ _ _ _ _; first | refine DRAWN.of (id := 32) Z0 Z1 Z3 (by kernel_rfl) ?_ | refine DRAWN.of (id := 17) Z0 Z1 Z8 (by kernel_rfl) ?_ | refine DRAWN.of (id := 18) Z0 Z1 Z4 (by kernel_rfl) ?_ | refine DRAWN.of (id := 24) Z0 Z1 Z5 (by kernel_rfl) ?_ | refine DRAWN.of (id := 34) Z0 Z1 Z6 (by kernel_rfl) ?_ | refine DRAWN.of (id := 39) Z0 Z1 Z7 (by kernel_rfl) ?_) | refine ADD.mk (fun _ _ => ?_) | refine AD ?_ | refine FORK.mk ?_ ?_ | refine AU ?_ | (refine IW (fun h => ?_) (fun h => ?_) <;> try (exfalso; omega))) <;> conv => whnf)
   clear hrd hsd
   refine LOOP.once Z0 ?_
   conv => whnf
   repeat' ((first | with_reducible refine IF.tt ?_ | with_reducible refine IF.ff ?_ | (show DRAWN _ _ _ _ _ _ _; first | refine DRAWN.of (id := 32) Z0 Z1 Z3 (by kernel_rfl) ?_ | refine DRAWN.of (id := 17) Z0 Z1 Z8 (by kernel_rfl) ?_ | refine DRAWN.of (id := 18) Z0 Z1 Z4 (by kernel_rfl) ?_ | refine DRAWN.of (id := 24) Z0 Z1 Z5 (by kernel_rfl) ?_ | refine DRAWN.of (id := 34) Z0 Z1 Z6 (by kernel_rfl) ?_ | refine DRAWN.of (id := 39) Z0 Z1 Z7 (by kernel_rfl) ?_) | refine ADD.mk (fun _ _ => ?_) | refine AD ?_ | refine FORK.mk ?_ ?_ | refine AU ?_ | (refine IW (fun h => ?_) (fun h => ?_) <;> try (exfalso; omega))) <;> conv => whnf)
   refine CALL.aA [7, 8] (Yr m2 (by omega)) ?_
   rintro r' O' nx' ⟨rfl, rfl, rfl⟩
   simp only [ren, Zf _ (Z2 _)]
   conv => whnf
   repeat' ((first | with_reducible refine IF.tt ?_ | with_reducible refine IF.ff ?_ | (show DRAWN _ _ _ _ _ _ _; first | refine DRAWN.of (id := 32) Z0 Z1 Z3 (by kernel_rfl) ?_ | refine DRAWN.of (id := 17) Z0 Z1 Z8 (by kernel_rfl) ?_ | refine DRAWN.of (id := 18) Z0 Z1 Z4 (by kernel_rfl) ?_ | refine DRAWN.of (id := 24) Z0 Z1 Z5 (by kernel_rfl) ?_ | refine DRAWN.of (id := 34) Z0 Z1 Z6 (by kernel_rfl) ?_ | refine DRAWN.of (id := 39) Z0 Z1 Z7 (by kernel_rfl) ?_) | refine ADD.mk (fun _ _ => ?_) | refine AD ?_ | refine FORK.mk ?_ ?_ | refine AU ?_ | (refine IW (fun h => ?_) (fun h => ?_) <;> try (exfalso; omega))) <;> conv => whnf)
   have hrd := Xu m2 (by omega)
   refine CALL.look1 p2 hrd rfl ?_ rfl ?_ (Z2 _) (Z2 _) ?_
   · exact q2.ltn rfl
   · rcases a2 with ⟨rfl, rfl⟩ | ⟨rfl, rfl⟩ | ⟨rfl, rfl⟩ <;> rfl
   conv => whnf
   repeat' ((first | with_reducible refine IF.tt ?_ | with_reducible refine IF.ff ?_ | (refine NEED.mk (YS _) ?_; conv => whnf) | (refine IF.no (YT _) ?_; conv => whnf) | (show DRAWN _ _ _ _ _ _ _; first | refine DRAWN.of (id := 32) Z0 Z1 Z3 (by kernel_rfl) ?_ | refine DRAWN.of (id := 17) Z0 Z1 Z8 (by kernel_rfl) ?_ | refine DRAWN.of (id := 18) Z0 Z1 Z4 (by kernel_rfl) ?_ | refine DRAWN.of (id := 24) Z0 Z1 Z5 (by kernel_rfl) ?_ | refine DRAWN.of (id := 34) Z0 Z1 Z6 (by kernel_rfl) ?_ | refine DRAWN.of (id := 39) Z0 Z1 Z7 (by kernel_rfl) ?_) | refine ADD.mk (fun _ _ => ?_) | refine AD ?_ | refine FORK.mk ?_ ?_ | refine AU ?_ | (refine IW (fun h => ?_) (fun h => ?_) <;> try (exfalso; omega))) <;> conv => whnf)
   refine CALL.aA [7, 8] (Yr m2 (by omega)) ?_
   rintro r' O' nx' ⟨rfl, rfl, rfl⟩
   simp only [ren, Zf _ (Z2 _)]
   conv => whnf
   repeat' ((first | with_reducible refine IF.tt ?_ | with_reducible refine IF.ff ?_ | (show DRAWN _ _ _ _ _ _ _; first | refine DRAWN.of (id := 32) Z0 Z1 Z3 (by kernel_rfl) ?_ | refine DRAWN.of (id := 17) Z0 Z1 Z8 (by kernel_rfl) ?_ | refine DRAWN.of (id := 18) Z0 Z1 Z4 (by kernel_rfl) ?_ | refine DRAWN.of (id := 24) Z0 Z1 Z5 (by kernel_rfl) ?_ | refine DRAWN.of (id := 34) Z0 Z1 Z6 (by kernel_rfl) ?_ | refine DRAWN.of (id := 39) Z0 Z1 Z7 (by kernel_rfl) ?_) | refine ADD.mk (fun _ _ => ?_) | refine AD ?_ | refine FORK.mk ?_ ?_ | refine AU ?_ | (refine IW (fun h => ?_) (fun h => ?_) <;> try (exfalso; omega))) <;> conv => whnf)
   have hsd := UF m2 (by omega)
   refine CALL.look1 p2 hsd rfl ?_ rfl ?_ (Z2 _) (Z2 _) ?_
   · exact q2.ltn rfl
   · rcases a2 with ⟨rfl, rfl⟩ | ⟨rfl, rfl⟩ | ⟨rfl, rfl⟩ <;> rfl
   conv => whnf
   repeat' ((first | with_reducible refine IF.tt ?_ | with_reducible refine IF.ff ?_ | (refine NEED.mk (YS _) ?_; conv => whnf) | (refine IF.no (YT _) ?_; conv => whnf) | (show DRAWN _ _ _ _ _ _ _; first | refine DRAWN.of (id := 32) Z0 Z1 Z3 (by kernel_rfl) ?_ | refine DRAWN.of (id := 17) Z0 Z1 Z8 (by kernel_rfl) ?_ | refine DRAWN.of (id := 18) Z0 Z1 Z4 (by kernel_rfl) ?_ | refine DRAWN.of (id := 24) Z0 Z1 Z5 (by kernel_rfl) ?_ | refine DRAWN.of (id := 34) Z0 Z1 Z6 (by kernel_rfl) ?_ | refine DRAWN.of (id := 39) Z0 Z1 Z7 (by kernel_rfl) ?_) | refine ADD.mk (fun _ _ => ?_) | refine AD ?_ | refine FORK.mk ?_ ?_ | refine AU ?_ | (refine IW (fun h => ?_) (fun h => ?_) <;> try (exfalso; omega))) <;> conv => whnf)
   refine CALL.aA [7, 8] (Zp m2) ?_
   rintro r' O' nx' ⟨rfl, rfl, rfl⟩
   conv => whnf
   repeat' ((first | with_reducible refine IF.tt ?_ | with_reducible refine IF.ff ?_ | (show DRAWN _ _ _ _ _ _ _; first | refine DRAWN.of (id := 32) Z0 Z1 Z3 (by kernel_rfl) ?_ | refine DRAWN.of (id := 17) Z0 Z1 Z8 (by kernel_rfl) ?_ | refine DRAWN.of (id := 18) Z0 Z1 Z4 (by kernel_rfl) ?_ | refine DRAWN.of (id := 24) Z0 Z1 Z5 (by kernel_rfl) ?_ | refine DRAWN.of (id := 34) Z0 Z1 Z6 (by kernel_rfl) ?_ | refine DRAWN.of (id := 39) Z0 Z1 Z7 (by kernel_rfl) ?_) | refine ADD.mk (fun _ _ => ?_) | refine AD ?_ | refine FORK.mk ?_ ?_ | refine AU ?_ | (refine IW (fun h => ?_) (fun h => ?_) <;> try (exfalso; omega))) <;> conv => whnf)
   clear hrd hsd
   refine LOOP.once Z0 ?_
   conv => whnf
   repeat' ((first | with_reducible refine IF.tt ?_ | with_reducible refine IF.ff ?_ | refine AU ?_ | (refine IW (fun h => ?_) (fun h => ?_) <;> try (exfalso; omega))) <;> conv => whnf)
   exact FIN.valueK h0 rfl rfl
end Go.Proofs.YtgjnlngljmfefaaDoor
