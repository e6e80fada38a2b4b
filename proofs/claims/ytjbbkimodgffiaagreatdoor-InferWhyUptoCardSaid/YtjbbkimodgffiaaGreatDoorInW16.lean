/- Part 16: Sets1, Sets2, Find7, Over7. Conditions: as each part says. -/
import Derived.Test.YtjbbkimodgffiaaGreatDoorInW9
set_option linter.unusedVariables false
set_option linter.unusedSimpArgs false
set_option maxRecDepth 20000
set_option maxHeartbeats 8000000
namespace Go.Proofs.YtjbbkimodgffiaaGreatDoor
open Go.Sx Go.Our Go.Sort Go.Shelf
abbrev Zfv (l : List Tm) : Prop := l.length * 224 ≤ 140737488351232
theorem Z7I (l z : List Qd) (lim : Option Nat) (hl : l.length * 224 ≤ 140741783322624) : Does Tryz.prog tab 74 1 [.sl (.loc 0) 0 16 l.length lim] [] [(0, .rows 16 ((l ++ z).map Zf))]
   (fun r O nx => r = .sl (.loc 1) 0 16 l.length none ∧ O = [(1, .rows 16 (l.map Zf))] ∧ nx = 2) := by
 refine Does.enter Z2 (g := 74) (fn := Tryz.f74) Tryz.call74 Tryz.func74 rfl 8 rfl rfl [.tmp 2] rfl ?_
 intro w0 F η0 h0
 conv => whnf
 repeat' ((first | (rw [Z5T]; conv => whnf) | (refine NEED.mk (Jf 224 rfl rfl (by simp) (by simp) (by omega)) ?_; conv => whnf) | refine AU ?_ | ((with_reducible refine UNK.mk (fun h => ?_) ?_) <;> try (exfalso; omega)) | (refine IW (fun h => ?_) (fun h => ?_) <;> try (exfalso; omega))) <;> conv => whnf)
 · have : l = [] := List.length_eq_zero_iff.1 h
   subst this
   refine FIN.nil 16 ?_
   exact FIN.rows h0 1 16 0 rfl rfl rfl rfl ⟨rfl, rfl, rfl⟩
 · rw [Nat.zero_add]
   exact FIN.rows h0 2 16 l.length rfl rfl rfl (Zc _) ⟨rfl, rfl, rfl⟩
abbrev strU (s : List UInt8) : Value := .string ⟨s.toArray⟩
instance : Inhabited Tm := ⟨Zy⟩
instance : Inhabited Qd := ⟨Jk⟩
end Go.Proofs.YtjbbkimodgffiaaGreatDoor
namespace Go.Proofs.YtjbbkimodgffiaaGreatDoor
open Go.Sx Go.Our
def Z8T : Plan := (Zj [(0, 1), (1, 1), (2, 1), (3, 1), (4, 1), (5, 1), (6, 1), (7, 1), (8, 2), (9, 2), (10, 3), (11, 1), (12, 1)])
def Z8U : Plan := (Zj [(0, 1), (1, 1), (2, 1), (3, 1), (4, 1), (5, 1), (6, 1), (7, 1), (8, 1), (13, 1), (9, 2), (10, 2), (11, 1), (12, 1), (14, 1)])
def Z8V : Plan := (Zj [(0, 1), (1, 1), (2, 1), (3, 1), (4, 2), (5, 2), (6, 3), (7, 1)])
def Z8W : Plan := (Zj [(0, 1), (1, 1), (2, 1), (3, 1), (4, 1), (5, 1), (6, 1), (7, 1), (8, 1), (9, 2), (10, 2), (11, 3), (12, 1), (13, 1), (14, 1), (15, 1)])
theorem Z47 {l z : List Qd} {i : Nat} {k : Nat} (h : i < l.length) (e : k = i) : ((l ++ z).map Zf)[k]? = some (Zf l[i]) := by subst e; exact YW h
theorem Z52 {l : List Qd} {q : Qd} {n : Nat} (hn : n = placeM Zw l q) : Z06 Zw l q = if h : n < l.length then decide (l[n] = q) else false := by
 subst hn
 unfold Z06
 split
 · rename_i h
   rw [List.getElem?_eq_getElem h]
   simp
 · rename_i h
   rw [List.getElem?_eq_none (by omega)]
   simp
theorem Z3a (l z : List Qd) (q : Qd) (lim : Option Nat) (hz : (l ++ z).length * 224 ≤ 281474976710656) : Does Tryz.prog tab 16 1 [.sl (.loc 0) 0 16 l.length lim, .agg (Zf q)] [] [(0, .rows 16 ((l ++ z).map Zf))]
   (fun r O nx => ∃ n b, (Rise Zw l → n = placeM Zw l q ∧ b = Z06 Zw l q) ∧ r = .tup [.int .i64 (n : Nat), .bool b] ∧ O = [] ∧ nx = 1) := by
 have hz1 : (l ++ z).length = l.length + z.length := List.length_append
 refine Does.enter Z2 (g := 16) (fn := Tryz.f16) Tryz.call16 Tryz.func16 rfl 35 rfl rfl [.tmp 4, .tmp 5] rfl ?_
 intro w0 F η0 h0
 conv => whnf
 repeat' ((first | refine AU ?_ | (refine IW (fun h => ?_) (fun h => ?_) <;> try (exfalso; omega))) <;> conv => whnf)
 refine LOOP.go Z2 [0, 3] (X := Nat) (fun n => n ≤ l.length ∧ ∀ k (hk : k < l.length), k < n → Zw l[k] q < 0) (fun n => [(6, .int .i64 (n : Int))]) (fun n => [(1, .box (Zf q))]) 2 (fun n => l.length - n) 0 ⟨by omega, fun k _ h => by omega⟩ ?_
 conv => whnf
 refine ⟨by (refine GOES.cutting h0 rfl rfl rfl (by first | rfl | (simp only [Z7, Z3, Z0 _ (Zc _), Bool.and_self, Bool.and_true] <;> rfl)) ?_ ?_ <;> (repeat' (first | (with_reducible rfl) | (exact Zu rfl (by first | (simp; done) | omega | (simp; omega))) | (exact congrArg (SV.int _) (by first | omega | (simp (disch := omega) only [lnB, Z5, Z9] <;> omega) | (simp; done) | (simp <;> omega))) | (exact congrArg (Hp.rows _) (by rfl)) | ((conv => whnf); refine ⟨?_, ?_⟩) | exact trivial | rfl))), ?_⟩
 rintro n ⟨hn, hlow⟩
 conv => whnf
 rcases Nat.lt_or_ge n l.length with hnl | hnl
 · repeat' ((first | refine DRAWN.of (id := 2) Z2 Z8 Z8T (by kernel_rfl) ?_ | refine DRAWN.of (id := 4) Z2 Z8 Z8U (by kernel_rfl) ?_ | refine ADD.mk (fun _ _ => ?_) | refine AD ?_ | refine FORK.mk ?_ ?_ | refine CALL.value (Xf _ _) rfl rfl ?_ | (refine GET.at (row := Zf (l[n]'(by omega))) (Z47 (by omega) (by omega)) ?_; conv => whnf) | refine AU ?_ | (refine IW (fun h => ?_) (fun h => ?_) <;> try (exfalso; omega))) <;> conv => whnf)
   · refine ⟨n + 1, ⟨by omega, fun k hk hkn => ?_⟩, by omega, ?_⟩
     · rcases Nat.lt_or_eq_of_le (Nat.le_of_lt_succ hkn) with h1 | rfl
       · exact hlow k hk h1
       · exact h
     · conv => whnf
       (refine GOES.cutting h0 rfl rfl rfl (by first | rfl | (simp only [Z7, Z3, Z0 _ (Zc _), Bool.and_self, Bool.and_true] <;> rfl)) ?_ ?_ <;> (repeat' (first | (with_reducible rfl) | (exact Zu rfl (by first | (simp; done) | omega | (simp; omega))) | (exact congrArg (SV.int _) (by first | omega | (simp (disch := omega) only [lnB, Z5, Z9] <;> omega) | (simp; done) | (simp <;> omega))) | (exact congrArg (Hp.rows _) (by rfl)) | ((conv => whnf); refine ⟨?_, ?_⟩) | exact trivial | rfl)))
   all_goals
     refine FIN.val h0 rfl ⟨n, _, fun hr => ?_, rfl, rfl, rfl⟩
     have hpl : n = placeM Zw l q := Z1z triQ (by omega) hlow fun k hk hnk => Z43 triQ hr hnk hk (by omega)
     refine ⟨hpl, ?_⟩
     rw [Z52 hpl, dif_pos hnl]
     by_cases he : l[n] = q
     · rw [decide_eq_true he, he]; simp
     · rw [decide_eq_false he, Bool.eq_false_iff]
       intro hc
       exact he (Qd.ext' (by simp only [Zf, Qd.row, List.cons.injEq, SV.int.injEq, SV.str.injEq, true_and, and_true]; simpa using hc))
 · repeat' ((first | refine DRAWN.of (id := 2) Z2 Z8 Z8T (by kernel_rfl) ?_ | refine DRAWN.of (id := 4) Z2 Z8 Z8U (by kernel_rfl) ?_ | refine ADD.mk (fun _ _ => ?_) | refine AD ?_ | refine FORK.mk ?_ ?_ | refine AU ?_ | (refine IW (fun h => ?_) (fun h => ?_) <;> try (exfalso; omega))) <;> conv => whnf)
   refine FIN.val h0 rfl ⟨n, _, fun hr => ?_, rfl, rfl, rfl⟩
   have hpl : n = placeM Zw l q := Z1z triQ (by omega) hlow fun k hk hnk => by omega
   exact ⟨hpl, by rw [Z52 hpl, dif_neg (by omega)]⟩
theorem Z0E (l z : List Qd) (q : Qd) (lim : Option Nat) (hz : (l ++ z).length * 224 ≤ 281474976710656) (hr : Rise Zw l) : Does Tryz.prog tab 16 1 [.sl (.loc 0) 0 16 l.length lim, .agg (Zf q)] [] [(0, .rows 16 ((l ++ z).map Zf))]
   (ValK 1 (.tup [.int .i64 (placeM Zw l q : Int), .bool (Z06 Zw l q)])) := (Z3a l z q lim hz).mono fun r O nx ⟨n, b, h, h1, h2, h3⟩ => by
 obtain ⟨rfl, rfl⟩ := h hr
 exact ⟨h1, h2, h3⟩
theorem Zeo {i j : Nat} (h : i + j ≤ 2305843009213693952) : IntKind.i64.wrap (iShr .u64 (IntKind.u64.wrap (IntKind.i64.wrap ((i : Int) + (j : Int)))) 1) = (((i + j) / 2 : Nat) : Int) := by
 have h0 : IntKind.i64.wrap ((i : Int) + (j : Int)) = ((i + j : Nat) : Int) := by rw [Z5 (by omega) (by omega)]; omega
 have h1 : IntKind.u64.wrap ((i + j : Nat) : Int) = ((i + j : Nat) : Int) := IntWalk.u64_in _ ⟨by omega, by omega⟩
 have h2 : iShr .u64 ((i + j : Nat) : Int) 1 = (((i + j) / 2 : Nat) : Int) := by
   unfold iShr; simp [IntKind.bits, Int.fdiv_eq_ediv]
 rw [h0, h1, h2, Z5 (by omega) (by omega)]
theorem Za6 (l z : List Qd) (q : Qd) (lim : Option Nat) (hz : (l ++ z).length * 224 ≤ 281474976710656) (hr : Rise Zw l) : Does Tryz.prog tab 71 1 [.sl (.loc 0) 0 16 l.length lim, .agg (Zf q), .fn (.func 62) [] []] [] [(0, .rows 16 ((l ++ z).map Zf))]
   (ValK 1 (.tup [.int .i64 (placeM Zw l q : Int), .bool (Z06 Zw l q)])) := by
 have hz1 : (l ++ z).length = l.length + z.length := List.length_append
 refine Does.enter Z2 (g := 71) (fn := Tryz.f71) Tryz.call71 Tryz.func71 rfl 49 rfl rfl [.tmp 6, .tmp 7] rfl ?_
 intro w0 F η0 h0
 conv => whnf
 repeat' ((first | refine AU ?_ | (refine IW (fun h => ?_) (fun h => ?_) <;> try (exfalso; omega))) <;> conv => whnf)
 refine LOOP.go Z2 [0, 2, 4, 8] (X := Nat × Nat) (fun x => x.1 ≤ x.2 ∧ x.2 ≤ l.length ∧ (∀ k (hk : k < l.length), k < x.1 → Zw l[k] q < 0) ∧ (∀ k (hk : k < l.length), x.2 ≤ k → ¬ Zw l[k] q < 0)) (fun x => [(9, .int .i64 (x.1 : Int)), (10, .int .i64 (x.2 : Int))]) (fun x => [(1, .box (Zf q))]) 2 (fun x => x.2 - x.1) (0, l.length) ⟨by simp, by simp, fun k _ h => by simp at h, fun k _ h => by simp at h; omega⟩ ?_
 conv => whnf
 refine ⟨by (refine GOES.cutting h0 rfl rfl rfl (by first | rfl | (simp only [Z7, Z3, Z0 _ (Zc _), Bool.and_self, Bool.and_true] <;> rfl)) ?_ ?_ <;> (repeat' (first | (with_reducible rfl) | (exact Zu rfl (by first | (simp; done) | omega | (simp; omega))) | (exact congrArg (SV.int _) (by first | omega | (simp (disch := omega) only [lnB, Z5, Z9] <;> omega) | (simp; done) | (simp <;> omega))) | (exact congrArg (Hp.rows _) (by rfl)) | ((conv => whnf); refine ⟨?_, ?_⟩) | exact trivial | rfl))), ?_⟩
 rintro ⟨i, j⟩ ⟨hij, hjl, hlow, hhigh⟩
 dsimp only at hij hjl hlow hhigh ⊢
 conv => whnf
 rcases Nat.lt_or_ge i j with hlt | hge
 · have hh := Zeo (i := i) (j := j) (by omega)
   have hm : (i + j) / 2 < l.length := by omega
   repeat' ((first | refine DRAWN.of (id := 5) Z2 Z8 Z8V (by kernel_rfl) ?_ | refine DRAWN.of (id := 8) Z2 Z8 Z8W (by kernel_rfl) ?_ | refine ADD.mk (fun _ _ => ?_) | refine AD ?_ | refine FORK.mk ?_ ?_ | refine CALL.value (Z0x _ _) rfl rfl ?_ | (rw [hh]; conv => whnf) | (refine GET.at (row := Zf (l[(i + j) / 2]'(by omega))) (Z47 (by omega) (by omega)) ?_; conv => whnf) | refine AU ?_ | (refine IW (fun h => ?_) (fun h => ?_) <;> try (exfalso; omega))) <;> conv => whnf)
   · refine ⟨((i + j) / 2 + 1, j), ⟨by dsimp only; omega, by dsimp only; omega, fun k hk hkn => Z6y triQ hr (by dsimp only at hkn; omega) hm h, hhigh⟩, by dsimp only; omega, ?_⟩
     dsimp only
     conv => whnf
     (refine GOES.cutting h0 rfl rfl rfl (by first | rfl | (simp only [Z7, Z3, Z0 _ (Zc _), Bool.and_self, Bool.and_true] <;> rfl)) ?_ ?_ <;> (repeat' (first | (with_reducible rfl) | (exact Zu rfl (by first | (simp; done) | omega | (simp; omega))) | (exact congrArg (SV.int _) (by first | omega | (simp (disch := omega) only [lnB, Z5, Z9] <;> omega) | (simp; done) | (simp <;> omega))) | (exact congrArg (Hp.rows _) (by rfl)) | ((conv => whnf); refine ⟨?_, ?_⟩) | exact trivial | rfl)))
   · refine ⟨(i, (i + j) / 2), ⟨by dsimp only; omega, by dsimp only; omega, hlow, fun k hk hkn => Z43 triQ hr hkn hk (by dsimp only; omega)⟩, by dsimp only; omega, ?_⟩
     dsimp only
     conv => whnf
     (refine GOES.cutting h0 rfl rfl rfl (by first | rfl | (simp only [Z7, Z3, Z0 _ (Zc _), Bool.and_self, Bool.and_true] <;> rfl)) ?_ ?_ <;> (repeat' (first | (with_reducible rfl) | (exact Zu rfl (by first | (simp; done) | omega | (simp; omega))) | (exact congrArg (SV.int _) (by first | omega | (simp (disch := omega) only [lnB, Z5, Z9] <;> omega) | (simp; done) | (simp <;> omega))) | (exact congrArg (Hp.rows _) (by rfl)) | ((conv => whnf); refine ⟨?_, ?_⟩) | exact trivial | rfl)))
 · repeat' ((first | refine DRAWN.of (id := 5) Z2 Z8 Z8V (by kernel_rfl) ?_ | refine DRAWN.of (id := 8) Z2 Z8 Z8W (by kernel_rfl) ?_ | refine ADD.mk (fun _ _ => ?_) | refine AD ?_ | refine FORK.mk ?_ ?_ | refine CALL.value (Z0x _ _) rfl rfl ?_ | (refine GET.at (row := Zf (l[i]'(by omega))) (Z47 (by omega) (by omega)) ?_; conv => whnf) | refine AU ?_ | (refine IW (fun h => ?_) (fun h => ?_) <;> try (exfalso; omega))) <;> conv => whnf)
   all_goals
     have hpl : i = placeM Zw l q := Z1z triQ (by omega) hlow fun k hk hnk => hhigh k hk (by omega)
     refine FIN.valueK h0 rfl ?_
     rw [Z52 hpl, ← hpl]
   · have hil : i < l.length := by omega
     rw [dif_pos hil]
     refine congrArg (fun b => SV.tup [.int .i64 (i : Int), .bool b]) ?_
     have := triQ.zero l[i] q
     rw [cond_true, Bool.eq_iff_iff, beq_iff_eq, decide_eq_true_iff, this]
   · rw [dif_neg (by omega)]
theorem ZbM (l z : List Qd) (q : Qd) (lim : Option Nat) (hz : (l ++ z).length * 224 ≤ 281474976710656) (hr : Rise Zw l) : Does Tryz.prog tab 44 1 [.sl (.loc 0) 0 16 l.length lim, .agg (Zf q)] [] [(0, .rows 16 ((l ++ z).map Zf))]
   (ValK 1 (.tup [.int .i64 (placeM Zw l q : Int), .bool (Z06 Zw l q)])) := by
 refine Does.enter Z2 (g := 44) (fn := Tryz.f44) Tryz.call44 Tryz.func44 rfl 11 rfl rfl [.tmp 4, .tmp 5] rfl ?_
 intro w0 F η0 h0
 conv => whnf
 repeat' ((first | refine AU ?_ | (refine IW (fun h => ?_) (fun h => ?_) <;> try (exfalso; omega))) <;> conv => whnf)
 refine CALL.aA [0] (Za6 l z q lim hz hr) ?_
 rintro r O nx ⟨rfl, rfl, rfl⟩
 conv => whnf
 exact FIN.valueK h0 rfl rfl
end Go.Proofs.YtjbbkimodgffiaaGreatDoor
