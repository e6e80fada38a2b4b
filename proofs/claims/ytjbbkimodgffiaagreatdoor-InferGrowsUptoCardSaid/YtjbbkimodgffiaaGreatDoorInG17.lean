/- Part 17: Sets1, Sets2, Over7, Find7. Conditions: as each part says. -/
import Derived.Test.YtjbbkimodgffiaaGreatDoorInG9
import Derived.Test.YtjbbkimodgffiaaGreatDoorInG16
set_option linter.unusedVariables false
set_option linter.unusedSimpArgs false
set_option maxRecDepth 20000
set_option maxHeartbeats 8000000
namespace Go.Proofs.YtjbbkimodgffiaaGreatDoor
open Go.Sx Go.Our Go.Sort Go.Shelf
def Z1F : Plan := (Zl [(0, 1), (1, 1), (2, 1), (4, 1), (5, 1), (6, 1), (7, 1), (3, 2), (8, 2), (9, 1)])
abbrev Zfe (l : List Tm) : Prop := l.length * 224 ≤ 140737488351232
theorem Z8X {α : Type} (f : α → List SV) {C l : List α} {j : Nat} (h1 : C.length ≤ j) (h2 : j < l.length) : ((C ++ l.drop C.length).map f)[j]? = some (f l[j]) := by
 rw [List.getElem?_map, List.getElem?_append_right h1, List.getElem?_drop, show C.length + (j - C.length) = j by omega, List.getElem?_eq_getElem h2]; rfl
theorem ZbI {α : Type} (f : α → List SV) {C l : List α} (x : α) (h : C.length < l.length) : ((C ++ l.drop C.length).map f).set C.length (f x) = ((C ++ [x]) ++ l.drop (C ++ [x]).length).map f := by
 rw [Zcs, List.set_append_right _ _ (Nat.le_refl _), Nat.sub_self, List.drop_eq_getElem_cons h, List.set_cons_zero]
 simp
theorem ZbJ {α : Type} (f : α → List SV) {C l : List α} (z : α) (h : C.length ≤ l.length) : ((C ++ l.drop C.length).map f).take C.length ++ List.replicate (l.length - C.length) (f z) ++ ((C ++ l.drop C.length).map f).drop (C.length + (l.length - C.length)) = (C ++ List.replicate (l.length - C.length) z).map f := by
 have h1 : ((C ++ l.drop C.length).map f).length = l.length := by simp; omega
 rw [List.drop_of_length_le (l := (C ++ l.drop C.length).map f) (by omega), List.append_nil, List.map_append, List.map_append, List.map_replicate, List.take_append_of_le_length (by simp), List.take_of_length_le (by simp)]
theorem Zeb {rs : List (List SV)} {i j : Nat} {row : List SV} (h : rs[i]? = some row) (e : j = i) : rs[j]? = some row := e ▸ h
theorem WF (l z : List Qd) (lim : Option Nat) (hl : l.length * 224 ≤ 140741783322624) : Does Tryz.prog tab 74 1 [.sl (.loc 0) 0 16 l.length lim] [] [(0, .rows 16 ((l ++ z).map Z7))]
   (fun r O nx => r = .sl (.loc 1) 0 16 l.length none ∧ O = [(1, .rows 16 (l.map Z7))] ∧ nx = 2) := by
 refine Does.enter Z2 (g := 74) (fn := Tryz.f74) Tryz.call74 Tryz.func74 rfl 8 rfl rfl [.tmp 2] rfl ?_
 intro w0 F η0 h0
 conv => whnf
 repeat' ((first | (rw [Z5Z]; conv => whnf) | (refine NEED.mk (Xt 224 rfl rfl (by simp) (by simp) (by omega)) ?_; conv => whnf) | refine AU ?_ | ((with_reducible refine UNK.mk (fun h => ?_) ?_) <;> try (exfalso; omega)) | (refine IW (fun h => ?_) (fun h => ?_) <;> try (exfalso; omega))) <;> conv => whnf)
 · have : l = [] := List.length_eq_zero_iff.1 h
   subst this
   refine FIN.nil 16 ?_
   exact FIN.rows h0 1 16 0 rfl rfl rfl rfl ⟨rfl, rfl, rfl⟩
 · rw [Nat.zero_add]
   exact FIN.rows h0 2 16 l.length rfl rfl rfl (Ze _) ⟨rfl, rfl, rfl⟩
theorem Za1 (l : List Qd) (n : Nat) (hn : n ≤ l.length) (hl : l.length * 224 ≤ 140741783322624) : Does Tryz.prog tab 94 1 [.sl (.loc 0) 0 16 n none] [(0, .rows 16 (l.map Z7))] []
   (fun r O nx => r = .sl (.loc 0) 0 16 n (some n) ∧ O = [(0, .rows 16 (l.map Z7))] ∧ nx = 1) := by
 refine Does.enter Z2 (g := 94) (fn := Tryz.f94) Tryz.call94 Tryz.func94 rfl 9 rfl rfl [.tmp 2] rfl ?_
 intro w0 F η0 h0
 conv => whnf
 repeat' ((first | (refine NEED.mk ⟨by omega, by omega, by omega⟩ ?_; conv => whnf) | refine AU ?_ | (refine IW (fun h => ?_) (fun h => ?_) <;> try (exfalso; omega))) <;> conv => whnf)
 refine FIN.here h0 (rc := .sl (.loc 0) 0 16 n (some n)) (Oc := [(0, .rows 16 (l.map Z7))]) (by simp) rfl (by first | rfl | (simp only [Z5, Z3, Z0 _ (Ze _), Bool.and_self, Bool.and_true] <;> rfl)) ⟨rfl, trivial⟩ ⟨rfl, rfl, rfl⟩
theorem Z59 (l : List Qd) (hl : l.length * 224 ≤ 140741783322624) : Does Tryz.prog tab 95 1 [.sl (.loc 0) 0 16 l.length none] [(0, .rows 16 (l.map Z7))] []
   (fun r O nx => r = .sl (.loc 0) 0 16 (Zi l).length none ∧ O = [(0, .rows 16 ((Zi l ++ List.replicate (l.length - (Zi l).length) ZL).map Z7))] ∧ nx = 1) := by
 have fin : ∀ {m : Nat}, m = (Zi l).length → Zi l = l → (SV.sl (.loc 0) 0 16 l.length none = SV.sl (.loc 0) 0 16 (Zi l).length none) ∧ l.map Z7 = (Zi l ++ List.replicate (l.length - (Zi l).length) ZL).map Z7 := fun hm he => by
   rw [he]; simp
 refine Does.enter Z2 (g := 95) (fn := Tryz.f95) Tryz.call95 Tryz.func95 rfl 61 rfl rfl [.tmp 2] rfl ?_
 intro w0 F η0 h0
 conv => whnf
 refine IF.mk (fun h => ?_) (fun h => ?_)
 · have h : l.length < 2 := by simp at h; omega
   obtain ⟨f1, f2⟩ := fin rfl (Z36 h)
   conv => whnf
   rw [f1, f2]
   refine FIN.here h0 (rc := .sl (.loc 0) 0 16 (Zi l).length none) (Oc := [(0, .rows 16 ((Zi l ++ List.replicate (l.length - (Zi l).length) ZL).map Z7))]) rfl rfl (by first | rfl | (simp only [Z5, Z3, Z0 _ (Ze _), Bool.and_self, Bool.and_true] <;> rfl)) ⟨rfl, trivial⟩ ⟨rfl, rfl, rfl⟩
 have h2 : 2 ≤ l.length := by simp at h; omega
 clear h
 conv => whnf
 refine LOOP.go Z2 [0] (X := Nat) (fun k => 1 ≤ k ∧ k ≤ l.length ∧ Zi (l.take k) = l.take k) (fun k => [(3, .int .i64 (k : Int))]) (fun k => [(0, .rows 16 (l.map Z7))]) 1 (fun k => l.length - k) 1 ⟨by omega, by omega, Z7S⟩ ?_
 conv => whnf
 refine ⟨by (refine GOES.cutting h0 rfl rfl rfl (by first | rfl | (simp only [Z5, Z3, Z0 _ (Ze _), Bool.and_self, Bool.and_true] <;> rfl)) ?_ ?_ <;> (repeat' (first | (with_reducible rfl) | (exact Zu rfl (by first | (simp; done) | omega | (simp; omega))) | (exact congrArg (SV.int _) (by first | omega | (simp (disch := omega) only [lnB, Z8, Zd] <;> omega) | (simp; done) | (simp <;> omega))) | (exact congrArg (Hp.rows _) (by rfl)) | ((conv => whnf); refine ⟨?_, ?_⟩) | exact trivial | rfl))), ?_⟩
 rintro k ⟨hk1, hkl, hk⟩
 conv => whnf
 rcases Nat.lt_or_ge k l.length with hlt | hge
 · have hs := UE hk1 hlt
   have hk' : (IntKind.i64.wrap ((k : Int) - 1)).toNat = k - 1 := by rw [Z8 (by omega) (by omega)]; omega
   repeat' ((first | refine DRAWN.of (id := 6) Z2 mixed Z1F (by kernel_rfl) ?_ | refine DRAWN.of (id := 11) Z2 mixed Z1F (by kernel_rfl) ?_ | refine ADD.mk (fun _ _ => ?_) | refine AD ?_ | refine FORK.mk ?_ ?_ | (refine GET.at (row := Z7 (l[k]'(by omega))) (JJ (by omega) (by omega)) ?_; conv => whnf) | (refine GET.at (row := Z7 (l[k - 1]'(by omega))) (JJ (by omega) (by omega)) ?_; conv => whnf) | refine AU ?_ | (refine IW (fun h => ?_) (fun h => ?_) <;> try (exfalso; omega))) <;> conv => whnf)
   · have heq : l[k] = l[k - 1] := Qd.ext' (by simp only [Z7, Qd.row, List.cons.injEq, SV.int.injEq, SV.str.injEq, true_and, and_true]; exact h)
     rw [if_pos heq, hk] at hs
     have hs0 : (Zi (l.take (k + 1))).length = k := by rw [hs]; simp; omega
     clear h heq
     refine LOOP.go Z2 [0, 4] (X := Nat) (fun i => k + 1 ≤ i ∧ i ≤ l.length ∧ (Zi (l.take i)).length + 1 ≤ i ∧ k ≤ (Zi (l.take i)).length) (fun i => [(3, .int .i64 ((Zi (l.take i)).length : Int)), (5, .int .i64 ((i - k : Nat) : Int))]) (fun i => [(0, .rows 16 ((Zi (l.take i) ++ l.drop (Zi (l.take i)).length).map Z7))]) 1 (fun i => l.length - i) (k + 1) ⟨by omega, by omega, by omega, by omega⟩ ?_
     conv => whnf
     refine ⟨by (refine GOES.cutting h0 rfl rfl rfl (by first | rfl | (simp only [Z5, Z3, Z0 _ (Ze _), Bool.and_self, Bool.and_true] <;> rfl)) ?_ ?_ <;> (repeat' (first | (with_reducible rfl) | (exact Zu rfl (by first | (simp; done) | omega | (simp; omega))) | (exact congrArg (SV.int _) (by first | omega | (simp (disch := omega) only [lnB, Z8, Zd] <;> omega) | (simp; done) | (simp <;> omega))) | (exact congrArg (Hp.rows _) (by (rw [hs, List.length_take, Nat.min_eq_left hkl, List.take_append_drop]))) | ((conv => whnf); refine ⟨?_, ?_⟩) | exact trivial | rfl))), ?_⟩
     rintro i ⟨hi1, hi2, hi3, hi4⟩
     obtain ⟨C, hC⟩ : ∃ C, C = Zi (l.take i) := ⟨_, rfl⟩
     have hsi := fun h => UE (l := l) (i := i) (by omega) h
     rw [← hC] at hi3 hi4 hsi
     dsimp only
     rw [← hC]
     conv => whnf
     rcases Nat.lt_or_ge i l.length with hil | hil
     · have hsi := hsi hil
       have hwr : IntKind.i64.wrap (((i - k : Nat) : Int) - 1) = ((i - 1 - k : Nat) : Int) := by rw [Z8 (by omega) (by omega)]; omega
       have hg1 : ((C ++ l.drop C.length).map Z7)[i]? = some (Z7 l[i]) := Z8X Z7 (by omega) hil
       have hg2 : ((C ++ l.drop C.length).map Z7)[i - 1]? = some (Z7 (l[i - 1]'(by omega))) := Z8X Z7 (by omega) (by omega)
       have hg3 : ((C ++ l.drop C.length).map Z7)[C.length]? = some (Z7 (l[C.length]'(by omega))) := Z8X Z7 (Nat.le_refl _) (by omega)
       repeat' ((first | refine DRAWN.of (id := 6) Z2 mixed Z1F (by kernel_rfl) ?_ | refine DRAWN.of (id := 11) Z2 mixed Z1F (by kernel_rfl) ?_ | refine ADD.mk (fun _ _ => ?_) | refine AD ?_ | refine FORK.mk ?_ ?_ | (refine GET.at (row := Z7 (l[i]'(by omega))) (Zeb hg1 (by omega)) ?_; conv => whnf) | (refine GET.at (row := Z7 (l[i - 1]'(by omega))) (Zeb hg2 (by rw [hwr]; omega)) ?_; conv => whnf) | (refine GET.at (row := Z7 (l[C.length]'(by omega))) (Zeb hg3 (by omega)) ?_; conv => whnf) | refine AU ?_ | (refine IW (fun h => ?_) (fun h => ?_) <;> try (exfalso; omega))) <;> conv => whnf)
       · have hne : ¬ l[i] = l[i - 1]'(by omega) := fun he => by rw [he] at h; simp at h
         rw [if_neg hne] at hsi
         refine ⟨i + 1, ⟨by omega, by omega, by rw [hsi, List.length_append]; simp; omega, by rw [hsi, List.length_append]; simp; omega⟩, by omega, ?_⟩
         rw [hsi]
         conv => whnf
         (refine GOES.cutting h0 rfl rfl rfl (by first | rfl | (simp only [Z5, Z3, Z0 _ (Ze _), Bool.and_self, Bool.and_true] <;> rfl)) ?_ ?_ <;> (repeat' (first | (with_reducible rfl) | (exact Zu rfl (by first | (simp; done) | omega | (simp; omega))) | (exact congrArg (SV.int _) (by first | omega | (simp (disch := omega) only [lnB, Z8, Zd] <;> omega) | (simp; done) | (simp <;> omega))) | (exact congrArg (Hp.rows _) (by (first | (simp only [Nat.zero_add, Int.toNat_natCast]; exact ZbI Z7 _ (by omega)) | rfl))) | ((conv => whnf); refine ⟨?_, ?_⟩) | exact trivial | rfl)))
       · have heq : l[i] = l[i - 1]'(by omega) := Qd.ext' (by simp only [Z7, Qd.row, List.cons.injEq, SV.int.injEq, SV.str.injEq, true_and, and_true]; exact h)
         rw [if_pos heq] at hsi
         refine ⟨i + 1, ⟨by omega, by omega, by rw [hsi]; omega, by rw [hsi]; omega⟩, by omega, ?_⟩
         rw [hsi]
         conv => whnf
         (refine GOES.cutting h0 rfl rfl rfl (by first | rfl | (simp only [Z5, Z3, Z0 _ (Ze _), Bool.and_self, Bool.and_true] <;> rfl)) ?_ ?_ <;> (repeat' (first | (with_reducible rfl) | (exact Zu rfl (by first | (simp; done) | omega | (simp; omega))) | (exact congrArg (SV.int _) (by first | omega | (simp (disch := omega) only [lnB, Z8, Zd] <;> omega) | (simp; done) | (simp <;> omega))) | (exact congrArg (Hp.rows _) (by rfl)) | ((conv => whnf); refine ⟨?_, ?_⟩) | exact trivial | rfl)))
     · have hCl : C = Zi l := by rw [hC, List.take_of_length_le hil]
       have hcl : C.length ≤ l.length := by omega
       repeat' ((first | (refine NEED.mk (by simp only [List.length_map, List.length_append, List.length_drop]; omega) ?_; conv => whnf) | (refine NEED.mk ⟨by omega, Z4F (by omega)⟩ ?_; conv => whnf) | refine AU ?_ | (refine IW (fun h => ?_) (fun h => ?_) <;> try (exfalso; omega))) <;> conv => whnf)
       rw [← hCl]
       refine FIN.here h0 (rc := .sl (.loc 0) 0 16 C.length none) (Oc := [(0, .rows 16 ((C ++ List.replicate (l.length - C.length) ZL).map Z7))]) (by simp) rfl (by first | rfl | (simp only [Z5, Z3, Z0 _ (Ze _), Bool.and_self, Bool.and_true] <;> rfl)) ⟨?_, trivial⟩ ⟨rfl, rfl, rfl⟩
       refine congrArg (Hp.rows 16) ?_
       simp only [Nat.zero_add, Int.toNat_natCast]
       exact ZbJ Z7 ZL hcl
   · have hne : ¬ l[k] = l[k - 1] := fun he => by rw [he] at h; simp at h
     rw [if_neg hne, hk] at hs
     refine ⟨k + 1, ⟨by omega, by omega, by rw [hs, List.take_succ_eq_append_getElem hlt]⟩, by omega, ?_⟩
     conv => whnf
     (refine GOES.cutting h0 rfl rfl rfl (by first | rfl | (simp only [Z5, Z3, Z0 _ (Ze _), Bool.and_self, Bool.and_true] <;> rfl)) ?_ ?_ <;> (repeat' (first | (with_reducible rfl) | (exact Zu rfl (by first | (simp; done) | omega | (simp; omega))) | (exact congrArg (SV.int _) (by first | omega | (simp (disch := omega) only [lnB, Z8, Zd] <;> omega) | (simp; done) | (simp <;> omega))) | (exact congrArg (Hp.rows _) (by rfl)) | ((conv => whnf); refine ⟨?_, ?_⟩) | exact trivial | rfl)))
 · have hkn : k = l.length := by omega
   rw [hkn, List.take_of_length_le (Nat.le_refl _)] at hk
   obtain ⟨f1, f2⟩ := fin rfl hk
   repeat' ((first | refine AU ?_ | (refine IW (fun h => ?_) (fun h => ?_) <;> try (exfalso; omega))) <;> conv => whnf)
   rw [f1, f2]
   refine FIN.here h0 (rc := .sl (.loc 0) 0 16 (Zi l).length none) (Oc := [(0, .rows 16 ((Zi l ++ List.replicate (l.length - (Zi l).length) ZL).map Z7))]) rfl rfl (by first | rfl | (simp only [Z5, Z3, Z0 _ (Ze _), Bool.and_self, Bool.and_true] <;> rfl)) ⟨rfl, trivial⟩ ⟨rfl, rfl, rfl⟩
def ZbK : Go.Shelf.Ren := ⟨fun | 6 => 93 | 15 => 111 | 14 => 118 | 28 => 136 | 29 => 137 | 20 => 145 | 21 => 146 | 22 => 147 | 23 => 148 | 24 => 149 | 25 => 150 | 26 => 151 | 27 => 152 | 46 => 185 | 47 => 169 | 48 => 170 | 49 => 186 | 50 => 187 | 57 => 212 | n => n, fun | 22 => 22 | 24 => 30 | 25 => 79 | 3 => 3 | 39 => 136 | 0 => 0 | 53 => 158 | 55 => 160 | 4 => 4 | 46 => 152 | 45 => 151 | 50 => 35 | 5 => 5 | 9 => 9 | 66 => 182 | 70 => 186 | 76 => 207 | 77 => 33 | n => n, fun | n => n⟩
theorem ZeY : Go.Proofs.SlLaysF0.n6 Tryz.prog ZbK where
 mixed := by kernel_rfl
 f6 := ⟨Tryz.f93.name, by decide, Tryz.func93.trans (congrArg some (by kernel_rfl))⟩
 f14 := ⟨Tryz.f118.name, by decide, Tryz.func118.trans (congrArg some (by kernel_rfl))⟩
 f15 := Tryz.func111.trans (congrArg some (by kernel_rfl))
 f20 := ⟨Tryz.f145.name, by decide, Tryz.func145.trans (congrArg some (by kernel_rfl))⟩
 f21 := ⟨Tryz.f146.name, by decide, Tryz.func146.trans (congrArg some (by kernel_rfl))⟩
 f22 := ⟨Tryz.f147.name, by decide, Tryz.func147.trans (congrArg some (by kernel_rfl))⟩
 f23 := ⟨Tryz.f148.name, by decide, Tryz.func148.trans (congrArg some (by kernel_rfl))⟩
 f24 := ⟨Tryz.f149.name, by decide, Tryz.func149.trans (congrArg some (by kernel_rfl))⟩
 f25 := ⟨Tryz.f150.name, by decide, Tryz.func150.trans (congrArg some (by kernel_rfl))⟩
 f26 := ⟨Tryz.f151.name, by decide, Tryz.func151.trans (congrArg some (by kernel_rfl))⟩
 f27 := ⟨Tryz.f152.name, by decide, Tryz.func152.trans (congrArg some (by kernel_rfl))⟩
 f28 := Tryz.func136.trans (congrArg some (by kernel_rfl))
 f29 := Tryz.func137.trans (congrArg some (by kernel_rfl))
 f46 := ⟨Tryz.f185.name, by decide, Tryz.func185.trans (congrArg some (by kernel_rfl))⟩
 f47 := Tryz.func169.trans (congrArg some (by kernel_rfl))
 f48 := Tryz.func170.trans (congrArg some (by kernel_rfl))
 f49 := ⟨Tryz.f186.name, by decide, Tryz.func186.trans (congrArg some (by kernel_rfl))⟩
 f50 := ⟨Tryz.f187.name, by decide, Tryz.func187.trans (congrArg some (by kernel_rfl))⟩
 f57 := ⟨Tryz.f212.name, by decide, Tryz.func212.trans (congrArg some (by kernel_rfl))⟩
 t0 := Tryz.underlying0
 a0 := Tryz.isAgg0
 z0 := Tryz.sizeOf0
 v0 := Tryz.zeroValue0
 t3 := Tryz.underlying3
 a3 := Tryz.isAgg3
 z3 := Tryz.sizeOf3
 v3 := Tryz.zeroValue3
 t4 := Tryz.underlying4
 a4 := Tryz.isAgg4
 z4 := Tryz.sizeOf4
 v4 := Tryz.zeroValue4
 t5 := Tryz.underlying5
 a5 := Tryz.isAgg5
 z5 := Tryz.sizeOf5
 v5 := Tryz.zeroValue5
 t9 := Tryz.underlying9
 a9 := Tryz.isAgg9
 z9 := Tryz.sizeOf9
 v9 := Tryz.zeroValue9
 t22 := Tryz.underlying22
 a22 := Tryz.isAgg22
 z22 := Tryz.sizeOf22
 v22 := Tryz.zeroValue22
 t25 := Tryz.underlying79
 a25 := Tryz.isAgg79
 z25 := Tryz.sizeOf79
 v25 := Tryz.zeroValue79
 t39 := Tryz.underlying136
 a39 := Tryz.isAgg136
 z39 := Tryz.sizeOf136
 v39 := Tryz.zeroValue136
 t45 := Tryz.underlying151
 a45 := Tryz.isAgg151
 z45 := Tryz.sizeOf151
 v45 := Tryz.zeroValue151
 t46 := Tryz.underlying152
 a46 := Tryz.isAgg152
 z46 := Tryz.sizeOf152
 v46 := Tryz.zeroValue152
 t50 := Tryz.underlying35
 a50 := Tryz.isAgg35
 z50 := Tryz.sizeOf35
 v50 := Tryz.zeroValue35
 t53 := Tryz.underlying158
 a53 := Tryz.isAgg158
 z53 := Tryz.sizeOf158
 v53 := Tryz.zeroValue158
 t55 := Tryz.underlying160
 a55 := Tryz.isAgg160
 z55 := Tryz.sizeOf160
 v55 := Tryz.zeroValue160
 t66 := Tryz.underlying182
 a66 := Tryz.isAgg182
 z66 := Tryz.sizeOf182
 v66 := Tryz.zeroValue182
 t70 := Tryz.underlying186
 a70 := Tryz.isAgg186
 z70 := Tryz.sizeOf186
 v70 := Tryz.zeroValue186
 t76 := Tryz.underlying207
 a76 := Tryz.isAgg207
 z76 := Tryz.sizeOf207
 v76 := Tryz.zeroValue207
 t77 := Tryz.underlying33
 a77 := Tryz.isAgg33
 z77 := Tryz.sizeOf33
 v77 := Tryz.zeroValue33
abbrev strU (s : List UInt8) : Value := .string ⟨s.toArray⟩
def qdE (q : Qd) : List Value := [.int .i64 q.s.k, strU q.s.t, strU q.s.y, strU q.s.l, .int .i64 q.p.k, strU q.p.t, strU q.p.y, strU q.p.l, .int .i64 q.o.k, strU q.o.t, strU q.o.y, strU q.o.l, .int .i64 q.g.k, strU q.g.t, strU q.g.y, strU q.g.l]
instance : Inhabited Tm := ⟨Zm⟩
instance : Inhabited Qd := ⟨ZL⟩
theorem Z5a {α : Type} (c : α → α → Int) (x y : α) : ltOf c x y = decide (c x y < 0) := rfl
theorem ZeZ {α : Type} {c : α → α → Int} (h : Tri c) : SWO (ltOf c) where
 irrefl x := by rw [Z5a, h.self]; rfl
 trans x y z h1 h2 := by rw [Z5a] at *; simp only [decide_eq_true_iff] at *; exact h.lt_trans h1 (by omega)
 ntrans x y z h1 h2 := by
   rw [Z5a] at *
   simp only [decide_eq_false_iff_not] at *
   intro hc
   have := h.anti x y; have := h.anti y z; have := h.anti x z
   have := h.trans z y x (by omega) (by omega)
   omega
theorem Zf0 {α : Type} {c : α → α → Int} (h : Tri c) (x y : α) (h1 : ltOf c x y = false) (h2 : ltOf c y x = false) : x = y := by
 rw [Z5a] at *
 simp only [decide_eq_false_iff_not] at *
 have := h.anti x y
 exact (h.zero x y).1 (by omega)
theorem ZcU {η : Env} : ∀ {vs us : List Value} {cs : List SV}, DenL η cs vs → DenL η cs us → Z3k cs = true → vs = us := fun h h' hd => DetL.of hd _ _ _ h h'
theorem Za2 (l : List Qd) (hl : l.length * 224 ≤ 140741783322624) : Does Tryz.prog tab 93 1 [.sl (.loc 0) 0 16 l.length none, .fn (.func 62) [] []] [(0, .rows 16 (l.map Z7))] []
   (fun r O nx => r = .tup [] ∧ O = [(0, .rows 16 ((l.mergeSort (leC Zt)).map Z7))] ∧ nx = 1) := by
 have hrow : ∀ (η : Env) (q : Qd), DenL η (Z7 q) (qdE q) ∧ ∀ u ∈ qdE q, u.oneCell' = true := fun η q => by
   refine ⟨by simp only [Z7, qdE, DenL, Den]; exact ⟨_, _, rfl, rfl, _, _, rfl, rfl, _, _, rfl, rfl, _, _, rfl, rfl, _, _, rfl, rfl, _, _, rfl, rfl, _, _, rfl, rfl, _, _, rfl, rfl, _, _, rfl, rfl, _, _, rfl, rfl, _, _, rfl, rfl, _, _, rfl, rfl, _, _, rfl, rfl, _, _, rfl, rfl, _, _, rfl, rfl, _, _, rfl, rfl, rfl⟩, fun u hu => ?_⟩
   simp only [qdE, List.mem_cons, List.not_mem_nil, or_false] at hu
   rcases hu with rfl | rfl | rfl | rfl | rfl | rfl | rfl | rfl | rfl | rfl | rfl | rfl | rfl | rfl | rfl | rfl <;> rfl
 exact Z58 (enc := qdE) (k := 16) (row := Z7) (cf := Zt) Z2 ZeY ZeY (fun w => by kernel_rfl) (fun w => by kernel_rfl) (fun q => ⟨rfl, rfl⟩) (by omega) (ZeZ triQ) (Zf0 triQ) rfl (fun x y => Z43 x y) Tryz.call62 Tryz.call93 hrow (fun η x vs h => ZcU h (hrow η x).1 rfl) l (by omega)
end Go.Proofs.YtjbbkimodgffiaaGreatDoor
namespace Go.Proofs.YtjbbkimodgffiaaGreatDoor
open Go.Sx Go.Our
def ZbL {α : Type} (f : α → List SV) (es k : Nat) (z : α) (n : Nat) (l : List α) : SV → Hps → Nat → Prop := fun r O nx => ∃ j, j + l.length ≤ n ∧ r = .sl (.loc k) 0 es l.length (some l.length) ∧ O = [(k, .rows es ((l ++ List.replicate j z).map f))] ∧ nx = k + 1
theorem Z6F (l z : List Qd) (lim : Option Nat) (hl : l.length * 224 ≤ 140741783322624) : Does Tryz.prog tab 64 1 [.sl (.loc 0) 0 16 l.length lim, .fn (.func 62) [] []] [] [(0, .rows 16 ((l ++ z).map Z7))]
   (ZbL Z7 16 1 ZL l.length (setL Zt l)) := by
 have hm : (l.mergeSort (leC Zt)).length = l.length := List.length_mergeSort l
 have hc := WD (l.mergeSort (leC Zt))
 have hcc : (Zi (l.mergeSort (leC Zt)) ++ List.replicate ((l.mergeSort (leC Zt)).length - (Zi (l.mergeSort (leC Zt))).length) ZL).length * 224 ≤ 140741783322624 := by rw [List.length_append, List.length_replicate]; omega
 refine Does.enter Z2 (g := 64) (fn := Tryz.f64) Tryz.call64 Tryz.func64 rfl 14 rfl rfl [.tmp 4] rfl ?_
 intro w0 F η0 h0
 conv => whnf
 refine CALL.aA [0] (WF l z lim hl) ?_
 rintro r O nx ⟨rfl, rfl, rfl⟩
 conv => whnf
 refine CALL.aA [1] (Za2 l hl) ?_
 rintro r O nx ⟨rfl, rfl, rfl⟩
 conv => whnf
 rw [← hm]
 refine CALL.aA [1] (Z59 (l.mergeSort (leC Zt)) (by omega)) ?_
 rintro r O nx ⟨rfl, rfl, rfl⟩
 conv => whnf
 refine CALL.aA [1] (Za1 (Zi (l.mergeSort (leC Zt)) ++ List.replicate ((l.mergeSort (leC Zt)).length - (Zi (l.mergeSort (leC Zt))).length) ZL) (Zi (l.mergeSort (leC Zt))).length (by simp) hcc) ?_
 rintro r O nx ⟨rfl, rfl, rfl⟩
 conv => whnf
 refine FIN.aA h0 [1] (.sl (.loc 1) 0 16 (setL Zt l).length (some (setL Zt l).length)) [(1, .rows 16 ((setL Zt l ++ List.replicate ((l.mergeSort (leC Zt)).length - (Zi (l.mergeSort (leC Zt))).length) ZL).map Z7))] ?_
 exact ⟨_, by unfold setL; omega, rfl, rfl, rfl⟩
theorem Z7W (l z : List Qd) (lim : Option Nat) (hl : l.length * 224 ≤ 140741783322624) : Does Tryz.prog tab 34 1 [.sl (.loc 0) 0 16 l.length lim] [] [(0, .rows 16 ((l ++ z).map Z7))] (ZbL Z7 16 1 ZL l.length (setL Zt l)) := by
 refine Does.enter Z2 (g := 34) (fn := Tryz.f34) Tryz.call34 Tryz.func34 rfl 5 rfl rfl [.tmp 2] rfl ?_
 intro w0 F η0 h0
 conv => whnf
 refine CALL.aA [0] (Z6F l z lim hl) ?_
 rintro r O nx ⟨j, hj, rfl, rfl, rfl⟩
 conv => whnf
 refine FIN.aA h0 [1] (.sl (.loc 1) 0 16 (setL Zt l).length (some (setL Zt l).length)) [(1, .rows 16 ((setL Zt l ++ List.replicate j ZL).map Z7))] ?_
 exact ⟨j, hj, rfl, rfl, rfl⟩
theorem Za3 (l z : List Qd) (lim : Option Nat) (hl : VA l) : Does Tryz.prog tab 34 1 [.sl (.loc 0) 0 16 l.length lim] [] [(0, .rows 16 ((l ++ z).map Z7))] (ZbL Z7 16 1 ZL l.length (setL Zt l)) := Z7W l z lim (by unfold VA at hl; omega)
theorem ZcW {ys xs : List (List SV)} {r n m l b : Nat} (B : Nat) (hb : Nat.ble b B = true) (hB : Nat.ble 1 B = true) (h0 : l = r + n) (hm : 0 < m) (h1 : ys.length = n) (h2 : xs.length = m) (h3 : min (2 * (n + m)) ((n + m) + (n + m) / 4 + 192) * B ≤ 281474976710656) :
   l = r + n ∧ 0 < m ∧ ys.length = n ∧ xs.length = m ∧ n + m ≤ 9223372036854775807 ∧ min (2 * (n + m)) ((n + m) + (n + m) / 4 + 192) * b ≤ 281474976710656 := by
 have h4 := Xt (xs := xs) (n := n) (k := n) B hb hB h2 (Nat.le_refl _) h3
 exact ⟨h0, hm, h1, h2, h4.2.2.1, h4.2.2.2⟩
def Zf2 : Qd := ⟨Zm, Zm, ⟨-9, [], [], []⟩, Zm⟩
def ZbU : Qd := ⟨Zm, ⟨-8, [], [], []⟩, Zm, Zm⟩
theorem Za9 (L : List Qd) (n : Nat) (hn : n ≤ L.length) (lim : Option Nat) (hl : n * 224 ≤ 140737488351232) (hL : L.length ≤ 1152921504606846976) (hlim : lim = none ∨ lim = some n) : Does Tryz.prog tab 24 1 [.sl (.loc 0) 0 16 n lim] [(0, .rows 16 (L.map Z7))] [] (ValK 1 (.tup [])) := by
 rcases hlim with rfl | rfl
 all_goals
   refine Does.enter Z2 (g := 24) (fn := Tryz.f24) Tryz.call24 Tryz.func24 rfl 24 rfl rfl [] rfl ?_
   intro w0 F η0 h0
   conv => whnf
   refine LOOP.go Z2 [0] (X := List Qd) (fun C => C.length ≤ n) (fun C => [(2, .int .i64 (C.length : Int))]) (fun C => [(0, .rows 16 ((C ++ L.drop C.length).map Z7))]) 1 (fun C => n - C.length) [] (by simp) ?_
   conv => whnf
   refine ⟨by (refine GOES.cutting h0 rfl rfl rfl (by first | rfl | (simp only [Z5, Z3, Z0 _ (Ze _), Bool.and_self, Bool.and_true] <;> rfl)) ?_ ?_ <;> (repeat' (first | (with_reducible rfl) | (exact Zu rfl (by first | (simp; done) | omega | (simp; omega))) | (exact congrArg (SV.int _) (by first | omega | (simp (disch := omega) only [lnB, Z8, Zd] <;> omega) | (simp; done) | (simp <;> omega))) | (exact congrArg (Hp.rows _) (by rfl)) | ((conv => whnf); refine ⟨?_, ?_⟩) | exact trivial | rfl))), ?_⟩
   intro C hC
   conv => whnf
   rcases Nat.lt_or_ge C.length n with hlt | hge
   · have hg : ((C ++ L.drop C.length).map Z7)[0 + (C.length : Int).toNat]? = some (Z7 (L[C.length]'(by omega))) := by
       rw [Nat.zero_add, Int.toNat_natCast]; exact Z8X Z7 (Nat.le_refl _) (by omega)
     repeat' ((first | (refine GET.at (row := Z7 (L[C.length]'(by omega))) hg ?_; conv => whnf) | refine AU ?_ | (refine IW (fun h => ?_) (fun h => ?_) <;> try (exfalso; omega))) <;> conv => whnf)
     refine ⟨C ++ [Zf2], by simp; omega, by simp; omega, ?_⟩
     conv => whnf
     (refine GOES.cutting h0 rfl rfl rfl (by first | rfl | (simp only [Z5, Z3, Z0 _ (Ze _), Bool.and_self, Bool.and_true] <;> rfl)) ?_ ?_ <;> (repeat' (first | (with_reducible rfl) | (exact Zu rfl (by first | (simp; done) | omega | (simp; omega))) | (exact congrArg (SV.int _) (by first | omega | (simp (disch := omega) only [lnB, Z8, Zd] <;> omega) | (simp; done) | (simp <;> omega))) | (exact congrArg (Hp.rows _) (by (first | (simp only [Nat.zero_add, Int.toNat_natCast]; exact ZbI Z7 Zf2 (by omega)) | rfl))) | ((conv => whnf); refine ⟨?_, ?_⟩) | exact trivial | rfl)))
   · have hce : C.length = n := by omega
     have hCr : C.map Z7 = ((C ++ L.drop C.length).map Z7).take n := by rw [← hce, List.map_append, List.take_append_of_le_length (by simp), List.take_of_length_le (by simp)]
     repeat' ((first | refine AU ?_ | (refine IW (fun h => ?_) (fun h => ?_) <;> try (exfalso; omega))) <;> conv => whnf)
     refine LOOP.once Z2 ?_
     conv => whnf
     repeat' ((first | (refine NEED.mk (Xt 224 rfl rfl rfl (by simp; omega) (by omega)) ?_; conv => whnf) | (refine NEED.mk (ZcW 224 rfl rfl (by omega) (by omega) (by simp; omega) rfl (by omega)) ?_; conv => whnf) | refine AU ?_ | (refine IW (fun h => ?_) (fun h => ?_) <;> try (exfalso; omega))) <;> conv => whnf)
     refine LOOP.go Z2 [] (X := List Qd × Nat) (fun x => 1 ≤ x.2 ∧ x.2 ≤ 9 ∧ x.1.length ≤ n + x.2) (fun x => [(3, .int .i64 (x.2 : Int)), (0, .sl (.loc 1) 0 16 x.1.length none)]) (fun x => [(1, .rows 16 (x.1.map Z7))]) 2 (fun x => 9 - x.2) (C ++ [ZbU], 1) ⟨by simp, by simp, by simp; omega⟩ ?_
     conv => whnf
     refine ⟨by (refine GOES.keeping h0 [2] rfl rfl rfl (by first | rfl | (simp only [Z5, Z3, Z0 _ (Ze _), Bool.and_self, Bool.and_true] <;> rfl)) ?_ ?_ <;> (repeat' (first | (with_reducible rfl) | (exact Z9 (Ze _) (Z6 _ (Ze _))) | (exact Z9 (Ze _) (by (show _ = (C ++ [ZbU]).map Z7; rw [List.map_append (l₁ := C) (l₂ := [ZbU])]; refine congr (congrArg _ hCr.symm) rfl))) | (exact Zu rfl (by first | (simp; done) | omega | (simp; omega))) | (exact congrArg (SV.int _) (by first | omega | (simp (disch := omega) only [lnB, Z8, Zd] <;> omega) | (simp; done) | (simp <;> omega))) | ((conv => whnf); refine ⟨?_, ?_⟩) | exact trivial | (simp only [ren, renB]; done) | rfl))), ?_⟩
     rintro ⟨D, k⟩ ⟨hk1, hk9, hD⟩
     dsimp only at hk1 hk9 hD ⊢
     conv => whnf
     rcases Nat.lt_or_ge k 9 with hk | hk
     · repeat' ((first | (refine NEED.mk (Xt 224 rfl rfl rfl (by simp) (by omega)) ?_; conv => whnf) | refine AU ?_ | (refine IW (fun h => ?_) (fun h => ?_) <;> try (exfalso; omega))) <;> conv => whnf)
       refine ⟨(D ++ [ZbU], k + 1), ⟨by dsimp only; omega, by dsimp only; omega, by dsimp only; rw [List.length_append]; simp; omega⟩, by dsimp only; omega, ?_⟩
       dsimp only
       conv => whnf
       (refine GOES.keeping h0 [3] rfl rfl rfl (by first | rfl | (simp only [Z5, Z3, Z0 _ (Ze _), Bool.and_self, Bool.and_true] <;> rfl)) ?_ ?_ <;> (repeat' (first | (with_reducible rfl) | (exact Z9 (Ze _) (Z6 _ (Ze _))) | (exact Z9 (Ze _) (by (simp [List.take_of_length_le, ZG, Z7, ZbU, Zm]; try rfl))) | (exact Zu rfl (by first | (simp; done) | omega | (simp; omega))) | (exact congrArg (SV.int _) (by first | omega | (simp (disch := omega) only [lnB, Z8, Zd] <;> omega) | (simp; done) | (simp <;> omega))) | ((conv => whnf); refine ⟨?_, ?_⟩) | exact trivial | (simp only [ren, renB]; done) | rfl)))
     · repeat' ((first | refine AU ?_ | (refine IW (fun h => ?_) (fun h => ?_) <;> try (exfalso; omega))) <;> conv => whnf)
       exact FIN.valueK h0 rfl rfl
end Go.Proofs.YtjbbkimodgffiaaGreatDoor
