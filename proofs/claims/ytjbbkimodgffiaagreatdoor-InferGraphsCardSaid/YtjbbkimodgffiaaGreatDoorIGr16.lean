/- Part 16: Sets1, Sets2, Find7, Over7. Conditions: as each part says. -/
import Derived.Test.YtjbbkimodgffiaaGreatDoorIGr9
set_option linter.unusedVariables false
set_option linter.unusedSimpArgs false
set_option maxRecDepth 20000
set_option maxHeartbeats 8000000
namespace Go.Proofs.YtjbbkimodgffiaaGreatDoor
open Go.Sx Go.Our Go.Sort Go.Shelf
def Jd : Plan := (Zq [(0, 1), (1, 1), (2, 1), (4, 1), (5, 1), (6, 1), (7, 1), (3, 2), (8, 2), (9, 1)])
abbrev Zcp (l : List Tm) : Prop := l.length * 224 ≤ 140737488351232
theorem Z27 {α : Type} (f : α → List SV) {C l : List α} {j : Nat} (h1 : C.length ≤ j) (h2 : j < l.length) : ((C ++ l.drop C.length).map f)[j]? = some (f l[j]) := by
 rw [List.getElem?_map, List.getElem?_append_right h1, List.getElem?_drop, show C.length + (j - C.length) = j by omega, List.getElem?_eq_getElem h2]; rfl
theorem Z8O {α : Type} (f : α → List SV) {C l : List α} (x : α) (h : C.length < l.length) : ((C ++ l.drop C.length).map f).set C.length (f x) = ((C ++ [x]) ++ l.drop (C ++ [x]).length).map f := by
 rw [Z9C, List.set_append_right _ _ (Nat.le_refl _), Nat.sub_self, List.drop_eq_getElem_cons h, List.set_cons_zero]
 simp
theorem Z4k {α : Type} (f : α → List SV) {C l : List α} (z : α) (h : C.length ≤ l.length) : ((C ++ l.drop C.length).map f).take C.length ++ List.replicate (l.length - C.length) (f z) ++ ((C ++ l.drop C.length).map f).drop (C.length + (l.length - C.length)) = (C ++ List.replicate (l.length - C.length) z).map f := by
 have h1 : ((C ++ l.drop C.length).map f).length = l.length := by simp; omega
 rw [List.drop_of_length_le (l := (C ++ l.drop C.length).map f) (by omega), List.append_nil, List.map_append, List.map_append, List.map_replicate, List.take_append_of_le_length (by simp), List.take_of_length_le (by simp)]
theorem Z7f {rs : List (List SV)} {i j : Nat} {row : List SV} (h : rs[i]? = some row) (e : j = i) : rs[j]? = some row := e ▸ h
theorem Z1h (l z : List Qd) (lim : Option Nat) (hl : l.length * 224 ≤ 140741783322624) : Does Tryz.prog tab 74 1 [.sl (.loc 0) 0 16 l.length lim] [] [(0, .rows 16 ((l ++ z).map Za))]
   (fun r O nx => r = .sl (.loc 1) 0 16 l.length none ∧ O = [(1, .rows 16 (l.map Za))] ∧ nx = 2) := by
 refine Does.enter Z2 (g := 74) (fn := Tryz.f74) Tryz.call74 Tryz.func74 rfl 8 rfl rfl [.tmp 2] rfl ?_
 intro w0 F η0 h0
 conv => whnf
 repeat' ((first | (rw [Z3Q]; conv => whnf) | (refine NEED.mk (Xy 224 rfl rfl (by simp) (by simp) (by omega)) ?_; conv => whnf) | refine AU ?_ | ((with_reducible refine UNK.mk (fun h => ?_) ?_) <;> try (exfalso; omega)) | (refine IW (fun h => ?_) (fun h => ?_) <;> try (exfalso; omega))) <;> conv => whnf)
 · have : l = [] := List.length_eq_zero_iff.1 h
   subst this
   refine FIN.nil 16 ?_
   exact FIN.rows h0 1 16 0 rfl rfl rfl rfl ⟨rfl, rfl, rfl⟩
 · rw [Nat.zero_add]
   exact FIN.rows h0 2 16 l.length rfl rfl rfl (Zp _) ⟨rfl, rfl, rfl⟩
theorem Z7g (l : List Qd) (n : Nat) (hn : n ≤ l.length) (hl : l.length * 224 ≤ 140741783322624) : Does Tryz.prog tab 94 1 [.sl (.loc 0) 0 16 n none] [(0, .rows 16 (l.map Za))] []
   (fun r O nx => r = .sl (.loc 0) 0 16 n (some n) ∧ O = [(0, .rows 16 (l.map Za))] ∧ nx = 1) := by
 refine Does.enter Z2 (g := 94) (fn := Tryz.f94) Tryz.call94 Tryz.func94 rfl 9 rfl rfl [.tmp 2] rfl ?_
 intro w0 F η0 h0
 conv => whnf
 repeat' ((first | (refine NEED.mk ⟨by omega, by omega, by omega⟩ ?_; conv => whnf) | refine AU ?_ | (refine IW (fun h => ?_) (fun h => ?_) <;> try (exfalso; omega))) <;> conv => whnf)
 refine FIN.here h0 (rc := .sl (.loc 0) 0 16 n (some n)) (Oc := [(0, .rows 16 (l.map Za))]) (by simp) rfl (by first | rfl | (simp only [Z4, Z3, Z0 _ (Zp _), Bool.and_self, Bool.and_true] <;> rfl)) ⟨rfl, trivial⟩ ⟨rfl, rfl, rfl⟩
theorem Z33 (l : List Qd) (hl : l.length * 224 ≤ 140741783322624) : Does Tryz.prog tab 95 1 [.sl (.loc 0) 0 16 l.length none] [(0, .rows 16 (l.map Za))] []
   (fun r O nx => r = .sl (.loc 0) 0 16 (Z6 l).length none ∧ O = [(0, .rows 16 ((Z6 l ++ List.replicate (l.length - (Z6 l).length) ZF).map Za))] ∧ nx = 1) := by
 have fin : ∀ {m : Nat}, m = (Z6 l).length → Z6 l = l → (SV.sl (.loc 0) 0 16 l.length none = SV.sl (.loc 0) 0 16 (Z6 l).length none) ∧ l.map Za = (Z6 l ++ List.replicate (l.length - (Z6 l).length) ZF).map Za := fun hm he => by
   rw [he]; simp
 refine Does.enter Z2 (g := 95) (fn := Tryz.f95) Tryz.call95 Tryz.func95 rfl 61 rfl rfl [.tmp 2] rfl ?_
 intro w0 F η0 h0
 conv => whnf
 refine IF.mk (fun h => ?_) (fun h => ?_)
 · have h : l.length < 2 := by simp at h; omega
   obtain ⟨f1, f2⟩ := fin rfl (Ul h)
   conv => whnf
   rw [f1, f2]
   refine FIN.here h0 (rc := .sl (.loc 0) 0 16 (Z6 l).length none) (Oc := [(0, .rows 16 ((Z6 l ++ List.replicate (l.length - (Z6 l).length) ZF).map Za))]) rfl rfl (by first | rfl | (simp only [Z4, Z3, Z0 _ (Zp _), Bool.and_self, Bool.and_true] <;> rfl)) ⟨rfl, trivial⟩ ⟨rfl, rfl, rfl⟩
 have h2 : 2 ≤ l.length := by simp at h; omega
 clear h
 conv => whnf
 refine LOOP.go Z2 [0] (X := Nat) (fun k => 1 ≤ k ∧ k ≤ l.length ∧ Z6 (l.take k) = l.take k) (fun k => [(3, .int .i64 (k : Int))]) (fun k => [(0, .rows 16 (l.map Za))]) 1 (fun k => l.length - k) 1 ⟨by omega, by omega, Z1f⟩ ?_
 conv => whnf
 refine ⟨by (refine GOES.cutting h0 rfl rfl rfl (by first | rfl | (simp only [Z4, Z3, Z0 _ (Zp _), Bool.and_self, Bool.and_true] <;> rfl)) ?_ ?_ <;> (repeat' (first | (with_reducible rfl) | (exact ZS rfl (by first | (simp; done) | omega | (simp; omega))) | (exact congrArg (SV.int _) (by first | omega | (simp (disch := omega) only [lnB, Z9, Zb] <;> omega) | (simp; done) | (simp <;> omega))) | (exact congrArg (Hp.rows _) (by rfl)) | ((conv => whnf); refine ⟨?_, ?_⟩) | exact trivial | rfl))), ?_⟩
 rintro k ⟨hk1, hkl, hk⟩
 conv => whnf
 rcases Nat.lt_or_ge k l.length with hlt | hge
 · have hs := Xt hk1 hlt
   have hk' : (IntKind.i64.wrap ((k : Int) - 1)).toNat = k - 1 := by rw [Z9 (by omega) (by omega)]; omega
   repeat' ((first | refine DRAWN.of (id := 6) Z2 mixed Jd (by kernel_rfl) ?_ | refine DRAWN.of (id := 11) Z2 mixed Jd (by kernel_rfl) ?_ | refine ADD.mk (fun _ _ => ?_) | refine AD ?_ | refine FORK.mk ?_ ?_ | (refine GET.at (row := Za (l[k]'(by omega))) (Z2E (by omega) (by omega)) ?_; conv => whnf) | (refine GET.at (row := Za (l[k - 1]'(by omega))) (Z2E (by omega) (by omega)) ?_; conv => whnf) | refine AU ?_ | (refine IW (fun h => ?_) (fun h => ?_) <;> try (exfalso; omega))) <;> conv => whnf)
   · have heq : l[k] = l[k - 1] := Qd.ext' (by simp only [Za, Qd.row, List.cons.injEq, SV.int.injEq, SV.str.injEq, true_and, and_true]; exact h)
     rw [if_pos heq, hk] at hs
     have hs0 : (Z6 (l.take (k + 1))).length = k := by rw [hs]; simp; omega
     clear h heq
     refine LOOP.go Z2 [0, 4] (X := Nat) (fun i => k + 1 ≤ i ∧ i ≤ l.length ∧ (Z6 (l.take i)).length + 1 ≤ i ∧ k ≤ (Z6 (l.take i)).length) (fun i => [(3, .int .i64 ((Z6 (l.take i)).length : Int)), (5, .int .i64 ((i - k : Nat) : Int))]) (fun i => [(0, .rows 16 ((Z6 (l.take i) ++ l.drop (Z6 (l.take i)).length).map Za))]) 1 (fun i => l.length - i) (k + 1) ⟨by omega, by omega, by omega, by omega⟩ ?_
     conv => whnf
     refine ⟨by (refine GOES.cutting h0 rfl rfl rfl (by first | rfl | (simp only [Z4, Z3, Z0 _ (Zp _), Bool.and_self, Bool.and_true] <;> rfl)) ?_ ?_ <;> (repeat' (first | (with_reducible rfl) | (exact ZS rfl (by first | (simp; done) | omega | (simp; omega))) | (exact congrArg (SV.int _) (by first | omega | (simp (disch := omega) only [lnB, Z9, Zb] <;> omega) | (simp; done) | (simp <;> omega))) | (exact congrArg (Hp.rows _) (by (rw [hs, List.length_take, Nat.min_eq_left hkl, List.take_append_drop]))) | ((conv => whnf); refine ⟨?_, ?_⟩) | exact trivial | rfl))), ?_⟩
     rintro i ⟨hi1, hi2, hi3, hi4⟩
     obtain ⟨C, hC⟩ : ∃ C, C = Z6 (l.take i) := ⟨_, rfl⟩
     have hsi := fun h => Xt (l := l) (i := i) (by omega) h
     rw [← hC] at hi3 hi4 hsi
     dsimp only
     rw [← hC]
     conv => whnf
     rcases Nat.lt_or_ge i l.length with hil | hil
     · have hsi := hsi hil
       have hwr : IntKind.i64.wrap (((i - k : Nat) : Int) - 1) = ((i - 1 - k : Nat) : Int) := by rw [Z9 (by omega) (by omega)]; omega
       have hg1 : ((C ++ l.drop C.length).map Za)[i]? = some (Za l[i]) := Z27 Za (by omega) hil
       have hg2 : ((C ++ l.drop C.length).map Za)[i - 1]? = some (Za (l[i - 1]'(by omega))) := Z27 Za (by omega) (by omega)
       have hg3 : ((C ++ l.drop C.length).map Za)[C.length]? = some (Za (l[C.length]'(by omega))) := Z27 Za (Nat.le_refl _) (by omega)
       repeat' ((first | refine DRAWN.of (id := 6) Z2 mixed Jd (by kernel_rfl) ?_ | refine DRAWN.of (id := 11) Z2 mixed Jd (by kernel_rfl) ?_ | refine ADD.mk (fun _ _ => ?_) | refine AD ?_ | refine FORK.mk ?_ ?_ | (refine GET.at (row := Za (l[i]'(by omega))) (Z7f hg1 (by omega)) ?_; conv => whnf) | (refine GET.at (row := Za (l[i - 1]'(by omega))) (Z7f hg2 (by rw [hwr]; omega)) ?_; conv => whnf) | (refine GET.at (row := Za (l[C.length]'(by omega))) (Z7f hg3 (by omega)) ?_; conv => whnf) | refine AU ?_ | (refine IW (fun h => ?_) (fun h => ?_) <;> try (exfalso; omega))) <;> conv => whnf)
       · have hne : ¬ l[i] = l[i - 1]'(by omega) := fun he => by rw [he] at h; simp at h
         rw [if_neg hne] at hsi
         refine ⟨i + 1, ⟨by omega, by omega, by rw [hsi, List.length_append]; simp; omega, by rw [hsi, List.length_append]; simp; omega⟩, by omega, ?_⟩
         rw [hsi]
         conv => whnf
         (refine GOES.cutting h0 rfl rfl rfl (by first | rfl | (simp only [Z4, Z3, Z0 _ (Zp _), Bool.and_self, Bool.and_true] <;> rfl)) ?_ ?_ <;> (repeat' (first | (with_reducible rfl) | (exact ZS rfl (by first | (simp; done) | omega | (simp; omega))) | (exact congrArg (SV.int _) (by first | omega | (simp (disch := omega) only [lnB, Z9, Zb] <;> omega) | (simp; done) | (simp <;> omega))) | (exact congrArg (Hp.rows _) (by (first | (simp only [Nat.zero_add, Int.toNat_natCast]; exact Z8O Za _ (by omega)) | rfl))) | ((conv => whnf); refine ⟨?_, ?_⟩) | exact trivial | rfl)))
       · have heq : l[i] = l[i - 1]'(by omega) := Qd.ext' (by simp only [Za, Qd.row, List.cons.injEq, SV.int.injEq, SV.str.injEq, true_and, and_true]; exact h)
         rw [if_pos heq] at hsi
         refine ⟨i + 1, ⟨by omega, by omega, by rw [hsi]; omega, by rw [hsi]; omega⟩, by omega, ?_⟩
         rw [hsi]
         conv => whnf
         (refine GOES.cutting h0 rfl rfl rfl (by first | rfl | (simp only [Z4, Z3, Z0 _ (Zp _), Bool.and_self, Bool.and_true] <;> rfl)) ?_ ?_ <;> (repeat' (first | (with_reducible rfl) | (exact ZS rfl (by first | (simp; done) | omega | (simp; omega))) | (exact congrArg (SV.int _) (by first | omega | (simp (disch := omega) only [lnB, Z9, Zb] <;> omega) | (simp; done) | (simp <;> omega))) | (exact congrArg (Hp.rows _) (by rfl)) | ((conv => whnf); refine ⟨?_, ?_⟩) | exact trivial | rfl)))
     · have hCl : C = Z6 l := by rw [hC, List.take_of_length_le hil]
       have hcl : C.length ≤ l.length := by omega
       repeat' ((first | (refine NEED.mk (by simp only [List.length_map, List.length_append, List.length_drop]; omega) ?_; conv => whnf) | (refine NEED.mk ⟨by omega, WV (by omega)⟩ ?_; conv => whnf) | refine AU ?_ | (refine IW (fun h => ?_) (fun h => ?_) <;> try (exfalso; omega))) <;> conv => whnf)
       rw [← hCl]
       refine FIN.here h0 (rc := .sl (.loc 0) 0 16 C.length none) (Oc := [(0, .rows 16 ((C ++ List.replicate (l.length - C.length) ZF).map Za))]) (by simp) rfl (by first | rfl | (simp only [Z4, Z3, Z0 _ (Zp _), Bool.and_self, Bool.and_true] <;> rfl)) ⟨?_, trivial⟩ ⟨rfl, rfl, rfl⟩
       refine congrArg (Hp.rows 16) ?_
       simp only [Nat.zero_add, Int.toNat_natCast]
       exact Z4k Za ZF hcl
   · have hne : ¬ l[k] = l[k - 1] := fun he => by rw [he] at h; simp at h
     rw [if_neg hne, hk] at hs
     refine ⟨k + 1, ⟨by omega, by omega, by rw [hs, List.take_succ_eq_append_getElem hlt]⟩, by omega, ?_⟩
     conv => whnf
     (refine GOES.cutting h0 rfl rfl rfl (by first | rfl | (simp only [Z4, Z3, Z0 _ (Zp _), Bool.and_self, Bool.and_true] <;> rfl)) ?_ ?_ <;> (repeat' (first | (with_reducible rfl) | (exact ZS rfl (by first | (simp; done) | omega | (simp; omega))) | (exact congrArg (SV.int _) (by first | omega | (simp (disch := omega) only [lnB, Z9, Zb] <;> omega) | (simp; done) | (simp <;> omega))) | (exact congrArg (Hp.rows _) (by rfl)) | ((conv => whnf); refine ⟨?_, ?_⟩) | exact trivial | rfl)))
 · have hkn : k = l.length := by omega
   rw [hkn, List.take_of_length_le (Nat.le_refl _)] at hk
   obtain ⟨f1, f2⟩ := fin rfl hk
   repeat' ((first | refine AU ?_ | (refine IW (fun h => ?_) (fun h => ?_) <;> try (exfalso; omega))) <;> conv => whnf)
   rw [f1, f2]
   refine FIN.here h0 (rc := .sl (.loc 0) 0 16 (Z6 l).length none) (Oc := [(0, .rows 16 ((Z6 l ++ List.replicate (l.length - (Z6 l).length) ZF).map Za))]) rfl rfl (by first | rfl | (simp only [Z4, Z3, Z0 _ (Zp _), Bool.and_self, Bool.and_true] <;> rfl)) ⟨rfl, trivial⟩ ⟨rfl, rfl, rfl⟩
theorem Z5k (l z : List Tm) (lim : Option Nat) (hl : l.length * 56 ≤ 140741783322624) : Does Tryz.prog tab 80 1 [.sl (.loc 0) 0 4 l.length lim] [] [(0, .rows 4 ((l ++ z).map Zy))]
   (fun r O nx => r = .sl (.loc 1) 0 4 l.length none ∧ O = [(1, .rows 4 (l.map Zy))] ∧ nx = 2) := by
 refine Does.enter Z2 (g := 80) (fn := Tryz.f80) Tryz.call80 Tryz.func80 rfl 8 rfl rfl [.tmp 2] rfl ?_
 intro w0 F η0 h0
 conv => whnf
 repeat' ((first | (rw [Z3Q]; conv => whnf) | (refine NEED.mk (Xy 56 rfl rfl (by simp) (by simp) (by omega)) ?_; conv => whnf) | refine AU ?_ | ((with_reducible refine UNK.mk (fun h => ?_) ?_) <;> try (exfalso; omega)) | (refine IW (fun h => ?_) (fun h => ?_) <;> try (exfalso; omega))) <;> conv => whnf)
 · have : l = [] := List.length_eq_zero_iff.1 h
   subst this
   refine FIN.nil 4 ?_
   exact FIN.rows h0 1 4 0 rfl rfl rfl rfl ⟨rfl, rfl, rfl⟩
 · rw [Nat.zero_add]
   exact FIN.rows h0 2 4 l.length rfl rfl rfl (Zu _) ⟨rfl, rfl, rfl⟩
theorem Z7h (l : List Tm) (n : Nat) (hn : n ≤ l.length) (hl : l.length * 56 ≤ 140741783322624) : Does Tryz.prog tab 82 1 [.sl (.loc 0) 0 4 n none] [(0, .rows 4 (l.map Zy))] []
   (fun r O nx => r = .sl (.loc 0) 0 4 n (some n) ∧ O = [(0, .rows 4 (l.map Zy))] ∧ nx = 1) := by
 refine Does.enter Z2 (g := 82) (fn := Tryz.f82) Tryz.call82 Tryz.func82 rfl 9 rfl rfl [.tmp 2] rfl ?_
 intro w0 F η0 h0
 conv => whnf
 repeat' ((first | (refine NEED.mk ⟨by omega, by omega, by omega⟩ ?_; conv => whnf) | refine AU ?_ | (refine IW (fun h => ?_) (fun h => ?_) <;> try (exfalso; omega))) <;> conv => whnf)
 refine FIN.here h0 (rc := .sl (.loc 0) 0 4 n (some n)) (Oc := [(0, .rows 4 (l.map Zy))]) (by simp) rfl (by first | rfl | (simp only [Z4, Z3, Z0 _ (Zu _), Bool.and_self, Bool.and_true] <;> rfl)) ⟨rfl, trivial⟩ ⟨rfl, rfl, rfl⟩
theorem Z34 (l : List Tm) (hl : l.length * 56 ≤ 140741783322624) : Does Tryz.prog tab 83 1 [.sl (.loc 0) 0 4 l.length none] [(0, .rows 4 (l.map Zy))] []
   (fun r O nx => r = .sl (.loc 0) 0 4 (Z6 l).length none ∧ O = [(0, .rows 4 ((Z6 l ++ List.replicate (l.length - (Z6 l).length) Zd).map Zy))] ∧ nx = 1) := by
 have fin : ∀ {m : Nat}, m = (Z6 l).length → Z6 l = l → (SV.sl (.loc 0) 0 4 l.length none = SV.sl (.loc 0) 0 4 (Z6 l).length none) ∧ l.map Zy = (Z6 l ++ List.replicate (l.length - (Z6 l).length) Zd).map Zy := fun hm he => by
   rw [he]; simp
 refine Does.enter Z2 (g := 83) (fn := Tryz.f83) Tryz.call83 Tryz.func83 rfl 61 rfl rfl [.tmp 2] rfl ?_
 intro w0 F η0 h0
 conv => whnf
 refine IF.mk (fun h => ?_) (fun h => ?_)
 · have h : l.length < 2 := by simp at h; omega
   obtain ⟨f1, f2⟩ := fin rfl (Ul h)
   conv => whnf
   rw [f1, f2]
   refine FIN.here h0 (rc := .sl (.loc 0) 0 4 (Z6 l).length none) (Oc := [(0, .rows 4 ((Z6 l ++ List.replicate (l.length - (Z6 l).length) Zd).map Zy))]) rfl rfl (by first | rfl | (simp only [Z4, Z3, Z0 _ (Zu _), Bool.and_self, Bool.and_true] <;> rfl)) ⟨rfl, trivial⟩ ⟨rfl, rfl, rfl⟩
 have h2 : 2 ≤ l.length := by simp at h; omega
 clear h
 conv => whnf
 refine LOOP.go Z2 [0] (X := Nat) (fun k => 1 ≤ k ∧ k ≤ l.length ∧ Z6 (l.take k) = l.take k) (fun k => [(3, .int .i64 (k : Int))]) (fun k => [(0, .rows 4 (l.map Zy))]) 1 (fun k => l.length - k) 1 ⟨by omega, by omega, Z1f⟩ ?_
 conv => whnf
 refine ⟨by (refine GOES.cutting h0 rfl rfl rfl (by first | rfl | (simp only [Z4, Z3, Z0 _ (Zu _), Bool.and_self, Bool.and_true] <;> rfl)) ?_ ?_ <;> (repeat' (first | (with_reducible rfl) | (exact ZS rfl (by first | (simp; done) | omega | (simp; omega))) | (exact congrArg (SV.int _) (by first | omega | (simp (disch := omega) only [lnB, Z9, Zb] <;> omega) | (simp; done) | (simp <;> omega))) | (exact congrArg (Hp.rows _) (by rfl)) | ((conv => whnf); refine ⟨?_, ?_⟩) | exact trivial | rfl))), ?_⟩
 rintro k ⟨hk1, hkl, hk⟩
 conv => whnf
 rcases Nat.lt_or_ge k l.length with hlt | hge
 · have hs := Xt hk1 hlt
   have hk' : (IntKind.i64.wrap ((k : Int) - 1)).toNat = k - 1 := by rw [Z9 (by omega) (by omega)]; omega
   repeat' ((first | refine DRAWN.of (id := 6) Z2 mixed Jd (by kernel_rfl) ?_ | refine DRAWN.of (id := 11) Z2 mixed Jd (by kernel_rfl) ?_ | refine ADD.mk (fun _ _ => ?_) | refine AD ?_ | refine FORK.mk ?_ ?_ | (refine GET.at (row := Zy (l[k]'(by omega))) (Z2E (by omega) (by omega)) ?_; conv => whnf) | (refine GET.at (row := Zy (l[k - 1]'(by omega))) (Z2E (by omega) (by omega)) ?_; conv => whnf) | refine AU ?_ | (refine IW (fun h => ?_) (fun h => ?_) <;> try (exfalso; omega))) <;> conv => whnf)
   · have heq : l[k] = l[k - 1] := Tm.ext' (by simp only [Zy, List.cons.injEq, SV.int.injEq, SV.str.injEq, true_and, and_true]; exact h)
     rw [if_pos heq, hk] at hs
     have hs0 : (Z6 (l.take (k + 1))).length = k := by rw [hs]; simp; omega
     clear h heq
     refine LOOP.go Z2 [0, 4] (X := Nat) (fun i => k + 1 ≤ i ∧ i ≤ l.length ∧ (Z6 (l.take i)).length + 1 ≤ i ∧ k ≤ (Z6 (l.take i)).length) (fun i => [(3, .int .i64 ((Z6 (l.take i)).length : Int)), (5, .int .i64 ((i - k : Nat) : Int))]) (fun i => [(0, .rows 4 ((Z6 (l.take i) ++ l.drop (Z6 (l.take i)).length).map Zy))]) 1 (fun i => l.length - i) (k + 1) ⟨by omega, by omega, by omega, by omega⟩ ?_
     conv => whnf
     refine ⟨by (refine GOES.cutting h0 rfl rfl rfl (by first | rfl | (simp only [Z4, Z3, Z0 _ (Zu _), Bool.and_self, Bool.and_true] <;> rfl)) ?_ ?_ <;> (repeat' (first | (with_reducible rfl) | (exact ZS rfl (by first | (simp; done) | omega | (simp; omega))) | (exact congrArg (SV.int _) (by first | omega | (simp (disch := omega) only [lnB, Z9, Zb] <;> omega) | (simp; done) | (simp <;> omega))) | (exact congrArg (Hp.rows _) (by (rw [hs, List.length_take, Nat.min_eq_left hkl, List.take_append_drop]))) | ((conv => whnf); refine ⟨?_, ?_⟩) | exact trivial | rfl))), ?_⟩
     rintro i ⟨hi1, hi2, hi3, hi4⟩
     obtain ⟨C, hC⟩ : ∃ C, C = Z6 (l.take i) := ⟨_, rfl⟩
     have hsi := fun h => Xt (l := l) (i := i) (by omega) h
     rw [← hC] at hi3 hi4 hsi
     dsimp only
     rw [← hC]
     conv => whnf
     rcases Nat.lt_or_ge i l.length with hil | hil
     · have hsi := hsi hil
       have hwr : IntKind.i64.wrap (((i - k : Nat) : Int) - 1) = ((i - 1 - k : Nat) : Int) := by rw [Z9 (by omega) (by omega)]; omega
       have hg1 : ((C ++ l.drop C.length).map Zy)[i]? = some (Zy l[i]) := Z27 Zy (by omega) hil
       have hg2 : ((C ++ l.drop C.length).map Zy)[i - 1]? = some (Zy (l[i - 1]'(by omega))) := Z27 Zy (by omega) (by omega)
       have hg3 : ((C ++ l.drop C.length).map Zy)[C.length]? = some (Zy (l[C.length]'(by omega))) := Z27 Zy (Nat.le_refl _) (by omega)
       repeat' ((first | refine DRAWN.of (id := 6) Z2 mixed Jd (by kernel_rfl) ?_ | refine DRAWN.of (id := 11) Z2 mixed Jd (by kernel_rfl) ?_ | refine ADD.mk (fun _ _ => ?_) | refine AD ?_ | refine FORK.mk ?_ ?_ | (refine GET.at (row := Zy (l[i]'(by omega))) (Z7f hg1 (by omega)) ?_; conv => whnf) | (refine GET.at (row := Zy (l[i - 1]'(by omega))) (Z7f hg2 (by rw [hwr]; omega)) ?_; conv => whnf) | (refine GET.at (row := Zy (l[C.length]'(by omega))) (Z7f hg3 (by omega)) ?_; conv => whnf) | refine AU ?_ | (refine IW (fun h => ?_) (fun h => ?_) <;> try (exfalso; omega))) <;> conv => whnf)
       · have hne : ¬ l[i] = l[i - 1]'(by omega) := fun he => by rw [he] at h; simp at h
         rw [if_neg hne] at hsi
         refine ⟨i + 1, ⟨by omega, by omega, by rw [hsi, List.length_append]; simp; omega, by rw [hsi, List.length_append]; simp; omega⟩, by omega, ?_⟩
         rw [hsi]
         conv => whnf
         (refine GOES.cutting h0 rfl rfl rfl (by first | rfl | (simp only [Z4, Z3, Z0 _ (Zu _), Bool.and_self, Bool.and_true] <;> rfl)) ?_ ?_ <;> (repeat' (first | (with_reducible rfl) | (exact ZS rfl (by first | (simp; done) | omega | (simp; omega))) | (exact congrArg (SV.int _) (by first | omega | (simp (disch := omega) only [lnB, Z9, Zb] <;> omega) | (simp; done) | (simp <;> omega))) | (exact congrArg (Hp.rows _) (by (first | (simp only [Nat.zero_add, Int.toNat_natCast]; exact Z8O Zy _ (by omega)) | rfl))) | ((conv => whnf); refine ⟨?_, ?_⟩) | exact trivial | rfl)))
       · have heq : l[i] = l[i - 1]'(by omega) := Tm.ext' (by simp only [Zy, List.cons.injEq, SV.int.injEq, SV.str.injEq, true_and, and_true]; exact h)
         rw [if_pos heq] at hsi
         refine ⟨i + 1, ⟨by omega, by omega, by rw [hsi]; omega, by rw [hsi]; omega⟩, by omega, ?_⟩
         rw [hsi]
         conv => whnf
         (refine GOES.cutting h0 rfl rfl rfl (by first | rfl | (simp only [Z4, Z3, Z0 _ (Zu _), Bool.and_self, Bool.and_true] <;> rfl)) ?_ ?_ <;> (repeat' (first | (with_reducible rfl) | (exact ZS rfl (by first | (simp; done) | omega | (simp; omega))) | (exact congrArg (SV.int _) (by first | omega | (simp (disch := omega) only [lnB, Z9, Zb] <;> omega) | (simp; done) | (simp <;> omega))) | (exact congrArg (Hp.rows _) (by rfl)) | ((conv => whnf); refine ⟨?_, ?_⟩) | exact trivial | rfl)))
     · have hCl : C = Z6 l := by rw [hC, List.take_of_length_le hil]
       have hcl : C.length ≤ l.length := by omega
       repeat' ((first | (refine NEED.mk (by simp only [List.length_map, List.length_append, List.length_drop]; omega) ?_; conv => whnf) | (refine NEED.mk ⟨by omega, WV (by omega)⟩ ?_; conv => whnf) | refine AU ?_ | (refine IW (fun h => ?_) (fun h => ?_) <;> try (exfalso; omega))) <;> conv => whnf)
       rw [← hCl]
       refine FIN.here h0 (rc := .sl (.loc 0) 0 4 C.length none) (Oc := [(0, .rows 4 ((C ++ List.replicate (l.length - C.length) Zd).map Zy))]) (by simp) rfl (by first | rfl | (simp only [Z4, Z3, Z0 _ (Zu _), Bool.and_self, Bool.and_true] <;> rfl)) ⟨?_, trivial⟩ ⟨rfl, rfl, rfl⟩
       refine congrArg (Hp.rows 4) ?_
       simp only [Nat.zero_add, Int.toNat_natCast]
       exact Z4k Zy Zd hcl
   · have hne : ¬ l[k] = l[k - 1] := fun he => by rw [he] at h; simp at h
     rw [if_neg hne, hk] at hs
     refine ⟨k + 1, ⟨by omega, by omega, by rw [hs, List.take_succ_eq_append_getElem hlt]⟩, by omega, ?_⟩
     conv => whnf
     (refine GOES.cutting h0 rfl rfl rfl (by first | rfl | (simp only [Z4, Z3, Z0 _ (Zu _), Bool.and_self, Bool.and_true] <;> rfl)) ?_ ?_ <;> (repeat' (first | (with_reducible rfl) | (exact ZS rfl (by first | (simp; done) | omega | (simp; omega))) | (exact congrArg (SV.int _) (by first | omega | (simp (disch := omega) only [lnB, Z9, Zb] <;> omega) | (simp; done) | (simp <;> omega))) | (exact congrArg (Hp.rows _) (by rfl)) | ((conv => whnf); refine ⟨?_, ?_⟩) | exact trivial | rfl)))
 · have hkn : k = l.length := by omega
   rw [hkn, List.take_of_length_le (Nat.le_refl _)] at hk
   obtain ⟨f1, f2⟩ := fin rfl hk
   repeat' ((first | refine AU ?_ | (refine IW (fun h => ?_) (fun h => ?_) <;> try (exfalso; omega))) <;> conv => whnf)
   rw [f1, f2]
   refine FIN.here h0 (rc := .sl (.loc 0) 0 4 (Z6 l).length none) (Oc := [(0, .rows 4 ((Z6 l ++ List.replicate (l.length - (Z6 l).length) Zd).map Zy))]) rfl rfl (by first | rfl | (simp only [Z4, Z3, Z0 _ (Zu _), Bool.and_self, Bool.and_true] <;> rfl)) ⟨rfl, trivial⟩ ⟨rfl, rfl, rfl⟩
def Z8P : Go.Shelf.Ren := ⟨fun | 6 => 93 | 15 => 111 | 14 => 118 | 28 => 136 | 29 => 137 | 20 => 145 | 21 => 146 | 22 => 147 | 23 => 148 | 24 => 149 | 25 => 150 | 26 => 151 | 27 => 152 | 46 => 185 | 47 => 169 | 48 => 170 | 49 => 186 | 50 => 187 | 57 => 212 | n => n, fun | 22 => 22 | 24 => 30 | 25 => 79 | 3 => 3 | 39 => 136 | 0 => 0 | 53 => 158 | 55 => 160 | 4 => 4 | 46 => 152 | 45 => 151 | 50 => 35 | 5 => 5 | 9 => 9 | 66 => 182 | 70 => 186 | 76 => 207 | 77 => 33 | n => n, fun | n => n⟩
theorem Zc4 : Go.Proofs.SlLaysF0.n6 Tryz.prog Z8P where
 mixed := by kernel_rfl
 f6 := ⟨Tryz.f93.name, by decide, Tryz.func93.trans (congrArg some (by kernel_rfl))⟩
 f14 := ⟨Tryz.f118.name, by decide, Tryz.func118.trans (congrArg some (by kernel_rfl))⟩
 f15 := Tryz.func111.trans (congrArg some (by kernel_rfl))
 f20 := ⟨Tryz.f145.name, by decide, Tryz.func145.trans (congrArg some (by kernel_rfl))⟩
 f21 := ⟨Tryz.f146.name, by decide, Tryz.func146.trans (congrArg some (by kernel_rfl))⟩
 f22 := ⟨Tryz.f147.name, by decide, Tryz.func147.trans (congrArg some (by kernel_rfl))⟩
 f23 := ⟨Tryz.f148.name, by decide, Tryz.func148.trans (congrArg some (by kernel_rfl))⟩
 f24 := ⟨Tryz.f149.name, by decide, Tryz.func149.trans (congrArg some (by kernel_rfl))⟩
 f25 := ⟨Tryz.f150.name, by decide, Tryz.func150.trans (congrArg some (by kernel_rfl))⟩
 f26 := ⟨Tryz.f151.name, by decide, Tryz.func151.trans (congrArg some (by kernel_rfl))⟩
 f27 := ⟨Tryz.f152.name, by decide, Tryz.func152.trans (congrArg some (by kernel_rfl))⟩
 f28 := Tryz.func136.trans (congrArg some (by kernel_rfl))
 f29 := Tryz.func137.trans (congrArg some (by kernel_rfl))
 f46 := ⟨Tryz.f185.name, by decide, Tryz.func185.trans (congrArg some (by kernel_rfl))⟩
 f47 := Tryz.func169.trans (congrArg some (by kernel_rfl))
 f48 := Tryz.func170.trans (congrArg some (by kernel_rfl))
 f49 := ⟨Tryz.f186.name, by decide, Tryz.func186.trans (congrArg some (by kernel_rfl))⟩
 f50 := ⟨Tryz.f187.name, by decide, Tryz.func187.trans (congrArg some (by kernel_rfl))⟩
 f57 := ⟨Tryz.f212.name, by decide, Tryz.func212.trans (congrArg some (by kernel_rfl))⟩
 t0 := Tryz.underlying0
 a0 := Tryz.isAgg0
 z0 := Tryz.sizeOf0
 v0 := Tryz.zeroValue0
 t3 := Tryz.underlying3
 a3 := Tryz.isAgg3
 z3 := Tryz.sizeOf3
 v3 := Tryz.zeroValue3
 t4 := Tryz.underlying4
 a4 := Tryz.isAgg4
 z4 := Tryz.sizeOf4
 v4 := Tryz.zeroValue4
 t5 := Tryz.underlying5
 a5 := Tryz.isAgg5
 z5 := Tryz.sizeOf5
 v5 := Tryz.zeroValue5
 t9 := Tryz.underlying9
 a9 := Tryz.isAgg9
 z9 := Tryz.sizeOf9
 v9 := Tryz.zeroValue9
 t22 := Tryz.underlying22
 a22 := Tryz.isAgg22
 z22 := Tryz.sizeOf22
 v22 := Tryz.zeroValue22
 t25 := Tryz.underlying79
 a25 := Tryz.isAgg79
 z25 := Tryz.sizeOf79
 v25 := Tryz.zeroValue79
 t39 := Tryz.underlying136
 a39 := Tryz.isAgg136
 z39 := Tryz.sizeOf136
 v39 := Tryz.zeroValue136
 t45 := Tryz.underlying151
 a45 := Tryz.isAgg151
 z45 := Tryz.sizeOf151
 v45 := Tryz.zeroValue151
 t46 := Tryz.underlying152
 a46 := Tryz.isAgg152
 z46 := Tryz.sizeOf152
 v46 := Tryz.zeroValue152
 t50 := Tryz.underlying35
 a50 := Tryz.isAgg35
 z50 := Tryz.sizeOf35
 v50 := Tryz.zeroValue35
 t53 := Tryz.underlying158
 a53 := Tryz.isAgg158
 z53 := Tryz.sizeOf158
 v53 := Tryz.zeroValue158
 t55 := Tryz.underlying160
 a55 := Tryz.isAgg160
 z55 := Tryz.sizeOf160
 v55 := Tryz.zeroValue160
 t66 := Tryz.underlying182
 a66 := Tryz.isAgg182
 z66 := Tryz.sizeOf182
 v66 := Tryz.zeroValue182
 t70 := Tryz.underlying186
 a70 := Tryz.isAgg186
 z70 := Tryz.sizeOf186
 v70 := Tryz.zeroValue186
 t76 := Tryz.underlying207
 a76 := Tryz.isAgg207
 z76 := Tryz.sizeOf207
 v76 := Tryz.zeroValue207
 t77 := Tryz.underlying33
 a77 := Tryz.isAgg33
 z77 := Tryz.sizeOf33
 v77 := Tryz.zeroValue33
def Z8Q : Go.Shelf.Ren := ⟨fun | 6 => 81 | 15 => 111 | 14 => 110 | 28 => 136 | 29 => 137 | 20 => 128 | 21 => 129 | 22 => 130 | 23 => 131 | 24 => 132 | 25 => 133 | 26 => 134 | 27 => 135 | 46 => 168 | 47 => 169 | 48 => 170 | 49 => 171 | 50 => 172 | 57 => 193 | n => n, fun | 22 => 53 | 24 => 28 | 25 => 92 | 3 => 3 | 39 => 136 | 0 => 0 | 53 => 158 | 55 => 160 | 4 => 4 | 46 => 152 | 45 => 151 | 50 => 35 | 5 => 5 | 9 => 9 | 66 => 182 | 70 => 186 | 76 => 207 | 77 => 33 | n => n, fun | n => n⟩
theorem Zc5 : Go.Proofs.SlLaysF0.n6 Tryz.prog Z8Q where
 mixed := by kernel_rfl
 f6 := ⟨Tryz.f81.name, by decide, Tryz.func81.trans (congrArg some (by kernel_rfl))⟩
 f14 := ⟨Tryz.f110.name, by decide, Tryz.func110.trans (congrArg some (by kernel_rfl))⟩
 f15 := Tryz.func111.trans (congrArg some (by kernel_rfl))
 f20 := ⟨Tryz.f128.name, by decide, Tryz.func128.trans (congrArg some (by kernel_rfl))⟩
 f21 := ⟨Tryz.f129.name, by decide, Tryz.func129.trans (congrArg some (by kernel_rfl))⟩
 f22 := ⟨Tryz.f130.name, by decide, Tryz.func130.trans (congrArg some (by kernel_rfl))⟩
 f23 := ⟨Tryz.f131.name, by decide, Tryz.func131.trans (congrArg some (by kernel_rfl))⟩
 f24 := ⟨Tryz.f132.name, by decide, Tryz.func132.trans (congrArg some (by kernel_rfl))⟩
 f25 := ⟨Tryz.f133.name, by decide, Tryz.func133.trans (congrArg some (by kernel_rfl))⟩
 f26 := ⟨Tryz.f134.name, by decide, Tryz.func134.trans (congrArg some (by kernel_rfl))⟩
 f27 := ⟨Tryz.f135.name, by decide, Tryz.func135.trans (congrArg some (by kernel_rfl))⟩
 f28 := Tryz.func136.trans (congrArg some (by kernel_rfl))
 f29 := Tryz.func137.trans (congrArg some (by kernel_rfl))
 f46 := ⟨Tryz.f168.name, by decide, Tryz.func168.trans (congrArg some (by kernel_rfl))⟩
 f47 := Tryz.func169.trans (congrArg some (by kernel_rfl))
 f48 := Tryz.func170.trans (congrArg some (by kernel_rfl))
 f49 := ⟨Tryz.f171.name, by decide, Tryz.func171.trans (congrArg some (by kernel_rfl))⟩
 f50 := ⟨Tryz.f172.name, by decide, Tryz.func172.trans (congrArg some (by kernel_rfl))⟩
 f57 := ⟨Tryz.f193.name, by decide, Tryz.func193.trans (congrArg some (by kernel_rfl))⟩
 t0 := Tryz.underlying0
 a0 := Tryz.isAgg0
 z0 := Tryz.sizeOf0
 v0 := Tryz.zeroValue0
 t3 := Tryz.underlying3
 a3 := Tryz.isAgg3
 z3 := Tryz.sizeOf3
 v3 := Tryz.zeroValue3
 t4 := Tryz.underlying4
 a4 := Tryz.isAgg4
 z4 := Tryz.sizeOf4
 v4 := Tryz.zeroValue4
 t5 := Tryz.underlying5
 a5 := Tryz.isAgg5
 z5 := Tryz.sizeOf5
 v5 := Tryz.zeroValue5
 t9 := Tryz.underlying9
 a9 := Tryz.isAgg9
 z9 := Tryz.sizeOf9
 v9 := Tryz.zeroValue9
 t22 := Tryz.underlying53
 a22 := Tryz.isAgg53
 z22 := Tryz.sizeOf53
 v22 := Tryz.zeroValue53
 t25 := Tryz.underlying92
 a25 := Tryz.isAgg92
 z25 := Tryz.sizeOf92
 v25 := Tryz.zeroValue92
 t39 := Tryz.underlying136
 a39 := Tryz.isAgg136
 z39 := Tryz.sizeOf136
 v39 := Tryz.zeroValue136
 t45 := Tryz.underlying151
 a45 := Tryz.isAgg151
 z45 := Tryz.sizeOf151
 v45 := Tryz.zeroValue151
 t46 := Tryz.underlying152
 a46 := Tryz.isAgg152
 z46 := Tryz.sizeOf152
 v46 := Tryz.zeroValue152
 t50 := Tryz.underlying35
 a50 := Tryz.isAgg35
 z50 := Tryz.sizeOf35
 v50 := Tryz.zeroValue35
 t53 := Tryz.underlying158
 a53 := Tryz.isAgg158
 z53 := Tryz.sizeOf158
 v53 := Tryz.zeroValue158
 t55 := Tryz.underlying160
 a55 := Tryz.isAgg160
 z55 := Tryz.sizeOf160
 v55 := Tryz.zeroValue160
 t66 := Tryz.underlying182
 a66 := Tryz.isAgg182
 z66 := Tryz.sizeOf182
 v66 := Tryz.zeroValue182
 t70 := Tryz.underlying186
 a70 := Tryz.isAgg186
 z70 := Tryz.sizeOf186
 v70 := Tryz.zeroValue186
 t76 := Tryz.underlying207
 a76 := Tryz.isAgg207
 z76 := Tryz.sizeOf207
 v76 := Tryz.zeroValue207
 t77 := Tryz.underlying33
 a77 := Tryz.isAgg33
 z77 := Tryz.sizeOf33
 v77 := Tryz.zeroValue33
abbrev strU (s : List UInt8) : Value := .string ⟨s.toArray⟩
def qdE (q : Qd) : List Value := [.int .i64 q.s.k, strU q.s.t, strU q.s.y, strU q.s.l, .int .i64 q.p.k, strU q.p.t, strU q.p.y, strU q.p.l, .int .i64 q.o.k, strU q.o.t, strU q.o.y, strU q.o.l, .int .i64 q.g.k, strU q.g.t, strU q.g.y, strU q.g.l]
def tmE (x : Tm) : List Value := [.int .i64 x.k, strU x.t, strU x.y, strU x.l]
instance : Inhabited Tm := ⟨Zd⟩
instance : Inhabited Qd := ⟨ZF⟩
theorem Z35 {α : Type} (c : α → α → Int) (x y : α) : ltOf c x y = decide (c x y < 0) := rfl
theorem ZaC {α : Type} {c : α → α → Int} (h : Tri c) : SWO (ltOf c) where
 irrefl x := by rw [Z35, h.self]; rfl
 trans x y z h1 h2 := by rw [Z35] at *; simp only [decide_eq_true_iff] at *; exact h.lt_trans h1 (by omega)
 ntrans x y z h1 h2 := by
   rw [Z35] at *
   simp only [decide_eq_false_iff_not] at *
   intro hc
   have := h.anti x y; have := h.anti y z; have := h.anti x z
   have := h.trans z y x (by omega) (by omega)
   omega
theorem ZaD {α : Type} {c : α → α → Int} (h : Tri c) (x y : α) (h1 : ltOf c x y = false) (h2 : ltOf c y x = false) : x = y := by
 rw [Z35] at *
 simp only [decide_eq_false_iff_not] at *
 have := h.anti x y
 exact (h.zero x y).1 (by omega)
theorem Z6f {η : Env} : ∀ {vs us : List Value} {cs : List SV}, DenL η cs vs → DenL η cs us → Z1l cs = true → vs = us := fun h h' hd => DetL.of hd _ _ _ h h'
theorem Z7i (l : List Qd) (hl : l.length * 224 ≤ 140741783322624) : Does Tryz.prog tab 93 1 [.sl (.loc 0) 0 16 l.length none, .fn (.func 62) [] []] [(0, .rows 16 (l.map Za))] []
   (fun r O nx => r = .tup [] ∧ O = [(0, .rows 16 ((l.mergeSort (leC ZB)).map Za))] ∧ nx = 1) := by
 have hrow : ∀ (η : Env) (q : Qd), DenL η (Za q) (qdE q) ∧ ∀ u ∈ qdE q, u.oneCell' = true := fun η q => by
   refine ⟨by simp only [Za, qdE, DenL, Den]; exact ⟨_, _, rfl, rfl, _, _, rfl, rfl, _, _, rfl, rfl, _, _, rfl, rfl, _, _, rfl, rfl, _, _, rfl, rfl, _, _, rfl, rfl, _, _, rfl, rfl, _, _, rfl, rfl, _, _, rfl, rfl, _, _, rfl, rfl, _, _, rfl, rfl, _, _, rfl, rfl, _, _, rfl, rfl, _, _, rfl, rfl, _, _, rfl, rfl, rfl⟩, fun u hu => ?_⟩
   simp only [qdE, List.mem_cons, List.not_mem_nil, or_false] at hu
   rcases hu with rfl | rfl | rfl | rfl | rfl | rfl | rfl | rfl | rfl | rfl | rfl | rfl | rfl | rfl | rfl | rfl <;> rfl
 exact UP (enc := qdE) (k := 16) (row := Za) (cf := ZB) Z2 Zc4 Zc4 (fun w => by kernel_rfl) (fun w => by kernel_rfl) (fun q => ⟨rfl, rfl⟩) (by omega) (ZaC triQ) (ZaD triQ) rfl (fun x y => VI x y) Tryz.call62 Tryz.call93 hrow (fun η x vs h => Z6f h (hrow η x).1 rfl) l (by omega)
theorem Z7j (l : List Tm) (hl : l.length * 56 ≤ 140741783322624) : Does Tryz.prog tab 81 1 [.sl (.loc 0) 0 4 l.length none, .fn (.func 57) [] []] [(0, .rows 4 (l.map Zy))] []
   (fun r O nx => r = .tup [] ∧ O = [(0, .rows 4 ((l.mergeSort (leC ZM)).map Zy))] ∧ nx = 1) := by
 have hrow : ∀ (η : Env) (q : Tm), DenL η (Zy q) (tmE q) ∧ ∀ u ∈ tmE q, u.oneCell' = true := fun η q => by
   refine ⟨by simp only [Zy, tmE, DenL, Den]; exact ⟨_, _, rfl, rfl, _, _, rfl, rfl, _, _, rfl, rfl, _, _, rfl, rfl, rfl⟩, fun u hu => ?_⟩
   simp only [tmE, List.mem_cons, List.not_mem_nil, or_false] at hu
   rcases hu with rfl | rfl | rfl | rfl <;> rfl
 exact UP (enc := tmE) (k := 4) (row := Zy) (cf := ZM) Z2 Zc5 Zc5 (fun w => by kernel_rfl) (fun w => by kernel_rfl) (fun q => ⟨rfl, rfl⟩) (by omega) (ZaC triT) (ZaD triT) rfl (fun x y => Jy x y) Tryz.call57 Tryz.call81 hrow (fun η x vs h => Z6f h (hrow η x).1 rfl) l (by omega)
end Go.Proofs.YtjbbkimodgffiaaGreatDoor
namespace Go.Proofs.YtjbbkimodgffiaaGreatDoor
open Go.Sx Go.Our
def Z28 {α : Type} (f : α → List SV) (es k : Nat) (z : α) (n : Nat) (l : List α) : SV → Hps → Nat → Prop := fun r O nx => ∃ j, j + l.length ≤ n ∧ r = .sl (.loc k) 0 es l.length (some l.length) ∧ O = [(k, .rows es ((l ++ List.replicate j z).map f))] ∧ nx = k + 1
theorem Z4l (l z : List Qd) (lim : Option Nat) (hl : l.length * 224 ≤ 140741783322624) : Does Tryz.prog tab 64 1 [.sl (.loc 0) 0 16 l.length lim, .fn (.func 62) [] []] [] [(0, .rows 16 ((l ++ z).map Za))]
   (Z28 Za 16 1 ZF l.length (setL ZB l)) := by
 have hm : (l.mergeSort (leC ZB)).length = l.length := List.length_mergeSort l
 have hc := JX (l.mergeSort (leC ZB))
 have hcc : (Z6 (l.mergeSort (leC ZB)) ++ List.replicate ((l.mergeSort (leC ZB)).length - (Z6 (l.mergeSort (leC ZB))).length) ZF).length * 224 ≤ 140741783322624 := by rw [List.length_append, List.length_replicate]; omega
 refine Does.enter Z2 (g := 64) (fn := Tryz.f64) Tryz.call64 Tryz.func64 rfl 14 rfl rfl [.tmp 4] rfl ?_
 intro w0 F η0 h0
 conv => whnf
 refine CALL.aA [0] (Z1h l z lim hl) ?_
 rintro r O nx ⟨rfl, rfl, rfl⟩
 conv => whnf
 refine CALL.aA [1] (Z7i l hl) ?_
 rintro r O nx ⟨rfl, rfl, rfl⟩
 conv => whnf
 rw [← hm]
 refine CALL.aA [1] (Z33 (l.mergeSort (leC ZB)) (by omega)) ?_
 rintro r O nx ⟨rfl, rfl, rfl⟩
 conv => whnf
 refine CALL.aA [1] (Z7g (Z6 (l.mergeSort (leC ZB)) ++ List.replicate ((l.mergeSort (leC ZB)).length - (Z6 (l.mergeSort (leC ZB))).length) ZF) (Z6 (l.mergeSort (leC ZB))).length (by simp) hcc) ?_
 rintro r O nx ⟨rfl, rfl, rfl⟩
 conv => whnf
 refine FIN.aA h0 [1] (.sl (.loc 1) 0 16 (setL ZB l).length (some (setL ZB l).length)) [(1, .rows 16 ((setL ZB l ++ List.replicate ((l.mergeSort (leC ZB)).length - (Z6 (l.mergeSort (leC ZB))).length) ZF).map Za))] ?_
 exact ⟨_, by unfold setL; omega, rfl, rfl, rfl⟩
theorem WB (l z : List Tm) (lim : Option Nat) (hl : l.length * 56 ≤ 140741783322624) : Does Tryz.prog tab 56 1 [.sl (.loc 0) 0 4 l.length lim, .fn (.func 57) [] []] [] [(0, .rows 4 ((l ++ z).map Zy))]
   (Z28 Zy 4 1 Zd l.length (setL ZM l)) := by
 have hm : (l.mergeSort (leC ZM)).length = l.length := List.length_mergeSort l
 have hc := JX (l.mergeSort (leC ZM))
 have hcc : (Z6 (l.mergeSort (leC ZM)) ++ List.replicate ((l.mergeSort (leC ZM)).length - (Z6 (l.mergeSort (leC ZM))).length) Zd).length * 56 ≤ 140741783322624 := by rw [List.length_append, List.length_replicate]; omega
 refine Does.enter Z2 (g := 56) (fn := Tryz.f56) Tryz.call56 Tryz.func56 rfl 14 rfl rfl [.tmp 4] rfl ?_
 intro w0 F η0 h0
 conv => whnf
 refine CALL.aA [0] (Z5k l z lim hl) ?_
 rintro r O nx ⟨rfl, rfl, rfl⟩
 conv => whnf
 refine CALL.aA [1] (Z7j l hl) ?_
 rintro r O nx ⟨rfl, rfl, rfl⟩
 conv => whnf
 rw [← hm]
 refine CALL.aA [1] (Z34 (l.mergeSort (leC ZM)) (by omega)) ?_
 rintro r O nx ⟨rfl, rfl, rfl⟩
 conv => whnf
 refine CALL.aA [1] (Z7h (Z6 (l.mergeSort (leC ZM)) ++ List.replicate ((l.mergeSort (leC ZM)).length - (Z6 (l.mergeSort (leC ZM))).length) Zd) (Z6 (l.mergeSort (leC ZM))).length (by simp) hcc) ?_
 rintro r O nx ⟨rfl, rfl, rfl⟩
 conv => whnf
 refine FIN.aA h0 [1] (.sl (.loc 1) 0 4 (setL ZM l).length (some (setL ZM l).length)) [(1, .rows 4 ((setL ZM l ++ List.replicate ((l.mergeSort (leC ZM)).length - (Z6 (l.mergeSort (leC ZM))).length) Zd).map Zy))] ?_
 exact ⟨_, by unfold setL; omega, rfl, rfl, rfl⟩
theorem Z5l (l z : List Qd) (lim : Option Nat) (hl : l.length * 224 ≤ 140741783322624) : Does Tryz.prog tab 34 1 [.sl (.loc 0) 0 16 l.length lim] [] [(0, .rows 16 ((l ++ z).map Za))] (Z28 Za 16 1 ZF l.length (setL ZB l)) := by
 refine Does.enter Z2 (g := 34) (fn := Tryz.f34) Tryz.call34 Tryz.func34 rfl 5 rfl rfl [.tmp 2] rfl ?_
 intro w0 F η0 h0
 conv => whnf
 refine CALL.aA [0] (Z4l l z lim hl) ?_
 rintro r O nx ⟨j, hj, rfl, rfl, rfl⟩
 conv => whnf
 refine FIN.aA h0 [1] (.sl (.loc 1) 0 16 (setL ZB l).length (some (setL ZB l).length)) [(1, .rows 16 ((setL ZB l ++ List.replicate j ZF).map Za))] ?_
 exact ⟨j, hj, rfl, rfl, rfl⟩
theorem Z29 (l z : List Qd) (lim : Option Nat) (hl : Z16 l) : Does Tryz.prog tab 34 1 [.sl (.loc 0) 0 16 l.length lim] [] [(0, .rows 16 ((l ++ z).map Za))] (Z28 Za 16 1 ZF l.length (setL ZB l)) := Z5l l z lim (by unfold Z16 at hl; omega)
def Z6k : Plan := (Zq [(0, 1), (1, 1), (2, 1), (3, 1), (4, 2), (5, 2), (6, 3), (7, 1)])
def Z6l : Plan := (Zq [(0, 1), (1, 1), (2, 1), (3, 1), (4, 1), (5, 1), (6, 1), (7, 1), (8, 1), (9, 2), (10, 2), (11, 3), (12, 1), (13, 1), (14, 1), (15, 1)])
theorem Z6m {l z : List Qd} {i : Nat} {k : Nat} (h : i < l.length) (e : k = i) : ((l ++ z).map Za)[k]? = some (Za l[i]) := by subst e; exact JE h
theorem Za7 {l : List Qd} {q : Qd} {n : Nat} (hn : n = placeM ZB l q) : Z24 ZB l q = if h : n < l.length then decide (l[n] = q) else false := by
 subst hn
 unfold Z24
 split
 · rename_i h
   rw [List.getElem?_eq_getElem h]
   simp
 · rename_i h
   rw [List.getElem?_eq_none (by omega)]
   simp
theorem Zbo {i j : Nat} (h : i + j ≤ 2305843009213693952) : IntKind.i64.wrap (iShr .u64 (IntKind.u64.wrap (IntKind.i64.wrap ((i : Int) + (j : Int)))) 1) = (((i + j) / 2 : Nat) : Int) := by
 have h0 : IntKind.i64.wrap ((i : Int) + (j : Int)) = ((i + j : Nat) : Int) := by rw [Z9 (by omega) (by omega)]; omega
 have h1 : IntKind.u64.wrap ((i + j : Nat) : Int) = ((i + j : Nat) : Int) := IntWalk.u64_in _ ⟨by omega, by omega⟩
 have h2 : iShr .u64 ((i + j : Nat) : Int) 1 = (((i + j) / 2 : Nat) : Int) := by
   unfold iShr; simp [IntKind.bits, Int.fdiv_eq_ediv]
 rw [h0, h1, h2, Z9 (by omega) (by omega)]
theorem Z7m (l z : List Qd) (q : Qd) (lim : Option Nat) (hz : (l ++ z).length * 224 ≤ 281474976710656) (hr : Rise ZB l) : Does Tryz.prog tab 71 1 [.sl (.loc 0) 0 16 l.length lim, .agg (Za q), .fn (.func 62) [] []] [] [(0, .rows 16 ((l ++ z).map Za))]
   (ValK 1 (.tup [.int .i64 (placeM ZB l q : Int), .bool (Z24 ZB l q)])) := by
 have hz1 : (l ++ z).length = l.length + z.length := List.length_append
 refine Does.enter Z2 (g := 71) (fn := Tryz.f71) Tryz.call71 Tryz.func71 rfl 49 rfl rfl [.tmp 6, .tmp 7] rfl ?_
 intro w0 F η0 h0
 conv => whnf
 repeat' ((first | refine AU ?_ | (refine IW (fun h => ?_) (fun h => ?_) <;> try (exfalso; omega))) <;> conv => whnf)
 refine LOOP.go Z2 [0, 2, 4, 8] (X := Nat × Nat) (fun x => x.1 ≤ x.2 ∧ x.2 ≤ l.length ∧ (∀ k (hk : k < l.length), k < x.1 → ZB l[k] q < 0) ∧ (∀ k (hk : k < l.length), x.2 ≤ k → ¬ ZB l[k] q < 0)) (fun x => [(9, .int .i64 (x.1 : Int)), (10, .int .i64 (x.2 : Int))]) (fun x => [(1, .box (Za q))]) 2 (fun x => x.2 - x.1) (0, l.length) ⟨by simp, by simp, fun k _ h => by simp at h, fun k _ h => by simp at h; omega⟩ ?_
 conv => whnf
 refine ⟨by (refine GOES.cutting h0 rfl rfl rfl (by first | rfl | (simp only [Z4, Z3, Z0 _ (Zp _), Bool.and_self, Bool.and_true] <;> rfl)) ?_ ?_ <;> (repeat' (first | (with_reducible rfl) | (exact ZS rfl (by first | (simp; done) | omega | (simp; omega))) | (exact congrArg (SV.int _) (by first | omega | (simp (disch := omega) only [lnB, Z9, Zb] <;> omega) | (simp; done) | (simp <;> omega))) | (exact congrArg (Hp.rows _) (by rfl)) | ((conv => whnf); refine ⟨?_, ?_⟩) | exact trivial | rfl))), ?_⟩
 rintro ⟨i, j⟩ ⟨hij, hjl, hlow, hhigh⟩
 dsimp only at hij hjl hlow hhigh ⊢
 conv => whnf
 rcases Nat.lt_or_ge i j with hlt | hge
 · have hh := Zbo (i := i) (j := j) (by omega)
   have hm : (i + j) / 2 < l.length := by omega
   repeat' ((first | refine DRAWN.of (id := 5) Z2 mixed Z6k (by kernel_rfl) ?_ | refine DRAWN.of (id := 8) Z2 mixed Z6l (by kernel_rfl) ?_ | refine ADD.mk (fun _ _ => ?_) | refine AD ?_ | refine FORK.mk ?_ ?_ | refine CALL.value (VI _ _) rfl rfl ?_ | (rw [hh]; conv => whnf) | (refine GET.at (row := Za (l[(i + j) / 2]'(by omega))) (Z6m (by omega) (by omega)) ?_; conv => whnf) | refine AU ?_ | (refine IW (fun h => ?_) (fun h => ?_) <;> try (exfalso; omega))) <;> conv => whnf)
   · refine ⟨((i + j) / 2 + 1, j), ⟨by dsimp only; omega, by dsimp only; omega, fun k hk hkn => Z4h triQ hr (by dsimp only at hkn; omega) hm h, hhigh⟩, by dsimp only; omega, ?_⟩
     dsimp only
     conv => whnf
     (refine GOES.cutting h0 rfl rfl rfl (by first | rfl | (simp only [Z4, Z3, Z0 _ (Zp _), Bool.and_self, Bool.and_true] <;> rfl)) ?_ ?_ <;> (repeat' (first | (with_reducible rfl) | (exact ZS rfl (by first | (simp; done) | omega | (simp; omega))) | (exact congrArg (SV.int _) (by first | omega | (simp (disch := omega) only [lnB, Z9, Zb] <;> omega) | (simp; done) | (simp <;> omega))) | (exact congrArg (Hp.rows _) (by rfl)) | ((conv => whnf); refine ⟨?_, ?_⟩) | exact trivial | rfl)))
   · refine ⟨(i, (i + j) / 2), ⟨by dsimp only; omega, by dsimp only; omega, hlow, fun k hk hkn => Z7c triQ hr hkn hk (by dsimp only; omega)⟩, by dsimp only; omega, ?_⟩
     dsimp only
     conv => whnf
     (refine GOES.cutting h0 rfl rfl rfl (by first | rfl | (simp only [Z4, Z3, Z0 _ (Zp _), Bool.and_self, Bool.and_true] <;> rfl)) ?_ ?_ <;> (repeat' (first | (with_reducible rfl) | (exact ZS rfl (by first | (simp; done) | omega | (simp; omega))) | (exact congrArg (SV.int _) (by first | omega | (simp (disch := omega) only [lnB, Z9, Zb] <;> omega) | (simp; done) | (simp <;> omega))) | (exact congrArg (Hp.rows _) (by rfl)) | ((conv => whnf); refine ⟨?_, ?_⟩) | exact trivial | rfl)))
 · repeat' ((first | refine DRAWN.of (id := 5) Z2 mixed Z6k (by kernel_rfl) ?_ | refine DRAWN.of (id := 8) Z2 mixed Z6l (by kernel_rfl) ?_ | refine ADD.mk (fun _ _ => ?_) | refine AD ?_ | refine FORK.mk ?_ ?_ | refine CALL.value (VI _ _) rfl rfl ?_ | (refine GET.at (row := Za (l[i]'(by omega))) (Z6m (by omega) (by omega)) ?_; conv => whnf) | refine AU ?_ | (refine IW (fun h => ?_) (fun h => ?_) <;> try (exfalso; omega))) <;> conv => whnf)
   all_goals
     have hpl : i = placeM ZB l q := Z66 triQ (by omega) hlow fun k hk hnk => hhigh k hk (by omega)
     refine FIN.valueK h0 rfl ?_
     rw [Za7 hpl, ← hpl]
   · have hil : i < l.length := by omega
     rw [dif_pos hil]
     refine congrArg (fun b => SV.tup [.int .i64 (i : Int), .bool b]) ?_
     have := triQ.zero l[i] q
     rw [cond_true, Bool.eq_iff_iff, beq_iff_eq, decide_eq_true_iff, this]
   · rw [dif_neg (by omega)]
theorem Z8Y (l z : List Qd) (q : Qd) (lim : Option Nat) (hz : (l ++ z).length * 224 ≤ 281474976710656) (hr : Rise ZB l) : Does Tryz.prog tab 44 1 [.sl (.loc 0) 0 16 l.length lim, .agg (Za q)] [] [(0, .rows 16 ((l ++ z).map Za))]
   (ValK 1 (.tup [.int .i64 (placeM ZB l q : Int), .bool (Z24 ZB l q)])) := by
 refine Does.enter Z2 (g := 44) (fn := Tryz.f44) Tryz.call44 Tryz.func44 rfl 11 rfl rfl [.tmp 4, .tmp 5] rfl ?_
 intro w0 F η0 h0
 conv => whnf
 repeat' ((first | refine AU ?_ | (refine IW (fun h => ?_) (fun h => ?_) <;> try (exfalso; omega))) <;> conv => whnf)
 refine CALL.aA [0] (Z7m l z q lim hz hr) ?_
 rintro r O nx ⟨rfl, rfl, rfl⟩
 conv => whnf
 exact FIN.valueK h0 rfl rfl
theorem Za8 {ys xs : List (List SV)} {r n m l b : Nat} (B : Nat) (hb : Nat.ble b B = true) (hB : Nat.ble 1 B = true) (h0 : l = r + n) (hm : 0 < m) (h1 : ys.length = n) (h2 : xs.length = m) (h3 : min (2 * (n + m)) ((n + m) + (n + m) / 4 + 192) * B ≤ 281474976710656) :
   l = r + n ∧ 0 < m ∧ ys.length = n ∧ xs.length = m ∧ n + m ≤ 9223372036854775807 ∧ min (2 * (n + m)) ((n + m) + (n + m) / 4 + 192) * b ≤ 281474976710656 := by
 have h4 := Xy (xs := xs) (n := n) (k := n) B hb hB h2 (Nat.le_refl _) h3
 exact ⟨h0, hm, h1, h2, h4.2.2.1, h4.2.2.2⟩
end Go.Proofs.YtjbbkimodgffiaaGreatDoor
