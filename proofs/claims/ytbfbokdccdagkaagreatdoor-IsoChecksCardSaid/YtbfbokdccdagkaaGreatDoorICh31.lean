/- Part 31: Lent. Conditions: as each part says. -/
import Derived.Test.YtbfbokdccdagkaaGreatDoorICh9
import Derived.Test.YtbfbokdccdagkaaGreatDoorICh21
import Derived.Test.YtbfbokdccdagkaaGreatDoorICh22
set_option linter.unusedVariables false
set_option linter.unusedSimpArgs false
set_option maxRecDepth 20000
set_option maxHeartbeats 8000000
namespace Go.Proofs.YtbfbokdccdagkaaGreatDoor
open Go.Sx Go.Our
def Z9H : Plan := (ZO [(0, 1), (1, 1), (2, 1), (4, 1), (5, 1), (6, 1), (3, 2), (7, 2), (8, 1)])
def Z9I : Plan := (ZO [(0, 1), (1, 1), (2, 3), (3, 1), (4, 1), (5, 1), (6, 1), (7, 1), (8, 2), (9, 3), (10, 1), (11, 1), (12, 1)])
def Wv : Qd := ⟨⟨77, [104, 111, 108, 100, 101, 114], [], []⟩, Yb, Yb, Yb⟩
theorem UY : Does Tryz.prog tab 35 0 [] [] [] (Val (.agg (Zl Wv))) := by
 refine Does.enter Z3 (g := 35) (fn := Tryz.f35) Tryz.call35 Tryz.func35 rfl 3 rfl rfl [.cell 0 67] rfl ?_
 intro w0 F η0 h0
 conv => whnf
 repeat' ((first | refine AU ?_ | (refine IW (fun h => ?_) (fun h => ?_) <;> try (exfalso; omega))) <;> conv => whnf)
 exact FIN.value h0 rfl rfl
theorem ZaA (n : Int) : Does Tryz.prog tab 19 0 [.int .i64 n] [] [] (Val (.int .i64 n)) := by
 refine Does.enter Z3 (g := 19) (fn := Tryz.f19) Tryz.call19 Tryz.func19 rfl 4 rfl rfl [.tmp 2] rfl ?_
 intro w0 F η0 h0
 conv => whnf
 repeat' ((first | refine AU ?_ | (refine IW (fun h => ?_) (fun h => ?_) <;> try (exfalso; omega))) <;> conv => whnf)
 exact FIN.value h0 rfl rfl
theorem Z9J {l : List Qd} (zr hr : List SV) (h : hr = Zl Wv) : ((List.take 0 (List.replicate (l.length + 1) zr) ++ l.map Zl ++ List.drop (0 + l.length) (List.replicate (l.length + 1) zr)).set (0 + ((l.length : Nat) : Int).toNat) hr) = (l ++ [Wv]).map Zl := by
 subst h
 rw [show 0 + ((l.length : Nat) : Int).toNat = l.length by omega, List.take_zero, List.nil_append, Nat.zero_add, List.drop_replicate, Nat.add_sub_cancel_left, List.set_append_right _ _ (by simp), List.map_append]
 simp
theorem Z5A (l z : List Qd) (lim : Option Nat) (hl : YC l) : Does Tryz.prog tab 11 1 [.sl (.loc 0) 0 16 l.length lim] [] [(0, .rows 16 ((l ++ z).map Zl))]
   (fun r O nx => r = .sl (.loc 1) 0 16 l.length none ∧ O = [(1, .rows 16 ((l ++ [Wv]).map Zl))] ∧ nx = 2) := by
 unfold YC at hl
 have hw : (IntKind.i64.wrap ((l.length : Int) + 1)).toNat = l.length + 1 := by rw [Z2 (by omega) (by omega)]; omega
 refine Does.enter Z3 (g := 11) (fn := Tryz.f11) Tryz.call11 Tryz.func11 rfl 20 rfl rfl [.tmp 2] rfl ?_
 intro w0 F η0 h0
 conv => whnf
 repeat' ((first | refine CALL.value (UY) rfl rfl ?_ | (rw [Z4R]; conv => whnf) | (refine NEED.mk (Zby 224 rfl (by rw [Z2 (by omega) (by omega)]; omega) (Int.le_refl _) (by rw [Z2 (by omega) (by omega)]; omega)) ?_; rw [hw]; conv => whnf) | (refine NEED.mk ⟨by simp, by simp, by simp⟩ ?_; conv => whnf) | (refine GET.at (row := Zl YV) (by rw [show 0 + ((l.length : Nat) : Int).toNat = l.length by omega, List.take_zero, List.nil_append, List.getElem?_append_right (by simp)]; simp; rfl) ?_; conv => whnf) | refine AU ?_ | (refine IW (fun h => ?_) (fun h => ?_) <;> try (exfalso; omega))) <;> conv => whnf)
 exact FIN.aA h0 [1] (.sl (.loc 1) 0 16 l.length none) [(1, .rows 16 ((l ++ [Wv]).map Zl))] ⟨rfl, rfl, rfl⟩ (hO := ⟨Z8 (Za _) (Z9J _ _ rfl), trivial⟩)
theorem Z2E (l z y : List Qd) (lA lB : Option Nat) (hz : (l ++ z).length ≤ 1152921504606846976) : Does Tryz.prog tab 34 2 [.sl (.loc 0) 0 16 l.length lA, .sl (.loc 1) 0 16 l.length lB] [] [(0, .rows 16 ((l ++ z).map Zl)), (1, .rows 16 ((l ++ y).map Zl))] (ValK 2 (.bool true)) := by
 have hz1 : (l ++ z).length = l.length + z.length := List.length_append
 have get : ∀ {z : List Qd} {i k : Nat} (h : i < l.length) (e : k = i), ((l ++ z).map Zl)[k]? = some (Zl l[i]) := fun h e => by subst e; rw [List.getElem?_map, List.getElem?_append_left h, List.getElem?_eq_getElem h]; rfl
 refine Does.enter Z3 (g := 34) (fn := Tryz.f34) Tryz.call34 Tryz.func34 rfl 26 rfl rfl [.tmp 4] rfl ?_
 intro w0 F η0 h0
 conv => whnf
 repeat' ((first | refine AU ?_ | (refine IW (fun h => ?_) (fun h => ?_) <;> try (exfalso; omega))) <;> conv => whnf)
 refine LOOP.gok Z3 [0, 1] [] (X := Nat) (fun i => i ≤ l.length) (fun i => [(5, .int .i64 (i : Int))]) (fun i => []) 2 (fun i => l.length - i) 0 (by omega) ?_
 conv => whnf
 refine ⟨by exact GOES.kA h0 [], ?_⟩
 intro i hi
 conv => whnf
 by_cases hil : i < l.length
 · repeat' ((first | refine DRAWN.of (id := 6) Z3 mixed Z9H (by kernel_rfl) ?_ | refine ADD.mk (fun _ _ => ?_) | refine AD ?_ | refine FORK.mk ?_ ?_ | (refine GET.at (get hil (by omega)) ?_; conv => whnf) | refine AU ?_ | (refine IW (fun h => ?_) (fun h => ?_) <;> try (exfalso; omega))) <;> conv => whnf)
   · simp at h
   refine ⟨i + 1, by omega, by omega, ?_⟩
   conv => whnf
   exact GOES.kA h0 []
 · repeat' ((first | refine AU ?_ | (refine IW (fun h => ?_) (fun h => ?_) <;> try (exfalso; omega))) <;> conv => whnf)
   exact FIN.valueK h0 rfl rfl
theorem Z2F (l z y : List Pr) (lA lB : Option Nat) (hz : (l ++ z).length ≤ 1152921504606846976) : Does Tryz.prog tab 20 2 [.sl (.loc 0) 0 2 l.length lA, .sl (.loc 1) 0 2 l.length lB] [] [(0, .rows 2 ((l ++ z).map YZ)), (1, .rows 2 ((l ++ y).map YZ))] (ValK 2 (.bool true)) := by
 have hz1 : (l ++ z).length = l.length + z.length := List.length_append
 have get : ∀ {z : List Pr} {i k : Nat} (h : i < l.length) (e : k = i), ((l ++ z).map YZ)[k]? = some (YZ l[i]) := fun h e => by subst e; rw [List.getElem?_map, List.getElem?_append_left h, List.getElem?_eq_getElem h]; rfl
 refine Does.enter Z3 (g := 20) (fn := Tryz.f20) Tryz.call20 Tryz.func20 rfl 26 rfl rfl [.tmp 4] rfl ?_
 intro w0 F η0 h0
 conv => whnf
 repeat' ((first | refine AU ?_ | (refine IW (fun h => ?_) (fun h => ?_) <;> try (exfalso; omega))) <;> conv => whnf)
 refine LOOP.gok Z3 [0, 1] [] (X := Nat) (fun i => i ≤ l.length) (fun i => [(5, .int .i64 (i : Int))]) (fun i => []) 2 (fun i => l.length - i) 0 (by omega) ?_
 conv => whnf
 refine ⟨by exact GOES.kA h0 [], ?_⟩
 intro i hi
 conv => whnf
 by_cases hil : i < l.length
 · repeat' ((first | refine DRAWN.of (id := 6) Z3 mixed Z9H (by kernel_rfl) ?_ | refine ADD.mk (fun _ _ => ?_) | refine AD ?_ | refine FORK.mk ?_ ?_ | (refine GET.at (get hil (by omega)) ?_; conv => whnf) | refine AU ?_ | (refine IW (fun h => ?_) (fun h => ?_) <;> try (exfalso; omega))) <;> conv => whnf)
   · simp at h
   refine ⟨i + 1, by omega, by omega, ?_⟩
   conv => whnf
   exact GOES.kA h0 []
 · repeat' ((first | refine AU ?_ | (refine IW (fun h => ?_) (fun h => ?_) <;> try (exfalso; omega))) <;> conv => whnf)
   exact FIN.valueK h0 rfl rfl
theorem Z5B (l z : List Qd) (lim : Option Nat) (hl : YC l) (hz : (l ++ z).length ≤ 1152921504606846976) : Does Tryz.prog tab 15 2 [.sl (.loc 1) 0 16 l.length none, .sl (.loc 0) 0 16 l.length lim] [(1, .rows 16 ((l ++ [Wv]).map Zl))] [(0, .rows 16 ((l ++ z).map Zl))]
   (fun r O nx => r = .bool true ∧ O = [(1, .rows 16 ((l ++ [Wv]).map Zl))] ∧ nx = 2) := by
 unfold YC at hl
 have hA : (l ++ [Wv]).length ≤ 1152921504606846976 := by simp; omega
 have hS := Z2E l [Wv] z none lim hA
 refine Does.enter Z3 (g := 15) (fn := Tryz.f15) Tryz.call15 Tryz.func15 rfl 23 rfl rfl [.tmp 4] rfl ?_
 intro w0 F η0 h0
 conv => whnf
 have hw : (IntKind.i64.wrap ((l.length : Int) + 1)).toNat = l.length + 1 := by rw [Z2 (by omega) (by omega)]; omega
 refine NEED.mk ⟨by rw [Z2 (by omega) (by omega)]; omega, by rw [Z2 (by omega) (by omega)]; show _ ≤ ((max l.length (((l ++ [Wv]).map Zl).length - 0) : Nat) : Int); simp⟩ ?_
 rw [hw]
 conv => whnf
 repeat' ((first | refine DRAWN.of (id := 2) Z3 mixed Z9I (by kernel_rfl) ?_ | refine ADD.mk (fun _ _ => ?_) | refine AD ?_ | refine FORK.mk ?_ ?_ | refine CALL.value (UY) rfl rfl ?_ | refine AU ?_ | (refine IW (fun h => ?_) (fun h => ?_) <;> try (exfalso; omega))) <;> conv => whnf)
 refine CALL.aA [1, 0] (hS) ?_
 rintro r O nx ⟨rfl, rfl, rfl⟩
 conv => whnf
 repeat' ((first | refine DRAWN.of (id := 2) Z3 mixed Z9I (by kernel_rfl) ?_ | refine ADD.mk (fun _ _ => ?_) | refine AD ?_ | refine FORK.mk ?_ ?_ | refine CALL.value (UY) rfl rfl ?_ | (refine GET.at (row := Zl Wv) (by rw [show 0 + ((l.length : Nat) : Int).toNat = l.length by omega, List.getElem?_map, List.getElem?_append_right (Nat.le_refl _)]; simp) ?_; conv => whnf) | refine AU ?_ | (refine IW (fun h => ?_) (fun h => ?_) <;> try (exfalso; omega))) <;> conv => whnf)
 exact FIN.here h0 (rc := .bool true) (Oc := [(1, .rows 16 ((l ++ [Wv]).map Zl))]) (congrArg SV.bool (by simp)) rfl (by simp only [Z6, Z4, Z0 _ (Za _), Bool.and_self, Bool.and_true] <;> rfl) ⟨rfl, trivial⟩ ⟨rfl, rfl, rfl⟩
end Go.Proofs.YtbfbokdccdagkaaGreatDoor
