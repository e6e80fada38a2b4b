/- Part 32: LawIsoC. Conditions: as each part says. -/
import Derived.Test.YtbfbokdccdagkaaGreatDoorICh30
import Derived.Test.YtbfbokdccdagkaaGreatDoorICh31
set_option linter.unusedVariables false
set_option linter.unusedSimpArgs false
set_option maxRecDepth 20000
set_option maxHeartbeats 8000000
namespace Go.Proofs.YtbfbokdccdagkaaGreatDoor
open Go.Sx Go.Our
def ZbS : Pr := ([104, 111, 108, 100, 101, 114], [])
theorem ZaB {ps : List Pr} {u v : LB} : List.take (0 + ps.length) (List.take 0 [] ++ List.take ps.length (List.drop 0 (ps.map YZ))) ++ List.take 1 (List.drop 0 [[SV.str u, SV.str v]]) = (ps ++ [(u, v)]).map YZ := by
 rw [List.take_zero, List.nil_append, List.drop_zero, Nat.zero_add, List.map_append, List.take_of_length_le (by simp), List.take_of_length_le (by simp)]; rfl
set_option maxHeartbeats 16000000 in
theorem Z2G (a b : List Qd) (ps : List Pr) (ha : YC a) (hb : YC b) (hp : ps.length * 32 ≤ 140737488351232) (qa : Z0x a) (qb : Z0x b) : Does Tryz.prog tab 5 3 [.sl (.loc 0) 0 16 a.length none, .sl (.loc 1) 0 16 b.length none, .sl (.loc 2) 0 2 ps.length none] [] [(0, .rows 16 (a.map Zl)), (1, .rows 16 (b.map Zl)), (2, .rows 2 (ps.map YZ))] (ValK 3 (.bool true)) := by
 have hLa := Z5A a [] none ha
 have hLb := Z5A b [] none hb
 have hC := Z4a a [Wv] b [Wv] ps [ZbS] none none none ha hb qa qb (by unfold YC at ha; simp; omega) (by unfold YC at hb; simp; omega) (by simp; omega)
 have hR := Z2D a [] b [] ps [] none none none ha hb qa qb (by unfold YC at ha; simp; omega) (by unfold YC at hb; simp; omega) (by simp; omega)
 have hKa := Z5B a [] none ha (by unfold YC at ha; simp; omega)
 have hKb := Z5B b [] none hb (by unfold YC at hb; simp; omega)
 have hS := Z2F ps [ZbS] [] none none (by simp; omega)
 rw [List.append_nil] at hLa hLb hKa hKb
 rw [List.append_nil, List.append_nil, List.append_nil] at hR
 rw [List.append_nil] at hS
 have hw : (IntKind.i64.wrap ((ps.length : Int) + 1)).toNat = ps.length + 1 := by rw [Z2 (by omega) (by omega)]; omega
 refine Does.enter Z3 (g := 5) (fn := Tryz.f5) Tryz.call5 Tryz.func5 rfl 62 rfl rfl [.tmp 6] rfl ?_
 intro w0 F η0 h0
 conv => whnf
 repeat' ((first | refine AU ?_ | (refine IW (fun h => ?_) (fun h => ?_) <;> try (exfalso; omega))) <;> conv => whnf)
 refine CALL.aA [0] (hLa) ?_
 rintro r O nx ⟨rfl, rfl, rfl⟩
 conv => whnf
 repeat' ((first | refine AU ?_ | (refine IW (fun h => ?_) (fun h => ?_) <;> try (exfalso; omega))) <;> conv => whnf)
 refine CALL.aA [1] (hLb) ?_
 rintro r O nx ⟨rfl, rfl, rfl⟩
 conv => whnf
 repeat' ((first | (rw [Z5 _ (Zm _)]; conv => whnf) | (refine NEED.mk (ZL 32 rfl rfl (by simp) (by simp) (by omega)) ?_; conv => whnf) | refine AU ?_ | (refine IW (fun h => ?_) (fun h => ?_) <;> try (exfalso; omega))) <;> conv => whnf)
 rw [ZaB]
 refine CALL.aA [3, 4, 8] (hC) ?_
 rintro r O nx ⟨rfl, rfl, rfl⟩
 conv => whnf
 repeat' ((first | refine CALL.value (ZaA _) rfl rfl ?_ | refine AU ?_ | (refine IW (fun h => ?_) (fun h => ?_) <;> try (exfalso; omega))) <;> conv => whnf)
 refine CALL.aA [0, 1, 2] (hR) ?_
 rintro r O nx ⟨rfl, rfl, rfl⟩
 conv => whnf
 repeat' ((first | refine AU ?_ | (refine IW (fun h => ?_) (fun h => ?_) <;> try (exfalso; omega))) <;> conv => whnf)
 · refine CALL.aA [0, 3] (hKa) ?_
   rintro r O nx ⟨rfl, rfl, rfl⟩
   conv => whnf
   repeat' ((first | refine AU ?_ | (refine IW (fun h => ?_) (fun h => ?_) <;> try (exfalso; omega))) <;> conv => whnf)
   refine CALL.aA [1, 4] (hKb) ?_
   rintro r O nx ⟨rfl, rfl, rfl⟩
   conv => whnf
   repeat' ((first | refine AU ?_ | (refine IW (fun h => ?_) (fun h => ?_) <;> try (exfalso; omega))) <;> conv => whnf)
   refine CALL.aA [8, 2] (hS) ?_
   rintro r O nx ⟨rfl, rfl, rfl⟩
   conv => whnf
   repeat' ((first | (refine GET.at (row := YZ ZbS) (by rw [show 0 + ((ps.length : Nat) : Int).toNat = ps.length by omega, List.getElem?_map, List.getElem?_append_right (Nat.le_refl _), Nat.sub_self]; rfl) ?_; conv => whnf) | refine AU ?_ | (refine IW (fun h => ?_) (fun h => ?_) <;> try (exfalso; omega))) <;> conv => whnf)
   exact FIN.valueK h0 rfl (congrArg SV.bool (by decide))
end Go.Proofs.YtbfbokdccdagkaaGreatDoor
