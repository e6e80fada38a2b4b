/- Part 36: Sets7. Conditions: as each part says. -/
import Derived.Test.YtjbbkimodgffiaaGreatDoorInf31
import Derived.Test.YtjbbkimodgffiaaGreatDoorInf35
set_option linter.unusedVariables false
set_option linter.unusedSimpArgs false
set_option maxRecDepth 20000
set_option maxHeartbeats 8000000
namespace Go.Proofs.YtjbbkimodgffiaaGreatDoor
open Go.Sx Go.Our
theorem ZcO {op op' : List Qd → List Qd → List Qd} (h : ∀ {a b : List Qd}, Rise Zm a → Rise Zm b → op a b = op' a b) (a b : List Qd) : twoM op a b = twoM op' a b := by
 unfold twoM
 split
 · rename_i hh
   rw [h (Z4E hh.1) (Z4E hh.2)]
 · rfl
set_option maxHeartbeats 4000000 in
theorem Z3C (l z l' z' : List Qd) (lA lB : Option Nat) (hz : ((l ++ z).length + (l' ++ z').length) * 224 ≤ 140737488351232) : Does Tryz.prog tab 18 2 [.sl (.loc 0) 0 16 l.length lA, .sl (.loc 1) 0 16 l'.length lB] [] [(0, .rows 16 ((l ++ z).map Z3)), (1, .rows 16 ((l' ++ z').map Z3))]
   (ZcK 2 (twoM (ZH Zm true false false) l l')) := by
 have hz1 : (l ++ z).length = l.length + z.length := List.length_append
 have hz2 : (l' ++ z').length = l'.length + z'.length := List.length_append
 have q1 : XQ l := by unfold XQ; omega
 have q2 : XQ l' := by unfold XQ; omega
 have hm := Z3B l z l' z' lA lB (by omega) (by omega)
 try rw [Z5S, Z5S] at hm
 rw [ZcO (op := ZH Zm true false false) (op' := Z0y Zm false) (fun ha hb => ZdA triQ ha hb)]
 refine Does.enter Z2 (g := 18) (fn := Tryz.f18) Tryz.call18 Tryz.func18 rfl 17 rfl rfl [.tmp 4, .tmp 5] rfl ?_
 intro w0 F η0 h0
 conv => whnf
 refine CALL.aA [0] (Z3w l z (lim := lA) q1) ?_
 rintro r O nx ⟨rfl, rfl, rfl⟩
 cases h1 : Yz l 1 with
 | false =>
   rw [Z9J (by rw [h1]; simp)]
   conv => whnf
   repeat' ((first | refine AU ?_ | (refine IW (fun h => ?_) (fun h => ?_) <;> try (exfalso; omega))) <;> conv => whnf)
   refine FIN.nilT 16 ?_
   refine FIN.aA h0 [2] (.tup [.sl (.loc 2) 0 16 0 none, .int .i64 6]) [(2, .rows 16 (([] : List Qd).map Z3))] ?_
   exact ⟨rfl, rfl, rfl⟩
 | true =>
   conv => whnf
   repeat' ((first | refine AU ?_ | (refine IW (fun h => ?_) (fun h => ?_) <;> try (exfalso; omega))) <;> conv => whnf)
   refine CALL.aA [1] (Z3w l' z' (lim := lB) q2) ?_
   rintro r O nx ⟨rfl, rfl, rfl⟩
   cases h2 : Yz l' 1 with
   | false =>
     rw [Z9J (by rw [h2]; simp)]
     conv => whnf
     repeat' ((first | refine AU ?_ | (refine IW (fun h => ?_) (fun h => ?_) <;> try (exfalso; omega))) <;> conv => whnf)
     refine FIN.nilT 16 ?_
     refine FIN.aA h0 [2] (.tup [.sl (.loc 2) 0 16 0 none, .int .i64 6]) [(2, .rows 16 (([] : List Qd).map Z3))] ?_
     exact ⟨rfl, rfl, rfl⟩
   | true =>
     rw [UW ⟨h1, h2⟩]
     conv => whnf
     repeat' ((first | refine AU ?_ | (refine IW (fun h => ?_) (fun h => ?_) <;> try (exfalso; omega))) <;> conv => whnf)
     refine CALL.aA [0, 1] (hm) ?_
     rintro r O nx ⟨rfl, rfl, rfl⟩
     conv => whnf
     refine FIN.aA h0 [2] (.tup [.sl (.loc 2) 0 16 (Z0y Zm false l l').length none, .int .i64 0]) [(2, .rows 16 ((Z0y Zm false l l').map Z3))] ?_
     exact ⟨rfl, rfl, rfl⟩
end Go.Proofs.YtjbbkimodgffiaaGreatDoor
