/- Part 27: Sets7. Conditions: as each part says. -/
import Derived.Test.YtjbbkimodgffiaaGreatDoorInG25
import Derived.Test.YtjbbkimodgffiaaGreatDoorInG26
set_option linter.unusedVariables false
set_option linter.unusedSimpArgs false
set_option maxRecDepth 20000
set_option maxHeartbeats 8000000
namespace Go.Proofs.YtjbbkimodgffiaaGreatDoor
open Go.Sx Go.Our
theorem ZbV {op op' : List Qd → List Qd → List Qd} (h : ∀ {a b : List Qd}, Rise Zt a → Rise Zt b → op a b = op' a b) (a b : List Qd) : twoM op a b = twoM op' a b := by
 unfold twoM
 split
 · rename_i hh
   rw [h (Z4e hh.1) (Z4e hh.2)]
 · rfl
set_option maxHeartbeats 4000000 in
theorem Z84 (l z l' z' : List Qd) (lA lB : Option Nat) (hz : ((l ++ z).length + (l' ++ z').length) * 224 ≤ 140737488351232) : Does Tryz.prog tab 54 2 [.sl (.loc 0) 0 16 l.length lA, .sl (.loc 1) 0 16 l'.length lB] [] [(0, .rows 16 ((l ++ z).map Z7)), (1, .rows 16 ((l' ++ z').map Z7))]
   (Zf1 2 (twoM (V9 Zt true true true) l l')) := by
 have hz1 : (l ++ z).length = l.length + z.length := List.length_append
 have hz2 : (l' ++ z').length = l'.length + z'.length := List.length_append
 have q1 : VA l := by unfold VA; omega
 have q2 : VA l' := by unfold VA; omega
 have hm := Z0j (l ++ z) (l' ++ z') 0 l.length 0 l'.length lA lB (by simp) (by simp) hz
 try rw [ZbS, ZbS] at hm
 rw [ZbV (op := V9 Zt true true true) (op' := Yd Zt []) (fun ha hb => Z8L triQ ha hb)]
 refine Does.enter Z2 (g := 54) (fn := Tryz.f54) Tryz.call54 Tryz.func54 rfl 17 rfl rfl [.tmp 4, .tmp 5] rfl ?_
 intro w0 F η0 h0
 conv => whnf
 refine CALL.aA [0] (Z3c l z (lim := lA) q1) ?_
 rintro r O nx ⟨rfl, rfl, rfl⟩
 cases h1 : Xf l 1 with
 | false =>
   rw [Zdt (by rw [h1]; simp)]
   conv => whnf
   repeat' ((first | refine AU ?_ | (refine IW (fun h => ?_) (fun h => ?_) <;> try (exfalso; omega))) <;> conv => whnf)
   refine FIN.nilT 16 ?_
   refine FIN.aA h0 [2] (.tup [.sl (.loc 2) 0 16 0 none, .int .i64 6]) [(2, .rows 16 (([] : List Qd).map Z7))] ?_
   exact ⟨rfl, rfl, rfl⟩
 | true =>
   conv => whnf
   repeat' ((first | refine AU ?_ | (refine IW (fun h => ?_) (fun h => ?_) <;> try (exfalso; omega))) <;> conv => whnf)
   refine CALL.aA [1] (Z3c l' z' (lim := lB) q2) ?_
   rintro r O nx ⟨rfl, rfl, rfl⟩
   cases h2 : Xf l' 1 with
   | false =>
     rw [Zdt (by rw [h2]; simp)]
     conv => whnf
     repeat' ((first | refine AU ?_ | (refine IW (fun h => ?_) (fun h => ?_) <;> try (exfalso; omega))) <;> conv => whnf)
     refine FIN.nilT 16 ?_
     refine FIN.aA h0 [2] (.tup [.sl (.loc 2) 0 16 0 none, .int .i64 6]) [(2, .rows 16 (([] : List Qd).map Z7))] ?_
     exact ⟨rfl, rfl, rfl⟩
   | true =>
     rw [ZbT ⟨h1, h2⟩]
     conv => whnf
     repeat' ((first | refine AU ?_ | (refine IW (fun h => ?_) (fun h => ?_) <;> try (exfalso; omega))) <;> conv => whnf)
     refine CALL.aA [0, 1] (hm) ?_
     rintro r O nx ⟨rfl, rfl, rfl⟩
     conv => whnf
     refine FIN.aA h0 [2] (.tup [.sl (.loc 2) 0 16 (Yd Zt [] l l').length none, .int .i64 0]) [(2, .rows 16 ((Yd Zt [] l l').map Z7))] ?_
     exact ⟨rfl, rfl, rfl⟩
end Go.Proofs.YtjbbkimodgffiaaGreatDoor
