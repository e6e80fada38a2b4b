/- Part 27: Sets7. Conditions: as each part says. -/
import Derived.Test.YtjbbkimodgffiaaGreatDoorInW25
import Derived.Test.YtjbbkimodgffiaaGreatDoorInW26
set_option linter.unusedVariables false
set_option linter.unusedSimpArgs false
set_option maxRecDepth 20000
set_option maxHeartbeats 8000000
namespace Go.Proofs.YtjbbkimodgffiaaGreatDoor
open Go.Sx Go.Our
theorem ZbU {op op' : List Qd → List Qd → List Qd} (h : ∀ {a b : List Qd}, Rise Zw a → Rise Zw b → op a b = op' a b) (a b : List Qd) : twoM op a b = twoM op' a b := by
 unfold twoM
 split
 · rename_i hh
   rw [h (Z46 hh.1) (Z46 hh.2)]
 · rfl
set_option maxHeartbeats 4000000 in
theorem Z3e (l z l' z' : List Qd) (lA lB : Option Nat) (hz : ((l ++ z).length + (l' ++ z').length) * 224 ≤ 140737488351232) : Does Tryz.prog tab 18 2 [.sl (.loc 0) 0 16 l.length lA, .sl (.loc 1) 0 16 l'.length lB] [] [(0, .rows 16 ((l ++ z).map Zf)), (1, .rows 16 ((l' ++ z').map Zf))]
   (Zfj 2 (twoM (Xn Zw true false false) l l')) := by
 have hz1 : (l ++ z).length = l.length + z.length := List.length_append
 have hz2 : (l' ++ z').length = l'.length + z'.length := List.length_append
 have q1 : Wx l := by unfold Wx; omega
 have q2 : Wx l' := by unfold Wx; omega
 have hm := Z3d l z l' z' lA lB (by omega) (by omega)
 try rw [ZbS, ZbS] at hm
 rw [ZbU (op := Xn Zw true false false) (op' := Z05 Zw false) (fun ha hb => ZcP triQ ha hb)]
 refine Does.enter Z2 (g := 18) (fn := Tryz.f18) Tryz.call18 Tryz.func18 rfl 17 rfl rfl [.tmp 4, .tmp 5] rfl ?_
 intro w0 F η0 h0
 conv => whnf
 refine CALL.aA [0] (Z38 l z (lim := lA) q1) ?_
 rintro r O nx ⟨rfl, rfl, rfl⟩
 cases h1 : Xk l 1 with
 | false =>
   rw [ZdE (by rw [h1]; simp)]
   conv => whnf
   repeat' ((first | refine AU ?_ | (refine IW (fun h => ?_) (fun h => ?_) <;> try (exfalso; omega))) <;> conv => whnf)
   refine FIN.nilT 16 ?_
   refine FIN.aA h0 [2] (.tup [.sl (.loc 2) 0 16 0 none, .int .i64 6]) [(2, .rows 16 (([] : List Qd).map Zf))] ?_
   exact ⟨rfl, rfl, rfl⟩
 | true =>
   conv => whnf
   repeat' ((first | refine AU ?_ | (refine IW (fun h => ?_) (fun h => ?_) <;> try (exfalso; omega))) <;> conv => whnf)
   refine CALL.aA [1] (Z38 l' z' (lim := lB) q2) ?_
   rintro r O nx ⟨rfl, rfl, rfl⟩
   cases h2 : Xk l' 1 with
   | false =>
     rw [ZdE (by rw [h2]; simp)]
     conv => whnf
     repeat' ((first | refine AU ?_ | (refine IW (fun h => ?_) (fun h => ?_) <;> try (exfalso; omega))) <;> conv => whnf)
     refine FIN.nilT 16 ?_
     refine FIN.aA h0 [2] (.tup [.sl (.loc 2) 0 16 0 none, .int .i64 6]) [(2, .rows 16 (([] : List Qd).map Zf))] ?_
     exact ⟨rfl, rfl, rfl⟩
   | true =>
     rw [Z7T ⟨h1, h2⟩]
     conv => whnf
     repeat' ((first | refine AU ?_ | (refine IW (fun h => ?_) (fun h => ?_) <;> try (exfalso; omega))) <;> conv => whnf)
     refine CALL.aA [0, 1] (hm) ?_
     rintro r O nx ⟨rfl, rfl, rfl⟩
     conv => whnf
     refine FIN.aA h0 [2] (.tup [.sl (.loc 2) 0 16 (Z05 Zw false l l').length none, .int .i64 0]) [(2, .rows 16 ((Z05 Zw false l l').map Zf))] ?_
     exact ⟨rfl, rfl, rfl⟩
end Go.Proofs.YtjbbkimodgffiaaGreatDoor
