/- Part 23: Apart1. Conditions: as each part says. -/
import Derived.Test.YtbfbokdccdagkaaGreatDoorICh13
import Derived.Test.YtbfbokdccdagkaaGreatDoorICh19
import Derived.Test.YtbfbokdccdagkaaGreatDoorICh20
import Derived.Test.YtbfbokdccdagkaaGreatDoorICh21
import Derived.Test.YtbfbokdccdagkaaGreatDoorICh22
set_option linter.unusedVariables false
set_option linter.unusedSimpArgs false
set_option maxRecDepth 20000
set_option maxHeartbeats 8000000
namespace Go.Proofs.YtbfbokdccdagkaaGreatDoor
open Go.Sx Go.Our
def Z79 (a b : List Qd) : Int := if (Jv a).2 ≠ 0 then (Jv a).2 else (Jv b).2
theorem Z46 (a za b zb : List Qd) (limA limB : Option Nat) (ha : a.length ≤ 1152921504606846976) (hb : b.length ≤ 1152921504606846976) (qa : Z0x a) (qb : Z0x b) : Does Tryz.prog tab 43 2 [.sl (.loc 0) 0 16 a.length limA, .sl (.loc 1) 0 16 b.length limB] [] [(0, .rows 16 ((a ++ za).map Zl)), (1, .rows 16 ((b ++ zb).map Zl))] (ValK 2 (.int .i64 (Z79 a b))) := by
 have h1 := Z2e a za limA ha qa
 have h2 := Z2e b zb limB hb qb
 refine Does.enter Z3 (g := 43) (fn := Tryz.f43) Tryz.call43 Tryz.func43 rfl 23 rfl rfl [.tmp 4] rfl ?_
 intro w0 F η0 h0
 conv => whnf
 refine CALL.aA [0] (h1) ?_
 rintro r O nx ⟨rfl, rfl, rfl⟩
 conv => whnf
 repeat' ((first | refine AU ?_ | (refine IW (fun h => ?_) (fun h => ?_) <;> try (exfalso; omega))) <;> conv => whnf)
 · exact FIN.valueK h0 rfl (congrArg (SV.int _) (if_pos h).symm)
 refine CALL.aA [1] (h2) ?_
 rintro r O nx ⟨rfl, rfl, rfl⟩
 conv => whnf
 repeat' ((first | refine AU ?_ | (refine IW (fun h => ?_) (fun h => ?_) <;> try (exfalso; omega))) <;> conv => whnf)
 exact FIN.valueK h0 rfl (congrArg (SV.int _) (if_neg (by simpa using h)).symm)
theorem Z2C (a za b zb : List Qd) (limA limB : Option Nat) (ha : a.length ≤ 1152921504606846976) (hb : b.length ≤ 1152921504606846976) (qa : Z0x a) (qb : Z0x b) : Does Tryz.prog tab 44 2 [.sl (.loc 0) 0 16 a.length limA, .sl (.loc 1) 0 16 b.length limB] [] [(0, .rows 16 ((a ++ za).map Zl)), (1, .rows 16 ((b ++ zb).map Zl))] (ValK 2 (.int .i64 (Z79 a b))) := by
 have h1 := Z0h a za limA ha qa
 have h2 := Z0h b zb limB hb qb
 refine Does.enter Z3 (g := 44) (fn := Tryz.f44) Tryz.call44 Tryz.func44 rfl 21 rfl rfl [.tmp 4] rfl ?_
 intro w0 F η0 h0
 conv => whnf
 refine CALL.aA [0] (h1) ?_
 rintro r O nx ⟨rfl, rfl, rfl⟩
 conv => whnf
 repeat' ((first | refine AU ?_ | (refine IW (fun h => ?_) (fun h => ?_) <;> try (exfalso; omega))) <;> conv => whnf)
 · exact FIN.valueK h0 rfl (congrArg (SV.int _) (if_pos h).symm)
 refine CALL.aA [1] (h2) ?_
 rintro r O nx ⟨rfl, rfl, rfl⟩
 conv => whnf
 repeat' ((first | refine AU ?_ | (refine IW (fun h => ?_) (fun h => ?_) <;> try (exfalso; omega))) <;> conv => whnf)
 exact FIN.valueK h0 rfl (congrArg (SV.int _) (if_neg (by simpa using h)).symm)
abbrev Z0y (l : List Qd) : List LB := setL cmpL (X1 l)
abbrev numT (m : List (LB × Int)) : List (List SV) := Z5Y KT intV m
theorem Z9z (m : List (LB × Int)) : Zs (numT m) = true := Z91 KT _ (fun _ => rfl) m
instance {m : List (LB × Int)} : Pl (numT m) := ⟨Z9z m⟩
def JK (v : Int) (l : List LB) (m : List (LB × Int)) : List (LB × Int) := l.foldl (fun m x => setA x v m) m
theorem ZcE {l z : List LB} {i k : Nat} (h : i < l.length) (e : k = i) : ((l ++ z).map Zo)[k]? = some (Zo l[i]) := by
 subst e; rw [List.getElem?_map, List.getElem?_append_left h, List.getElem?_eq_getElem h]; rfl
end Go.Proofs.YtbfbokdccdagkaaGreatDoor
