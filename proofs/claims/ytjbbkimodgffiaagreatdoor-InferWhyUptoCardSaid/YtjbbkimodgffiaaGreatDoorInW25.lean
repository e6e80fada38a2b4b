/- Part 25: Sets4, Sets5. Conditions: as each part says. -/
import Derived.Test.YtjbbkimodgffiaaGreatDoorInW22
set_option linter.unusedVariables false
set_option linter.unusedSimpArgs false
set_option maxRecDepth 20000
set_option maxHeartbeats 8000000
namespace Go.Proofs.YtjbbkimodgffiaaGreatDoor
open Go.Sx Go.Our
end Go.Proofs.YtjbbkimodgffiaaGreatDoor
namespace Go.Proofs.YtjbbkimodgffiaaGreatDoor
open Go.Sx Go.Our
def twoM (op : List Qd → List Qd → List Qd) (a b : List Qd) : List Qd × Int := if Xk a 1 = true ∧ Xk b 1 = true then (op a b, 0) else ([], 6)
def Zfj (k : Nat) (x : List Qd × Int) : SV → Hps → Nat → Prop := fun r O nx => r = .tup [.sl (.loc k) 0 16 x.1.length none, .int .i64 x.2] ∧ O = [(k, .rows 16 (x.1.map Zf))] ∧ nx = k + 1
theorem ZbS {α : Type} (l z : List α) : ((l ++ z).drop 0).take l.length = l := by simp
theorem ZdE {op : List Qd → List Qd → List Qd} {a b : List Qd} (h : ¬ (Xk a 1 = true ∧ Xk b 1 = true)) : twoM op a b = ([], 6) := by unfold twoM; rw [if_neg h]
theorem Z7T {op : List Qd → List Qd → List Qd} {a b : List Qd} (h : Xk a 1 = true ∧ Xk b 1 = true) : twoM op a b = (op a b, 0) := by unfold twoM; rw [if_pos h]
abbrev Zfw (l l' : List Qd) : Prop := (l.length + l'.length) * 224 ≤ 140737488351232
end Go.Proofs.YtjbbkimodgffiaaGreatDoor
