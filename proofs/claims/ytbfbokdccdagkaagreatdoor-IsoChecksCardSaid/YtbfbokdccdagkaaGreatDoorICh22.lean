/- Part 22: Prs. Conditions: as each part says. -/
import Derived.Test.YtbfbokdccdagkaaGreatDoorICh8
set_option linter.unusedVariables false
set_option linter.unusedSimpArgs false
namespace Go.Proofs.YtbfbokdccdagkaaGreatDoor
open Go.Sx Go.Our
def YZ (p : Pr) : List SV := [.str p.1, .str p.2]
theorem Zm (l : List Pr) : Zs (l.map YZ) = true := ZX _ (fun _ => rfl) l
instance : PlF YZ := ⟨fun _ => rfl⟩
theorem Ws {l z : List Pr} {i k : Nat} (h : i < l.length) (e : k = i) : ((l ++ z).map YZ)[k]? = some (YZ l[i]) := by subst e; rw [List.getElem?_map, List.getElem?_append_left h, List.getElem?_eq_getElem h]; rfl
end Go.Proofs.YtbfbokdccdagkaaGreatDoor
