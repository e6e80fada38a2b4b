/- Part 15: Term2, Valid7. Conditions: as each part says. -/
import Derived.Test.YtbfbokdccdagkaaGreatDoorCls12
import Derived.Test.YtbfbokdccdagkaaGreatDoorCls14
set_option linter.unusedVariables false
set_option linter.unusedSimpArgs false
set_option maxRecDepth 20000
set_option maxHeartbeats 8000000
namespace Go.Proofs.YtbfbokdccdagkaaGreatDoor
open Go.Sx Go.Our
end Go.Proofs.YtbfbokdccdagkaaGreatDoor
namespace Go.Proofs.YtbfbokdccdagkaaGreatDoor
open Go.Sx Go.Our
abbrev Zd3 (l : List Qd) : Prop := ∀ q ∈ l, QdSm q
end Go.Proofs.YtbfbokdccdagkaaGreatDoor
