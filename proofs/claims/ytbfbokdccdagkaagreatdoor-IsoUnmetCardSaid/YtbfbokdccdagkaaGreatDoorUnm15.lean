/- Part 15: Tag8. Conditions: as each part says. -/
import Derived.Test.YtbfbokdccdagkaaGreatDoorUnm14
set_option linter.unusedVariables false
set_option linter.unusedSimpArgs false
set_option maxRecDepth 20000
set_option maxHeartbeats 8000000
namespace Go.Proofs.YtbfbokdccdagkaaGreatDoor
open Go.Sx Go.Our
end Go.Proofs.YtbfbokdccdagkaaGreatDoor
