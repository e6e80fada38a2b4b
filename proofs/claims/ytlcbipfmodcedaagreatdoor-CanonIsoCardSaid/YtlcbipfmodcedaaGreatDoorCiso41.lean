/- Part 41: RCan2, RCan3, RCan4, RCan5. Conditions: as each part says. -/
import Derived.Test.YtlcbipfmodcedaaGreatDoorCiso30
import Derived.Test.YtlcbipfmodcedaaGreatDoorCiso40
set_option linter.unusedVariables false
set_option linter.unusedSimpArgs false
set_option maxRecDepth 20000
set_option maxHeartbeats 8000000
namespace Go.Proofs.YtlcbipfmodcedaaGreatDoor
open Go.Sx Go.Our Go.Lib
end Go.Proofs.YtlcbipfmodcedaaGreatDoor
namespace Go.Proofs.YtlcbipfmodcedaaGreatDoor
open Go.Sx Go.Our Go.Lib
abbrev z9I(l:List Qd):List Qd:=l.mergeSort (wW ZJ)
end Go.Proofs.YtlcbipfmodcedaaGreatDoor
