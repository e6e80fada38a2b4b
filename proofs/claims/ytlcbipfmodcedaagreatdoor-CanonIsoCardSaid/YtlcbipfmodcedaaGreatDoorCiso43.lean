/- Part 43: RCan6. Conditions: as each part says. -/
import Derived.Test.YtlcbipfmodcedaaGreatDoorCiso41
import Derived.Test.YtlcbipfmodcedaaGreatDoorCiso42
set_option linter.unusedVariables false
set_option linter.unusedSimpArgs false
set_option maxRecDepth 20000
set_option maxHeartbeats 8000000
namespace Go.Proofs.YtlcbipfmodcedaaGreatDoor
open Go.Sx Go.Our Go.Lib
def jf(l:List Qd):Int:=if(Yr l).2=0/\4096< (Z0 l).length then 2 else(Yr l).2
end Go.Proofs.YtlcbipfmodcedaaGreatDoor
