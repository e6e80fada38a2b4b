/- Part 12: Names2, Part2. Conditions: as each part says. -/
import Derived.Test.YtlcbipfmodcedaaGreatDoorCiso8
set_option linter.unusedVariables false
set_option linter.unusedSimpArgs false
set_option maxRecDepth 20000
set_option maxHeartbeats 8000000
namespace Go.Proofs.YtlcbipfmodcedaaGreatDoor
open Go.Sx Go.Our
def Zk4(x:Int):List SV:=[.int .i64 x]
instance :bu Zk4:=⟨fun _=>rfl⟩
end Go.Proofs.YtlcbipfmodcedaaGreatDoor
namespace Go.Proofs.YtlcbipfmodcedaaGreatDoor
open Go.Sx Go.Our
end Go.Proofs.YtlcbipfmodcedaaGreatDoor
