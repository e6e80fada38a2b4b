/- Part 42: RTerms7, RList7, RBlanks7. Conditions: as each part says. -/
import Derived.Test.YtlcbipfmodcedaaGreatDoorCiso10
set_option linter.unusedVariables false
set_option linter.unusedSimpArgs false
set_option maxRecDepth 20000
set_option maxHeartbeats 8000000
namespace Go.Proofs.YtlcbipfmodcedaaGreatDoor
open Go.Sx Go.Our
abbrev Zli(out:List Tm)(q:Tm):Prop:=out.length=0\/∃h0:0<out.length,out[out.length-1]'(by omega)≠q
end Go.Proofs.YtlcbipfmodcedaaGreatDoor
namespace Go.Proofs.YtlcbipfmodcedaaGreatDoor
open Go.Sx Go.Our
end Go.Proofs.YtlcbipfmodcedaaGreatDoor
