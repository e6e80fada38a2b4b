/- Part 11: Sets3. Conditions: as each part says. -/
import Derived.Test.YtlcbipfmodcedaaGreatDoorRfn9
set_option linter.unusedVariables false
set_option linter.unusedSimpArgs false
set_option maxRecDepth 20000
set_option maxHeartbeats 8000000
namespace Go.Proofs.YtlcbipfmodcedaaGreatDoor
open Go.Sx Go.Our
def Z8L{α:Type}(f:α->List SV)(es k:Nat)(l:List α):SV->Hps->Nat->Prop:=fun r O nx=>r= .sl (.loc k) 0 es l.length none/\O=[(k, .rows es (l.map f))]/\nx=k+1
end Go.Proofs.YtlcbipfmodcedaaGreatDoor
