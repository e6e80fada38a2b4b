/- Part 22: Prs. Conditions: as each part says. -/
import Derived.Test.YtlcbipfmodcedaaGreatDoorRfn8
set_option linter.unusedVariables false
set_option linter.unusedSimpArgs false
namespace Go.Proofs.YtlcbipfmodcedaaGreatDoor
open Go.Sx Go.Our
def ZiD(p:Pr):List SV:=[.str p.1, .str p.2]
instance :PlF ZiD:=⟨fun _=>rfl⟩
end Go.Proofs.YtlcbipfmodcedaaGreatDoor
