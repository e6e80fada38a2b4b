/- Part 30: ReadP. Conditions: as each part says. -/
import Derived.Test.YtbfbokdccdagkaaGreatDoorRnm10
import Derived.Test.YtbfbokdccdagkaaGreatDoorRnm12
set_option linter.unusedVariables false
set_option linter.unusedSimpArgs false
namespace Go.Proofs.YtbfbokdccdagkaaGreatDoor
open Go.RowKit Go.Our Go.ChangeShapes Go.WideShapes Go.ChangeAt Go.Sx
section
variable {H:Type}{enc:TypeId×Value->H}{w:World}{base:Nat}{sp:Nat->Bool}{held:Bool}
abbrev prL(x:Pr):List Value:=[strV x.1,strV x.2]
end
end Go.Proofs.YtbfbokdccdagkaaGreatDoor
