/- Part 27: LawRel, LawLst. Conditions: as each part says. -/
import Derived.Test.YtbfbokdccdagkaaGreatDoorUnm22
import Derived.Test.YtbfbokdccdagkaaGreatDoorUnm24
set_option linter.unusedVariables false
set_option linter.unusedSimpArgs false
set_option maxRecDepth 20000
set_option maxHeartbeats 8000000
namespace Go.Proofs.YtbfbokdccdagkaaGreatDoor
open Go.Sx Go.Our
end Go.Proofs.YtbfbokdccdagkaaGreatDoor
namespace Go.Proofs.YtbfbokdccdagkaaGreatDoor
open Go.Sx Go.Our
theorem Zhq{l:List Qd}(d:DsOK l):W2 l:=fun q hq=>by
 obtain⟨t1,t2,t3,t4⟩:=ZgK (d.ck q hq);unfold TmOK at t1 t2 t3 t4;refine⟨?_,?_,?_,?_⟩<;>(unfold TmSm;omega)
end Go.Proofs.YtbfbokdccdagkaaGreatDoor
