/- Part 22: Ren7, Ren8. Conditions: as each part says. -/
import Derived.Test.YtbfbokdccdagkaaGreatDoorFnd12
set_option linter.unusedVariables false
set_option linter.unusedSimpArgs false
set_option maxRecDepth 20000
set_option maxHeartbeats 8000000
namespace Go.Proofs.YtbfbokdccdagkaaGreatDoor
open Go.Sx Go.Our
theorem ZdY{ps:List Pr}{s:List UInt8}{i:Nat}(h:i<ps.length):toOf (ps.drop i) s=if ps[i].1=s then some ps[i].2 else toOf (ps.drop (i+1)) s:=by
 unfold toOf;rw[List.drop_eq_getElem_cons h,List.find?_cons];by_cases e:ps[i].1=s
 ·rw[decide_eq_true e,if_pos e];rfl
 ·rw[decide_eq_false e,if_neg e]
end Go.Proofs.YtbfbokdccdagkaaGreatDoor
namespace Go.Proofs.YtbfbokdccdagkaaGreatDoor
open Go.Sx Go.Our
end Go.Proofs.YtbfbokdccdagkaaGreatDoor
