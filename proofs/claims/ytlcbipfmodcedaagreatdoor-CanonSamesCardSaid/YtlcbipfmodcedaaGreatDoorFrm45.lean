/- Part 45: RCan11. Conditions: as each part says. -/
import Derived.Test.YtlcbipfmodcedaaGreatDoorFrm42
import Derived.Test.YtlcbipfmodcedaaGreatDoorFrm44
set_option linter.unusedVariables false
set_option linter.unusedSimpArgs false
set_option maxRecDepth 20000
set_option maxHeartbeats 8000000
namespace Go.Proofs.YtlcbipfmodcedaaGreatDoor
open Go.Sx Go.Our Go.Lib
theorem Gn{l:List Qd}(h:kJ l=0):(YL l).2=0/\(ZQ l).length<=4096:=by
 unfold kJ at h;split at h
 omega
 .rename_i h2;exact⟨h,Nat.le_of_not_lt fun h3=>h2 ⟨h,h3⟩⟩
end Go.Proofs.YtlcbipfmodcedaaGreatDoor
