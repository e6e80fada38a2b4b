/- Part 44: Can8. Conditions: as each part says. -/
import Derived.Test.YtlcbipfmodcedaaGreatDoorFrm41
import Derived.Test.YtlcbipfmodcedaaGreatDoorFrm43
set_option linter.unusedVariables false
set_option linter.unusedSimpArgs false
set_option maxRecDepth 20000
set_option maxHeartbeats 8000000
namespace Go.Proofs.YtlcbipfmodcedaaGreatDoor
open Go.Sx Go.Our Go.Lib
def HN(L:List LB):List (List SV):=L.map Ze
def RS(c:Nat)(k:Int)(L:List LB):DC:=if 0<=k/\k< (c:Int)then .v .any else .uA 1 (HN L)
theorem RT(L:List LB):Zj (HN L)=true:=Zq L
instance {m:List (Int×List LB)}:bu (YU KI 1 HN m):=⟨Gm KI (h:=fun _ v=> .uA 1 (HN v)) (fun k v=>RT v) m⟩
instance {c:Nat}{m:List (Int×List LB)}:bu (YW KI (RS c) m):=⟨Gm KI (fun k v=>by unfold RS;split;rfl;exact RT v) m⟩
end Go.Proofs.YtlcbipfmodcedaaGreatDoor
