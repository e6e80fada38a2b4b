/- Part 40: RCan1. Conditions: as each part says. -/
import Derived.Test.YtlcbipfmodcedaaGreatDoorCiso16
import Derived.Test.YtlcbipfmodcedaaGreatDoorCiso32
set_option linter.unusedVariables false
set_option linter.unusedSimpArgs false
set_option maxRecDepth 20000
set_option maxHeartbeats 8000000
namespace Go.Proofs.YtlcbipfmodcedaaGreatDoor
open Go.Sx Go.Our Go.Lib
def Tk(L:List Int):List (Int×Int):=L.map fun k=>(k,1)
theorem ZeV(L:List Int):Zj (VR KI (SV.int .i64) (Tk L))=true:=H9 KI _ (fun _=>rfl) _
instance {L:List Int}:Pl (VR KI (SV.int .i64) (Tk L)):=⟨ZeV L⟩
end Go.Proofs.YtlcbipfmodcedaaGreatDoor
