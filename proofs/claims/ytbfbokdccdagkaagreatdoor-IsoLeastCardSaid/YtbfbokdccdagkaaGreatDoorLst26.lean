/- Part 26: ReadP. Conditions: as each part says. -/
import Derived.Test.YtbfbokdccdagkaaGreatDoorLst10
import Derived.Test.YtbfbokdccdagkaaGreatDoorLst12
set_option linter.unusedVariables false
set_option linter.unusedSimpArgs false
namespace Go.Proofs.YtbfbokdccdagkaaGreatDoor
open Go.RowKit Go.Our Go.ChangeShapes Go.WideShapes Go.ChangeAt Go.Sx
open _root_.Go.Proofs.Tryz
section
variable {H:Type}{enc:TypeId×Value->H}{w:World}{base:Nat}{sp:Nat->Bool}{held:Bool}
abbrev prL(x:Pr):List Value:=[strV x.1,strV x.2]
theorem Z9l{g:FuncId}{args:List SV}{vs:List Value}{W:World}{v v' u:Value}{es es' et:Nat}{rs rs' rt:List (List SV)}{en en' eu:Option Ent}(h:SliceIn W v es rs en)(h':SliceIn W v' es' rs' en')(hu:SliceIn W u et rt eu)(sp:Does prog tab g 3 args [] [(0, .rows es rs),(1, .rows es' rs'),(2, .rows et rt)] (ValK 3 (.bool true)))(eg:∀args w,(callFunc g args).run prog w= .ok (.enter g args) w)(hd:DenL [en,en',eu] args vs)(hg:Za4 W):
 Calls prog g ⟨vs⟩ W fun e W'=>e= .returned (.bool true)/\Below W.heap.size W W':=by
 refine Z8y (η0:=[en,en',eu]) rfl sp eg hd (fun p hp=>?_) (fun i e hi=>?_) hg
 ·rcases List.mem_cons.1 hp with rfl|hp
  ·exact h.sat rfl
  ·rcases List.mem_cons.1 hp with rfl|hp
   ·exact h'.sat rfl
   ·have hp:=List.mem_singleton.1 hp;subst hp;exact hu.sat rfl
 ·match i,hi with
  |0,hi=>injection hi with hi;exact h.1 e hi
  |1,hi=>injection hi with hi;exact h'.1 e hi
  |2,hi=>injection hi with hi;exact hu.1 e hi
end
end Go.Proofs.YtbfbokdccdagkaaGreatDoor
