/- Part 39: NodeM. Conditions: as each part says. -/
import Derived.Test.YtlcbipfmodcedaaGreatDoorRfn26
import Derived.Test.YtlcbipfmodcedaaGreatDoorRfn38
set_option linter.unusedVariables false
set_option linter.unusedSimpArgs false
namespace Go.Our
open Go.Sx Go.Lib
def colV(cl:List Int)(x:Nat):Int:=cl.getD x 0
def cRef(A:List LB)(l:List Qd)(cl:List Int)(a b:Nat):Int:=VA (colV cl a) (colV cl b) (Yc A l cl a) (Yc A l cl b)
theorem Z44(A:List LB)(l:List Qd)(cl:List Int)(a b:Nat):(cRef A l cl a b<0<->UE A l cl a b<0)/\(cRef A l cl a b=0<->UE A l cl a b=0):=Z9b _ _ _ _
theorem ZfR(A:List LB)(l:List Qd)(cl:List Int)(a b:Nat):cRef A l cl a b<=0<->UE A l cl a b<=0:=by
 obtain⟨h1,h2⟩:=Z44 A l cl a b;omega
theorem ZgS(A:List LB)(l:List Qd)(cl:List Int):Pre (cRef A l cl) where
 anti a b:=by
  have h:=(Vt A l cl).anti a b;obtain⟨h1,h2⟩:=Z44 A l cl a b;obtain⟨h3,h4⟩:=Z44 A l cl b a;omega
 trans a b d h1 h2:=by
  rw[ZfR]at*;exact(Vt A l cl).trans a b d h1 h2
theorem Z5f{A:List LB}{l:List Qd}{cl:List Int}{o:List Nat}(h:o.Pairwise fun a b=>cRef A l cl a b<=0):o.Pairwise fun a b=>UE A l cl a b<=0:=h.imp fun h1=>(ZfR ..).1 h1
theorem Z45{cl:List Int}(h:∀c∈cl,0<=c/\c<10000)(x:Nat):0<=colV cl x/\colV cl x<1048576:=by
 unfold colV;rw[List.getD_eq_getElem?_getD];by_cases hx:x<cl.length
 ·rw[List.getElem?_eq_getElem hx,Option.getD_some];have:=h _ (List.getElem_mem hx);omega
 ·rw[List.getElem?_eq_none (by omega)];simp
end Go.Our
