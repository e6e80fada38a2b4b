/- Part 37: NodeM. Conditions: as each part says. -/
import Derived.Test.YtlcbipfmodcedaaGreatDoorFrm24
import Derived.Test.YtlcbipfmodcedaaGreatDoorFrm36
set_option linter.unusedVariables false
set_option linter.unusedSimpArgs false
namespace Go.Our
open Go.Sx Go.Lib
def jE(cl:List Int)(x:Nat):Int:=cl.getD x 0
def bV(A:List LB)(l:List Qd)(cl:List Int)(a b:Nat):Int:=VH (jE cl a) (jE cl b) (Yo A l cl a) (Yo A l cl b)
theorem Gi(A:List LB)(l:List Qd)(cl:List Int)(a b:Nat):(bV A l cl a b<0<->UH A l cl a b<0)/\(bV A l cl a b=0<->UH A l cl a b=0):=Z9S _ _ _ _
theorem Rx(A:List LB)(l:List Qd)(cl:List Int)(a b:Nat):bV A l cl a b<=0<->UH A l cl a b<=0:=by
 obtain⟨h1,h2⟩:=Gi A l cl a b;omega
theorem ZiG(A:List LB)(l:List Qd)(cl:List Int):Pre (bV A l cl) where
 anti a b:=by
  have h:=(Vz A l cl).anti a b;obtain⟨h1,h2⟩:=Gi A l cl a b;obtain⟨h3,h4⟩:=Gi A l cl b a;omega
 trans a b d h1 h2:=by
  rw[Rx]at*;exact(Vz A l cl).trans a b d h1 h2
theorem Ry{A:List LB}{l:List Qd}{cl:List Int}{o:List Nat}(h:o.Pairwise fun a b=>bV A l cl a b<=0):o.Pairwise fun a b=>UH A l cl a b<=0:=h.imp fun h1=>(Rx ..).1 h1
theorem BK{cl:List Int}(h:∀c∈cl,0<=c/\c<10000)(x:Nat):0<=jE cl x/\jE cl x<1048576:=by
 unfold jE;rw[zl];by_cases hx:x<cl.length
 .rw[z1 hx,Option.getD_some];have:=h _ (zk hx);omega
 rw[zW (by omega)];simp
end Go.Our
