/- Part 26: Lent. Conditions: as each part says. -/
import Derived.Test.YtbfbokdccdagkaaGreatDoorRnm9
set_option linter.unusedVariables false
set_option linter.unusedSimpArgs false
set_option maxRecDepth 20000
set_option maxHeartbeats 8000000
namespace Go.Proofs.YtbfbokdccdagkaaGreatDoor
open Go.Sx Go.Our
open Tryz
def ZfN:Plan:=(ZT [(0,1),(1,1),(2,1),(4,1),(5,1),(6,1),(3,2),(7,2),(8,1)])
theorem Z38(l z y:List Qd)(lA lB:Option Nat)(hz:(l++z).length<=1152921504606846976):Does prog tab 34 2 [.sl (.loc 0) 0 16 l.length lA, .sl (.loc 1) 0 16 l.length lB] [] [(0, .rows 16 ((l++z).map Zk)),(1, .rows 16 ((l++y).map Zk))] (ValK 2 (.bool true)):=by
 have hz1:(l++z).length=l.length+z.length:=List.length_append;have get:∀{z:List Qd} {i k:Nat} (h:i<l.length) (e:k=i),((l++z).map Zk)[k]?=some (Zk l[i]):=fun h e=>by subst e;rw[List.getElem?_map,List.getElem?_append_left h,List.getElem?_eq_getElem h];rfl
 refine Does.enter Z1 call34 func34 rfl 26 rfl rfl [.tmp 4] rfl ?_;intro w0 F η0 h0;conv=>whnf
 repeat'((first|refine AU ?_|(refine IW ?_ ?_<;>intro h<;>try(exfalso;omega)))<;>conv=>whnf)
 refine LOOP.gok Z1 [0,1] [] (X:=Nat) (fun i=>i<=l.length) (fun i=>[(5, .int .i64 (i:Int))]) (fun i=>[]) 2 (fun i=>l.length-i) 0 (by omega) ?_;conv=>whnf
 refine⟨by exact GOES.kA h0 [],?_⟩;intro i hi;conv=>whnf
 by_cases hil:i<l.length
 ·repeat'((first|refine DRAWN.of (id:=6) Z1 mixed ZfN (by kernel_rfl) ?_|refine ADD.mk (fun _ _=>?_)|refine AD ?_|refine FORK.mk ?_ ?_|(refine GET.at (get hil (by omega)) ?_;conv=>whnf)|refine AU ?_|(refine IW ?_ ?_<;>intro h<;>try(exfalso;omega)))<;>conv=>whnf)
  ·simp at h
  refine⟨i+1,by omega,by omega,?_⟩;conv=>whnf
  exact GOES.kA h0 []
 ·repeat'((first|refine AU ?_|(refine IW ?_ ?_<;>intro h<;>try(exfalso;omega)))<;>conv=>whnf)
  exact FIN.valueK h0 rfl rfl
end Go.Proofs.YtbfbokdccdagkaaGreatDoor
