/- Part 24: Bij2. Conditions: as each part says. -/
import Derived.Test.YtbfbokdccdagkaaGreatDoorFnd20
import Derived.Test.YtbfbokdccdagkaaGreatDoorFnd23
set_option linter.unusedVariables false
set_option linter.unusedSimpArgs false
set_option maxRecDepth 20000
set_option maxHeartbeats 8000000
namespace Go.Proofs.YtbfbokdccdagkaaGreatDoor
open Go.Sx Go.Our
open Tryz
def Zhr:Plan:=(Zv [(0,1),(1,1),(2,1),(4,1),(5,1),(6,1),(3,2),(7,2),(8,1)])
theorem Z7R(ps zp:List Pr)(s:LB)(lim:Option Nat)(hp:(ps++zp).length<=1152921504606846976):Does prog tab 76 1 [.sl (.loc 0) 0 2 ps.length lim, .str s] [] [(0, .rows 2 ((ps++zp).map YA))] (ValK 1 (.tup [.str ((toOf ps s).getD []), .bool (toOf ps s).isSome])):=by
 have hp1:(ps++zp).length=ps.length+zp.length:=List.length_append;refine Does.enter Z1 call76 func76 rfl 25 rfl rfl [.tmp 4, .tmp 5] rfl ?_;intro w0 F η0 h0;conv=>whnf
 repeat'((first|refine AU ?_|(refine IW ?_ ?_<;>intro h<;>try(exfalso;omega)))<;>conv=>whnf)
 refine LOOP.gok Z1 [0,1] [] (X:=Nat) (fun i=>i<=ps.length/\toOf ps s=toOf (ps.drop i) s) (fun i=>[(6, .int .i64 (i:Int))]) (fun i=>[]) 1 (fun i=>ps.length-i) 0 ⟨by omega,rfl⟩ ?_;conv=>whnf
 refine⟨by exact GOES.kA h0 [],?_⟩;rintro i ⟨hi,ht⟩;conv=>whnf
 by_cases hil:i<ps.length
 ·rw[ZdY hil]at ht;repeat'((first|(refine GET.at (row:=YA (ps[i]'(by omega))) (Zir (by omega) (by omega)) ?_;conv=>whnf)|refine AU ?_|(refine IW ?_ ?_<;>intro h<;>try(exfalso;omega)))<;>conv=>whnf)
  ·rw[if_pos h]at ht;exact FIN.valueK h0 rfl (by rw[ht];rfl)
  ·rw[if_neg h]at ht;refine⟨i+1,⟨by omega,ht⟩,by omega,?_⟩;conv=>whnf
   exact GOES.kA h0 []
 ·have hie:i=ps.length:=by omega
  rw[hie,List.drop_length]at ht;repeat'((first|refine AU ?_|(refine IW ?_ ?_<;>intro h<;>try(exfalso;omega)))<;>conv=>whnf)
  exact FIN.valueK h0 rfl (by rw[ht];rfl)
theorem Zbt(l m zl zm:List Qd)(lA lB:Option Nat)(hl:(l++zl).length<=1152921504606846976)(hm:(m++zm).length<=1152921504606846976):Does prog tab 50 2 [.sl (.loc 0) 0 16 l.length lA, .sl (.loc 1) 0 16 m.length lB] [] [(0, .rows 16 ((l++zl).map Zj)),(1, .rows 16 ((m++zm).map Zj))] (ValK 2 (.bool (decide (l=m)))):=by
 have hl1:(l++zl).length=l.length+zl.length:=List.length_append;have hm1:(m++zm).length=m.length+zm.length:=List.length_append;refine Does.enter Z1 call50 func50 rfl 26 rfl rfl [.tmp 4] rfl ?_;intro w0 F η0 h0;conv=>whnf
 repeat'((first|refine AU ?_|(refine IW ?_ ?_<;>intro h<;>try(exfalso;omega)))<;>conv=>whnf)
 ·exact FIN.valueK h0 rfl (congrArg SV.bool (decide_eq_false fun e=>by subst e;omega).symm)
 have hlm:l.length=m.length:=by omega
 refine LOOP.gok Z1 [0,1] [] (X:=Nat) (fun i=>i<=l.length/\l.take i=m.take i) (fun i=>[(5, .int .i64 (i:Int))]) (fun i=>[]) 2 (fun i=>l.length-i) 0 ⟨by omega,rfl⟩ ?_;conv=>whnf
 refine⟨by exact GOES.kA h0 [],?_⟩;rintro i ⟨hi,ht⟩;conv=>whnf
 by_cases hil:i<l.length
 ·have hs:=Z7Q hil (hlm▸hil) ht;repeat'((first|refine DRAWN.of (id:=6) Z1 mixed Zhr (by kernel_rfl) ?_|refine ADD.mk (fun _ _=>?_)|refine AD ?_|refine FORK.mk ?_ ?_|(refine GET.at (Z78 hil (by omega)) ?_;conv=>whnf)|(refine GET.at (Z78 (hlm▸hil) (by omega)) ?_;conv=>whnf)|refine AU ?_|(refine IW ?_ ?_<;>intro h<;>try(exfalso;omega)))<;>conv=>whnf)
  ·exact FIN.valueK h0 rfl (congrArg SV.bool (decide_eq_false fun e=>by subst e;simp at h).symm)
  refine⟨i+1,⟨by omega,hs.1 (Zgp h)⟩,by omega,?_⟩;conv=>whnf
  exact GOES.kA h0 []
 ·repeat'((first|refine AU ?_|(refine IW ?_ ?_<;>intro h<;>try(exfalso;omega)))<;>conv=>whnf)
  rw[show i=l.length by omega,List.take_length,hlm,List.take_length]at ht;exact FIN.valueK h0 rfl (congrArg SV.bool (decide_eq_true ht).symm)
end Go.Proofs.YtbfbokdccdagkaaGreatDoor
