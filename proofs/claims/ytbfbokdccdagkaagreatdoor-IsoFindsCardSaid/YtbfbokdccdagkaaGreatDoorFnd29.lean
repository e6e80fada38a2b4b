/- Part 29: LawFinds. Conditions: as each part says. -/
import Derived.Test.YtbfbokdccdagkaaGreatDoorFnd27
import Derived.Test.YtbfbokdccdagkaaGreatDoorFnd28
set_option linter.unusedVariables false
set_option linter.unusedSimpArgs false
set_option maxRecDepth 20000
set_option maxHeartbeats 8000000
namespace Go.Proofs.YtbfbokdccdagkaaGreatDoor
open Go.Sx Go.Our
open Tryz
theorem ZiT(A B:List LB)(zs:List Nat):(prsM A B zs).length<=A.length:=by unfold prsM;rw[List.length_zipWith];omega
theorem ZbA{a b:List Qd}{budget:Int}{ps:List Pr}{e:Int}(h:FindIs a b budget ps e):ps.length<=4194304:=by
 rcases h with⟨_,rfl,_⟩|⟨_,_,rfl,_⟩|⟨hv,_,F,c,_,he⟩
 ·simp
 ·simp
 ·have hA:=YU (Z40 hv).1;unfold ZdW at he;split at he
  ·split at he<;>injection he with h1 h2
   ·rw[h1];exact Nat.le_trans (ZiT _ _ _) hA
   ·rw[h1];simp
   ·rw[h1];simp
  ·injection he with h1 h2;rw[h1];simp
theorem ZiU{l:List Pr}{i k:Nat}(h:i<l.length)(e:k=i):(l.map YA)[k]?=some (YA l[i]):=by subst e;rw[List.getElem?_map,List.getElem?_eq_getElem h];rfl
set_option maxHeartbeats 16000000 in
theorem Z6p(a b:List Qd)(budget:Int)(ha:V6 a)(hb:V6 b)(qa:Wf a)(qb:Wf b):Does prog tab 6 2 [.sl (.loc 0) 0 16 a.length none, .sl (.loc 1) 0 16 b.length none, .int .i64 budget] [] [(0, .rows 16 (a.map Zj)),(1, .rows 16 (b.map Zj))] (ValK 2 (.bool true)):=by
 have hLa:=Z7X a [] none ha;have hLb:=Z7X b [] none hb;have hKa:=Z7Y a [] none ha (by unfold V6 at ha;simp;omega);have hKb:=Z7Y b [] none hb (by unfold V6 at hb;simp;omega);have hSa:=Z5c (a++ [Um]) a.length (by simp) (by unfold V6 at ha;simp;omega);have hSb:=Z5c (b++ [Um]) b.length (by simp) (by unfold V6 at hb;simp;omega);rw[List.append_nil]at hLa hLb hKa hKb;unfold V6 at ha hb;have hF:=Z7U a [Um] b [Um] none none budget (by omega) (by omega) qa qb (by simp;omega) (by simp;omega);have hS:=Z7W a [Um] b [Um] none none budget (by omega) (by omega) qa qb (by simp;omega) (by simp;omega);have hRF:=Z46 a b budget (by omega) (by omega) qa qb;have hRS:=Z9e a b budget (by omega) (by omega) qa qb;refine Does.enter Z1 call6 func6 rfl 124 rfl rfl [.tmp 6] rfl ?_;intro w0 F η0 h0;conv=>whnf
 repeat'((first|refine AU ?_|(refine IW ?_ ?_<;>intro h<;>try(exfalso;omega)))<;>conv=>whnf)
 refine CALL.aA [0] (hLa) ?_;rintro r O nx ⟨rfl,rfl,rfl⟩;conv=>whnf
 repeat'((first|refine AU ?_|(refine IW ?_ ?_<;>intro h<;>try(exfalso;omega)))<;>conv=>whnf)
 refine CALL.aA [1] (hLb) ?_;rintro r O nx ⟨rfl,rfl,rfl⟩;conv=>whnf
 repeat'((first|refine AU ?_|(refine IW ?_ ?_<;>intro h<;>try(exfalso;omega)))<;>conv=>whnf)
 refine CALL.aA [2,3] (hF) ?_;rintro r O nx ⟨ps,e,hI,rfl,rfl,rfl⟩;have hpl:=ZbA hI;have hQ:=Z4t ps [] [] none none (by simp;omega);rw[List.append_nil]at hQ;conv=>whnf
 repeat'((first|refine AU ?_|(refine IW ?_ ?_<;>intro h<;>try(exfalso;omega)))<;>conv=>whnf)
 refine CALL.aA [2,3] (hF) ?_;rintro r O nx ⟨ps2,e2,hI2,rfl,rfl,rfl⟩;obtain⟨rfl,rfl⟩:=hI.det hI2;conv=>whnf
 repeat'((first|refine AU ?_|(refine IW ?_ ?_<;>intro h<;>try(exfalso;omega)))<;>conv=>whnf)
 refine CALL.aA [0,1] (hRF) ?_;rintro r O nx ⟨ps2,e2,hI2,rfl,rfl,rfl⟩;obtain⟨rfl,rfl⟩:=hI.det hI2;conv=>whnf
 repeat'((first|refine AU ?_|(refine IW ?_ ?_<;>intro h<;>try(exfalso;omega)))<;>conv=>whnf)
 refine CALL.aA [2,3] (hS) ?_;rintro r O nx ⟨ps2,e2,hI2,rfl,rfl,rfl⟩;obtain⟨rfl,rfl⟩:=hI.det hI2;conv=>whnf
 repeat'((first|refine AU ?_|(refine IW ?_ ?_<;>intro h<;>try(exfalso;omega)))<;>conv=>whnf)
 refine CALL.aA [0,1] (hRS) ?_;rintro r O nx ⟨ps2,e2,hI2,rfl,rfl,rfl⟩;obtain⟨rfl,rfl⟩:=hI.det hI2;conv=>whnf
 repeat'((first|refine CALL.value (Z6o _) rfl rfl ?_|refine AU ?_|(refine IW ?_ ?_<;>intro h<;>try(exfalso;omega)))<;>conv=>whnf)
 refine CALL.aA [4,6] (hQ) ?_;rintro r O nx ⟨rfl,rfl,rfl⟩;conv=>whnf
 repeat'((first|refine CALL.value (Z6o _) rfl rfl ?_|refine AU ?_|(refine IW ?_ ?_<;>intro h<;>try(exfalso;omega)))<;>conv=>whnf)
 refine CALL.aA [5,6] (hQ) ?_;rintro r O nx ⟨rfl,rfl,rfl⟩;conv=>whnf
 repeat'((first|refine CALL.value (Z6o _) rfl rfl ?_|refine AU ?_|(refine IW ?_ ?_<;>intro h<;>try(exfalso;omega)))<;>conv=>whnf)
 refine CALL.aA [0,2] (hKa) ?_;rintro r O nx ⟨rfl,rfl,rfl⟩;conv=>whnf
 repeat'((first|refine AU ?_|(refine IW ?_ ?_<;>intro h<;>try(exfalso;omega)))<;>conv=>whnf)
 refine CALL.aA [1,3] (hKb) ?_;rintro r O nx ⟨rfl,rfl,rfl⟩;conv=>whnf
 repeat'((first|refine AU ?_|(refine IW ?_ ?_<;>intro h<;>try(exfalso;omega)))<;>conv=>whnf)
 refine CALL.aA [2] (hSa) ?_;rintro r O nx ⟨rfl,rfl,rfl⟩;conv=>whnf
 repeat'((first|refine AU ?_|(refine IW ?_ ?_<;>intro h<;>try(exfalso;omega)))<;>conv=>whnf)
 refine CALL.aA [3] (hSb) ?_;rintro r O nx ⟨rfl,rfl,rfl⟩;conv=>whnf
 repeat'((first|refine AU ?_|(refine IW ?_ ?_<;>intro h<;>try(exfalso;omega)))<;>conv=>whnf)
 generalize ps2=ps at hpl hQ hI⊢;refine LOOP.gok Z1 [9,11,13] [] (X:=Nat×List Pr) (fun x=>x.1<=ps.length/\x.2.length=ps.length) (fun x=>[(19, .int .i64 (x.1:Int))]) (fun x=>[(4, .rows 2 (x.2.map YA)),(5, .rows 2 (ps.map YA)),(6, .rows 2 (ps.map YA))]) 7 (fun x=>ps.length-x.1) (0,ps) ⟨by simp,rfl⟩ ?_;conv=>whnf
 refine⟨by exact GOES.cA h0,?_⟩;rintro⟨i,C⟩ ⟨hi,hC⟩;dsimp only at hi hC⊢;conv=>whnf
 by_cases hil:i<ps.length
 ·have g:=ZiU (l:=C) (i:=i) (k:=0+(i:Int).toNat) (by omega) (by omega);repeat'((first|(refine GET.at g ?_;conv=>whnf)|refine AU ?_|(refine IW ?_ ?_<;>intro h<;>try(exfalso;omega)))<;>conv=>whnf)
  refine⟨(i+1,C.set i ([115,112,111,105,108,116],[])),⟨by dsimp only;omega,by simp[hC]⟩,by dsimp only;omega,?_⟩;dsimp only;conv=>whnf
  exact GOES.kA h0 [2,3,4,5,6]
 have hie:i=ps.length:=by omega
 subst hie;repeat'((first|refine AU ?_|(refine IW ?_ ?_<;>intro h<;>try(exfalso;omega)))<;>conv=>whnf)
 refine LOOP.gok Z1 [11,13] [5,6] (X:=Nat×List Pr) (fun x=>x.1<=20/\x.2.length=C.length+x.1) (fun x=>[(20, .int .i64 (x.1:Int)),(9, .sl (.loc 4) 0 2 x.2.length none)]) (fun x=>[(4, .rows 2 (x.2.map YA))]) 7 (fun x=>20-x.1) (0,C) ⟨by simp,by simp⟩ ?_;conv=>whnf
 refine⟨by rw[<-hC];exact GOES.cA h0,?_⟩;rintro⟨k,E⟩ ⟨hk,hE⟩;dsimp only at hk hE⊢;conv=>whnf
 by_cases hkl:k<20
 ·repeat'((first|(refine NEED.mk (ZC 32 rfl rfl (by simp) (by simp) (by omega)) ?_;conv=>whnf)|refine AU ?_|(refine IW ?_ ?_<;>intro h<;>try(exfalso;omega)))<;>conv=>whnf)
  refine⟨(k+1,E++ [([109,111,114,101],[])]),⟨by dsimp only;omega,by simp[hE]<;>omega⟩,by dsimp only;omega,?_⟩;dsimp only;conv=>whnf
  exact GOES.kA h0 [2,3,8,5,6]
 repeat'((first|refine AU ?_|(refine IW ?_ ?_<;>intro h<;>try(exfalso;omega)))<;>conv=>whnf)
 refine CALL.aA [5,6] (hQ) ?_;rintro r O nx ⟨rfl,rfl,rfl⟩;conv=>whnf
 repeat'((first|refine AU ?_|(refine IW ?_ ?_<;>intro h<;>try(exfalso;omega)))<;>conv=>whnf)
 exact FIN.valueK h0 rfl rfl
end Go.Proofs.YtbfbokdccdagkaaGreatDoor
