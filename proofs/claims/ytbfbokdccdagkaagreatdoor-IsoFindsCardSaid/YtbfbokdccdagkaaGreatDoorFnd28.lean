/- Part 28: Lent. Conditions: as each part says. -/
import Derived.Test.YtbfbokdccdagkaaGreatDoorFnd9
set_option linter.unusedVariables false
set_option linter.unusedSimpArgs false
set_option maxRecDepth 20000
set_option maxHeartbeats 8000000
namespace Go.Proofs.YtbfbokdccdagkaaGreatDoor
open Go.Sx Go.Our
open Tryz
def Ze9:Plan:=(Zv [(0,1),(1,1),(2,1),(4,1),(5,1),(6,1),(3,2),(7,2),(8,1)])
def Zea:Plan:=(Zv [(0,1),(1,1),(2,3),(3,1),(4,1),(5,1),(6,1),(7,1),(8,2),(9,3),(10,1),(11,1),(12,1)])
def Um:Qd:=⟨⟨77,[104,111,108,100,101,114],[],[]⟩,Zx,Zx,Zx⟩
theorem WP:Does prog tab 35 0 [] [] [] (Val (.agg (Zj Um))):=by
 refine Does.enter Z1 call35 func35 rfl 3 rfl rfl [.cell 0 67] rfl ?_;intro w0 F η0 h0;conv=>whnf
 repeat'((first|refine AU ?_|(refine IW ?_ ?_<;>intro h<;>try(exfalso;omega)))<;>conv=>whnf)
 exact FIN.value h0 rfl rfl
theorem Z6o(n:Int):Does prog tab 19 0 [.int .i64 n] [] [] (Val (.int .i64 n)):=by
 refine Does.enter Z1 call19 func19 rfl 4 rfl rfl [.tmp 2] rfl ?_;intro w0 F η0 h0;conv=>whnf
 repeat'((first|refine AU ?_|(refine IW ?_ ?_<;>intro h<;>try(exfalso;omega)))<;>conv=>whnf)
 exact FIN.value h0 rfl rfl
theorem Zeb{l:List Qd}(zr hr:List SV)(h:hr=Zj Um):((List.take 0 (List.replicate (l.length+1) zr)++l.map Zj++List.drop (0+l.length) (List.replicate (l.length+1) zr)).set (0+((l.length:Nat):Int).toNat) hr)=(l++ [Um]).map Zj:=by
 subst h;rw[show 0+((l.length:Nat):Int).toNat=l.length by omega,List.take_zero,List.nil_append,Nat.zero_add,List.drop_replicate,Nat.add_sub_cancel_left,List.set_append_right _ _ (by simp),List.map_append];simp
theorem Z7X(l z:List Qd)(lim:Option Nat)(hl:V6 l):Does prog tab 11 1 [.sl (.loc 0) 0 16 l.length lim] [] [(0, .rows 16 ((l++z).map Zj))]
 (fun r O nx=>r= .sl (.loc 1) 0 16 l.length none/\O=[(1, .rows 16 ((l++ [Um]).map Zj))]/\nx=2):=by
 unfold V6 at hl;have hw:(IntKind.i64.wrap ((l.length:Int)+1)).toNat=l.length+1:=by rw[Z9 (by omega) (by omega)];omega
 refine Does.enter Z1 call11 func11 rfl 20 rfl rfl [.tmp 2] rfl ?_;intro w0 F η0 h0;conv=>whnf
 repeat'((first|refine CALL.value (WP) rfl rfl ?_|(rw[Zcy];conv=>whnf)|(refine NEED.mk (ZgW 224 rfl (by rw[Z9 (by omega) (by omega)];omega) (Int.le_refl _) (by rw[Z9 (by omega) (by omega)];omega)) ?_;rw[hw];conv=>whnf)|(refine NEED.mk ⟨by simp,by simp,by simp⟩ ?_;conv=>whnf)|(refine GET.at (row:=Zj Z4S) (by rw[show 0+((l.length:Nat):Int).toNat=l.length by omega,List.take_zero,List.nil_append,List.getElem?_append_right (by simp)];simp;rfl) ?_;conv=>whnf)|refine AU ?_|(refine IW ?_ ?_<;>intro h<;>try(exfalso;omega)))<;>conv=>whnf)
 exact FIN.aA h0 [1] (.sl (.loc 1) 0 16 l.length none) [(1, .rows 16 ((l++ [Um]).map Zj))] ⟨rfl,rfl,rfl⟩ (hO:=⟨Zo (Z5D _) (Zeb _ _ rfl),trivial⟩)
theorem Z4s(l z y:List Qd)(lA lB:Option Nat)(hz:(l++z).length<=1152921504606846976):Does prog tab 34 2 [.sl (.loc 0) 0 16 l.length lA, .sl (.loc 1) 0 16 l.length lB] [] [(0, .rows 16 ((l++z).map Zj)),(1, .rows 16 ((l++y).map Zj))] (ValK 2 (.bool true)):=by
 have hz1:(l++z).length=l.length+z.length:=List.length_append;have get:∀{z:List Qd} {i k:Nat} (h:i<l.length) (e:k=i),((l++z).map Zj)[k]?=some (Zj l[i]):=fun h e=>by subst e;rw[List.getElem?_map,List.getElem?_append_left h,List.getElem?_eq_getElem h];rfl
 refine Does.enter Z1 call34 func34 rfl 26 rfl rfl [.tmp 4] rfl ?_;intro w0 F η0 h0;conv=>whnf
 repeat'((first|refine AU ?_|(refine IW ?_ ?_<;>intro h<;>try(exfalso;omega)))<;>conv=>whnf)
 refine LOOP.gok Z1 [0,1] [] (X:=Nat) (fun i=>i<=l.length) (fun i=>[(5, .int .i64 (i:Int))]) (fun i=>[]) 2 (fun i=>l.length-i) 0 (by omega) ?_;conv=>whnf
 refine⟨by exact GOES.kA h0 [],?_⟩;intro i hi;conv=>whnf
 by_cases hil:i<l.length
 ·repeat'((first|refine DRAWN.of (id:=6) Z1 mixed Ze9 (by kernel_rfl) ?_|refine ADD.mk (fun _ _=>?_)|refine AD ?_|refine FORK.mk ?_ ?_|(refine GET.at (get hil (by omega)) ?_;conv=>whnf)|refine AU ?_|(refine IW ?_ ?_<;>intro h<;>try(exfalso;omega)))<;>conv=>whnf)
  ·simp at h
  refine⟨i+1,by omega,by omega,?_⟩;conv=>whnf
  exact GOES.kA h0 []
 ·repeat'((first|refine AU ?_|(refine IW ?_ ?_<;>intro h<;>try(exfalso;omega)))<;>conv=>whnf)
  exact FIN.valueK h0 rfl rfl
theorem Z4t(l z y:List Pr)(lA lB:Option Nat)(hz:(l++z).length<=1152921504606846976):Does prog tab 20 2 [.sl (.loc 0) 0 2 l.length lA, .sl (.loc 1) 0 2 l.length lB] [] [(0, .rows 2 ((l++z).map YA)),(1, .rows 2 ((l++y).map YA))] (ValK 2 (.bool true)):=by
 have hz1:(l++z).length=l.length+z.length:=List.length_append;have get:∀{z:List Pr} {i k:Nat} (h:i<l.length) (e:k=i),((l++z).map YA)[k]?=some (YA l[i]):=fun h e=>by subst e;rw[List.getElem?_map,List.getElem?_append_left h,List.getElem?_eq_getElem h];rfl
 refine Does.enter Z1 call20 func20 rfl 26 rfl rfl [.tmp 4] rfl ?_;intro w0 F η0 h0;conv=>whnf
 repeat'((first|refine AU ?_|(refine IW ?_ ?_<;>intro h<;>try(exfalso;omega)))<;>conv=>whnf)
 refine LOOP.gok Z1 [0,1] [] (X:=Nat) (fun i=>i<=l.length) (fun i=>[(5, .int .i64 (i:Int))]) (fun i=>[]) 2 (fun i=>l.length-i) 0 (by omega) ?_;conv=>whnf
 refine⟨by exact GOES.kA h0 [],?_⟩;intro i hi;conv=>whnf
 by_cases hil:i<l.length
 ·repeat'((first|refine DRAWN.of (id:=6) Z1 mixed Ze9 (by kernel_rfl) ?_|refine ADD.mk (fun _ _=>?_)|refine AD ?_|refine FORK.mk ?_ ?_|(refine GET.at (get hil (by omega)) ?_;conv=>whnf)|refine AU ?_|(refine IW ?_ ?_<;>intro h<;>try(exfalso;omega)))<;>conv=>whnf)
  ·simp at h
  refine⟨i+1,by omega,by omega,?_⟩;conv=>whnf
  exact GOES.kA h0 []
 ·repeat'((first|refine AU ?_|(refine IW ?_ ?_<;>intro h<;>try(exfalso;omega)))<;>conv=>whnf)
  exact FIN.valueK h0 rfl rfl
theorem Z7Y(l z:List Qd)(lim:Option Nat)(hl:V6 l)(hz:(l++z).length<=1152921504606846976):Does prog tab 15 2 [.sl (.loc 1) 0 16 l.length none, .sl (.loc 0) 0 16 l.length lim] [(1, .rows 16 ((l++ [Um]).map Zj))] [(0, .rows 16 ((l++z).map Zj))]
 (fun r O nx=>r= .bool true/\O=[(1, .rows 16 ((l++ [Um]).map Zj))]/\nx=2):=by
 unfold V6 at hl;have hA:(l++ [Um]).length<=1152921504606846976:=by simp;omega
 have hS:=Z4s l [Um] z none lim hA;refine Does.enter Z1 call15 func15 rfl 23 rfl rfl [.tmp 4] rfl ?_;intro w0 F η0 h0;conv=>whnf
 have hw:(IntKind.i64.wrap ((l.length:Int)+1)).toNat=l.length+1:=by rw[Z9 (by omega) (by omega)];omega
 refine NEED.mk ⟨by rw[Z9 (by omega) (by omega)];omega,by rw[Z9 (by omega) (by omega)];show _<=((max l.length (((l++ [Um]).map Zj).length-0):Nat):Int);simp⟩ ?_;rw[hw];conv=>whnf
 repeat'((first|refine DRAWN.of (id:=2) Z1 mixed Zea (by kernel_rfl) ?_|refine ADD.mk (fun _ _=>?_)|refine AD ?_|refine FORK.mk ?_ ?_|refine CALL.value (WP) rfl rfl ?_|refine AU ?_|(refine IW ?_ ?_<;>intro h<;>try(exfalso;omega)))<;>conv=>whnf)
 refine CALL.aA [1,0] (hS) ?_;rintro r O nx ⟨rfl,rfl,rfl⟩;conv=>whnf
 repeat'((first|refine DRAWN.of (id:=2) Z1 mixed Zea (by kernel_rfl) ?_|refine ADD.mk (fun _ _=>?_)|refine AD ?_|refine FORK.mk ?_ ?_|refine CALL.value (WP) rfl rfl ?_|(refine GET.at (row:=Zj Um) (by rw[show 0+((l.length:Nat):Int).toNat=l.length by omega,List.getElem?_map,List.getElem?_append_right (Nat.le_refl _)];simp) ?_;conv=>whnf)|refine AU ?_|(refine IW ?_ ?_<;>intro h<;>try(exfalso;omega)))<;>conv=>whnf)
 exact FIN.here h0 (rc:= .bool true) (Oc:=[(1, .rows 16 ((l++ [Um]).map Zj))]) (congrArg SV.bool (by simp)) rfl (by simp only[Zn,Zm,Z4 _ (Z5D _),Bool.and_self,Bool.and_true]<;>rfl) ⟨rfl,trivial⟩ ⟨rfl,rfl,rfl⟩
theorem Z5c(L:List Qd)(n:Nat)(hn:n<=L.length)(hL:L.length<=1152921504606846976):Does prog tab 16 1 [.sl (.loc 0) 0 16 n none] [(0, .rows 16 (L.map Zj))] [] (ValK 1 (.tup [])):=by
 refine Does.enter Z1 call16 func16 rfl 14 rfl rfl [] rfl ?_;intro w0 F η0 h0;conv=>whnf
 refine LOOP.gok Z1 [0] [] (X:=Nat×List Qd) (fun x=>x.1<=n/\x.2.length=L.length) (fun x=>[(2, .int .i64 (x.1:Int))]) (fun x=>[(0, .rows 16 (x.2.map Zj))]) 1 (fun x=>n-x.1) (0,L) ⟨by simp,rfl⟩ ?_;conv=>whnf
 refine⟨by exact GOES.kA h0 [],?_⟩;rintro⟨i,C⟩ ⟨hi,hC⟩;dsimp only at hi hC⊢;conv=>whnf
 by_cases hil:i<n
 ·have g:(C.map Zj)[0+(i:Int).toNat]?=some (Zj (C[i]'(by omega))):=by rw[List.getElem?_map,show 0+(i:Int).toNat=i by omega,List.getElem?_eq_getElem (by omega)];rfl
  repeat'((first|(refine GET.at g ?_;conv=>whnf)|refine AU ?_|(refine IW ?_ ?_<;>intro h<;>try(exfalso;omega)))<;>conv=>whnf)
  refine⟨(i+1,C.set i ⟨⟨9,[115,112,111,105,108,116],[],[]⟩,Zx,Zx,Zx⟩),⟨by dsimp only;omega,by simp[hC]⟩,by dsimp only;omega,?_⟩;dsimp only;conv=>whnf
  exact GOES.kA h0 []
 ·repeat'((first|refine AU ?_|(refine IW ?_ ?_<;>intro h<;>try(exfalso;omega)))<;>conv=>whnf)
  exact FIN.valueK h0 rfl rfl
end Go.Proofs.YtbfbokdccdagkaaGreatDoor
