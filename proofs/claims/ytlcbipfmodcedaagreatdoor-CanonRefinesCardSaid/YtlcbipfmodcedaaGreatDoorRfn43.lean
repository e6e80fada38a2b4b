/- Part 43: Can6, Can7. Conditions: as each part says. -/
import Derived.Test.YtlcbipfmodcedaaGreatDoorRfn24
import Derived.Test.YtlcbipfmodcedaaGreatDoorRfn40
import Derived.Test.YtlcbipfmodcedaaGreatDoorRfn42
set_option linter.unusedVariables false
set_option linter.unusedSimpArgs false
set_option maxRecDepth 20000
set_option maxHeartbeats 8000000
namespace Go.Proofs.YtlcbipfmodcedaaGreatDoor
open Go.Sx Go.Our Go.Lib
open Tryz
theorem Z9j(cl:List Int)(hc:cl.length<=1048576):Does prog tab 190 2 [.val (.slice none 0 0), .fn (.func 140) [] [.ptr (.loc 0) 0 0 0]] [] [(0, .box [.sl (.loc 1) 0 1 cl.length none]),(1, .rows 1 (cl.map Zk))]
 (fun r O nx=>r= .sl (.loc 2) 0 1 cl.length none/\O=[(2, .rows 1 (cl.map Zk))]/\nx=3):=by
 have gC:∀{i k:Nat} (h:i<cl.length),k=i->(cl.map Zk)[k]?=some (Zk cl[i]):=fun h e=>by subst e;rw[List.getElem?_map,List.getElem?_eq_getElem h];rfl
 refine Does.enter Z0 call190 func190 rfl 13 rfl rfl [.tmp 4] rfl ?_;intro w0 F η0 h0;conv=>whnf
 repeat'((first|refine AU ?_|(refine IW ?_ ?_<;>intro h<;>try(exfalso;omega)))<;>conv=>whnf)
 refine RANGEF.of Z0 (gf:=140) (g:=140) (fn:=f140) (cap:=[.ptr (.loc 0) 0 0 0]) call140 func140 rfl 16 rfl _ rfl rfl rfl rfl rfl ?_;conv=>whnf
 have hout:=h0;intro η1 h0;conv=>whnf
 refine LOOP.nilCell 2 0 1 rfl rfl ?_;refine LOOP.gok Z0 [0,5,6] [3,4] (X:=Nat) (fun i=>i<=cl.length) (fun i=>[(7, .int .i64 (i:Int))]) (fun i=>[(2, .box [.sl (.loc 5) 0 1 i none]),(5, .rows 1 ((cl.take i).map Zk))]) 6 (fun i=>cl.length-i) 0 (by omega) ?_;conv=>whnf
 refine⟨by exact GOES.kA h0 [5],?_⟩;intro i hi;have hti:(cl.take i).length=i:=by rw[List.length_take];omega
 conv=>whnf
 by_cases hil:i<cl.length
 ·have hs:cl.take (i+1)=cl.take i++ [cl[i]]:=List.take_succ_eq_append_getElem hil;generalize cl.take i=W at hti hs⊢;repeat'((first|(refine GET.at (gC hil (by omega)) ?_;conv=>whnf)|refine AU ?_|(refine IW ?_ ?_<;>intro h<;>try(exfalso;omega)))<;>conv=>whnf)
  refine YIELD.of Z0 rfl rfl rfl ?_;intro η2 ro2 h2;conv=>whnf
  repeat'((first|(refine NEED.mk (Zj 8 rfl rfl (by simp) (by simp;omega) (by omega)) ?_;conv=>whnf)|refine AU ?_|(refine IW ?_ ?_<;>intro h<;>try(exfalso;omega)))<;>conv=>whnf)
  rw[Zi5 W cl[i] hti.symm,<-hs];refine⟨i+1,by omega,by omega,?_⟩;conv=>whnf
  exact GOES.kA h0 [7]
 ·have hie:i=cl.length:=by omega
  subst hie;rw[List.take_of_length_le (Nat.le_refl _)];repeat'((first|refine AU ?_|(refine IW ?_ ?_<;>intro h<;>try(exfalso;omega)))<;>conv=>whnf)
  have h0:=hout;exact FIN.aA hout [5] (.sl (.loc 2) 0 1 cl.length none) [(2, .rows 1 (cl.map Zk))] ⟨rfl,rfl,rfl⟩
theorem Z87(i n:Nat)(lim:Option Nat):Does prog tab 107 1 [.sl (.loc 0) i 1 n lim] [] []
 (fun r O nx=>r= .fn (.func 140) [] [.ptr (.loc 1) 0 0 0]/\O=[(1, .box [.sl (.loc 0) i 1 n lim])]/\nx=2):=by
 refine Does.enter Z0 call107 func107 rfl 4 rfl rfl [.tmp 2] rfl ?_;intro w0 F η0 h0;conv=>whnf
 repeat'((first|refine AU ?_|(refine IW ?_ ?_<;>intro h<;>try(exfalso;omega)))<;>conv=>whnf)
 refine FIN.at h0 [1] (.fn (.func 140) [] [.ptr (.loc 1) 0 0 0]) [(1, .box [.sl (.loc 0) i 1 n lim])] rfl rfl rfl rfl ⟨rfl,trivial⟩ rfl ⟨rfl,rfl,rfl⟩
theorem Z6r(cl:List Int)(hc:cl.length<=1048576):Does prog tab 138 2 [.fn (.func 140) [] [.ptr (.loc 0) 0 0 0]] [] [(0, .box [.sl (.loc 1) 0 1 cl.length none]),(1, .rows 1 (cl.map Zk))]
 (fun r O nx=>r= .sl (.loc 2) 0 1 cl.length none/\O=[(2, .rows 1 (cl.map Zk))]/\nx=3):=by
 have hA:=Z9j cl hc;refine Does.enter Z0 call138 func138 rfl 5 rfl rfl [.tmp 2] rfl ?_;intro w0 F η0 h0;conv=>whnf
 repeat'((first|refine AU ?_|(refine IW ?_ ?_<;>intro h<;>try(exfalso;omega)))<;>conv=>whnf)
 refine CALL.aA [0,1] (hA) ?_;rintro r O nx ⟨rfl,rfl,rfl⟩;conv=>whnf
 repeat'((first|refine AU ?_|(refine IW ?_ ?_<;>intro h<;>try(exfalso;omega)))<;>conv=>whnf)
 exact FIN.aA h0 [2] (.sl (.loc 2) 0 1 cl.length none) [(2, .rows 1 (cl.map Zk))] ⟨rfl,rfl,rfl⟩
theorem Z88(cl:List Int)(hc:cl.length<=1048576):Does prog tab 106 2 [.fn (.func 140) [] [.ptr (.loc 0) 0 0 0]] [] [(0, .box [.sl (.loc 1) 0 1 cl.length none]),(1, .rows 1 (cl.map Zk))]
 (fun r O nx=>r= .sl (.loc 2) 0 1 (cl.mergeSort (leC cmpI)).length none/\O=[(2, .rows 1 ((cl.mergeSort (leC cmpI)).map Zk))]/\nx=3):=by
 have hA:=Z6r cl hc;have hS:=ZbF cl (by omega);refine Does.enter Z0 call106 func106 rfl 9 rfl rfl [.tmp 2] rfl ?_;intro w0 F η0 h0;conv=>whnf
 repeat'((first|refine AU ?_|(refine IW ?_ ?_<;>intro h<;>try(exfalso;omega)))<;>conv=>whnf)
 refine CALL.aA [0,1] (hA) ?_;rintro r O nx ⟨rfl,rfl,rfl⟩;conv=>whnf
 repeat'((first|refine AU ?_|(refine IW ?_ ?_<;>intro h<;>try(exfalso;omega)))<;>conv=>whnf)
 refine CALL.aA [2] (hS) ?_;rintro r O nx ⟨rfl,rfl,rfl⟩;conv=>whnf
 repeat'((first|refine AU ?_|(refine IW ?_ ?_<;>intro h<;>try(exfalso;omega)))<;>conv=>whnf)
 rw[<-List.length_mergeSort (le:=leC cmpI) cl];exact FIN.aA h0 [2] (.sl (.loc 2) 0 1 (cl.mergeSort (leC cmpI)).length none) [(2, .rows 1 ((cl.mergeSort (leC cmpI)).map Zk))] ⟨rfl,rfl,rfl⟩
theorem Z1X(cl:List Int)(hc:cl.length<=1048576):Does prog tab 64 1 [.sl (.loc 0) 0 1 cl.length none] [] [(0, .rows 1 (cl.map Zk))] (fun r O nx=>r= .int .i64 (clsN cl:Int)/\O=[]/\nx=1):=by
 have hl:=List.length_mergeSort (le:=leC cmpI) cl;have hS:=Z88 cl hc;have hC:=Z6q (cl.mergeSort (leC cmpI)) (by omega);have hV:=Z87 0 cl.length none;rw[ZeZ cl]at hC;refine Does.enter Z0 call64 func64 rfl 10 rfl rfl [.tmp 2] rfl ?_;intro w0 F η0 h0;conv=>whnf
 repeat'((first|refine AU ?_|(refine IW ?_ ?_<;>intro h<;>try(exfalso;omega)))<;>conv=>whnf)
 refine CALL.aA [0] (hV) ?_;rintro r O nx ⟨rfl,rfl,rfl⟩;conv=>whnf
 repeat'((first|refine AU ?_|(refine IW ?_ ?_<;>intro h<;>try(exfalso;omega)))<;>conv=>whnf)
 refine CALL.aA [1,0] (hS) ?_;rintro r O nx ⟨rfl,rfl,rfl⟩;conv=>whnf
 repeat'((first|refine AU ?_|(refine IW ?_ ?_<;>intro h<;>try(exfalso;omega)))<;>conv=>whnf)
 refine CALL.aA [2] (hC) ?_;rintro r O nx ⟨rfl,rfl,rfl⟩;conv=>whnf
 repeat'((first|refine AU ?_|(refine IW ?_ ?_<;>intro h<;>try(exfalso;omega)))<;>conv=>whnf)
 exact FIN.aA h0 [] (.int .i64 (clsN cl:Int)) [] ⟨rfl,rfl,rfl⟩
end Go.Proofs.YtlcbipfmodcedaaGreatDoor
namespace Go.Proofs.YtlcbipfmodcedaaGreatDoor
open Go.Sx Go.Our Go.Lib
open Tryz
theorem CanOK.step{A:List LB}{l:List Qd}{cl:List Int}(h:CanOK A l cl):CanOK A l (Yu A l cl):=by
 refine⟨by rw[YY,h.cn],h.few,h.ln,h.nd,h.mem,fun c hc=>?_⟩;have h1:=Z9X A l cl c hc;have h2:=h.cn;have h3:=h.few;exact⟨h1.1,by omega⟩
theorem Z89(A:List LB)(l z:List Qd)(lim:Option Nat)(cl:List Int)(hOK:CanOK A l cl)(hz:(l++z).length<=1152921504606846976):
 Does prog tab 31 6 [.ptr (.loc 0) 0 0 0, .sl (.loc 4) 0 1 A.length none] [(3, .deep false 1 (inK (insV A l))),(4, .rows 1 (cl.map Zk))] [(0,cBx l.length lim A.length),(1, .rows 16 ((l++z).map Zd)),(2, .mp (numT (Xs 0 A A.length)))]
 (fun r O nx=> ∃F,Refs A l cl F/\r= .sl (.loc 6) 0 1 A.length none/\O=[(3, .deep false 1 (inK (insV A l))),(6, .rows 1 (F.map Zk))]/\nx=7):=by
 have hA4:=hOK.few;refine Does.enter Z0 call31 func31 rfl 16 rfl rfl [.tmp 4] rfl ?_;intro w0 F η0 h0;conv=>whnf
 repeat'((first|refine AU ?_|(refine IW ?_ ?_<;>intro h<;>try(exfalso;omega)))<;>conv=>whnf)
 refine LOOP.gok Z0 [0] [0,1,2] (X:=List Int) (fun c=>CanOK A l c/\∀F,Refs A l c F->Refs A l cl F) (fun c=>[(1, .sl (.loc 6) 0 1 A.length none)]) (fun c=>[(3, .deep false 1 (inK (insV A l))),(6, .rows 1 (c.map Zk))]) 7 (fun c=>A.length-clsN c) cl ⟨hOK,fun F h=>h⟩ ?_;conv=>whnf
 refine⟨by exact GOES.kA h0 [4],?_⟩;rintro c ⟨hc,hR⟩;have hS:=ZdP A l z lim c hc hz;have hc1:=Z1X (Yu A l c) (by rw[YY,hc.cn];omega);have hc0:=Z1X c (by rw[hc.cn];omega);rw[YY,hc.cn]at hc1;rw[hc.cn]at hc0;conv=>whnf
 repeat'((first|refine AU ?_|(refine IW ?_ ?_<;>intro h<;>try(exfalso;omega)))<;>conv=>whnf)
 refine CALL.aA [0,1,2,3,6,5] (hS) ?_;rintro r O nx ⟨rfl,rfl,rfl⟩;conv=>whnf
 repeat'((first|refine AU ?_|(refine IW ?_ ?_<;>intro h<;>try(exfalso;omega)))<;>conv=>whnf)
 refine CALL.aA [7] (hc1) ?_;rintro r O nx ⟨rfl,rfl,rfl⟩;conv=>whnf
 repeat'((first|refine AU ?_|(refine IW ?_ ?_<;>intro h<;>try(exfalso;omega)))<;>conv=>whnf)
 refine CALL.aA [6] (hc0) ?_;rintro r O nx ⟨rfl,rfl,rfl⟩;conv=>whnf
 repeat'((first|refine AU ?_|(refine IW ?_ ?_<;>intro h<;>try(exfalso;omega)))<;>conv=>whnf)
 ·have hst:clsN (Yu A l c)=clsN c:=by omega
  exact FIN.aA h0 [7] (.sl (.loc 6) 0 1 A.length none) [(3, .deep false 1 (inK (insV A l))),(6, .rows 1 ((Yu A l c).map Zk))] ⟨_,hR _ (.stop hst),rfl,rfl,rfl⟩
 ·have hst:clsN (Yu A l c)≠clsN c:=by omega
  have hge:=Z69 A l c;have hle:=Z99 (Yu A l c);rw[YY,hc.cn]at hle;refine⟨Yu A l c,⟨hc.step,fun F hF=>hR F (.go hst hF)⟩,by omega,?_⟩;conv=>whnf
  exact GOES.kA h0 [7]
end Go.Proofs.YtlcbipfmodcedaaGreatDoor
