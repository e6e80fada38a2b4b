/- Part 41: Can6, Can7. Conditions: as each part says. -/
import Derived.Test.YtlcbipfmodcedaaGreatDoorFrm22
import Derived.Test.YtlcbipfmodcedaaGreatDoorFrm38
import Derived.Test.YtlcbipfmodcedaaGreatDoorFrm40
set_option linter.unusedVariables false
set_option linter.unusedSimpArgs false
set_option maxRecDepth 20000
set_option maxHeartbeats 8000000
namespace Go.Proofs.YtlcbipfmodcedaaGreatDoor
open Go.Sx Go.Our Go.Lib
open _root_.Go.Proofs.Tryz
theorem Za5(cl:List Int)(hc:cl.length<=1048576):vS prog uf 190 2 [.val (.slice none 0 0), .fn (.func 140) [] [.ptr (.loc 0) 0 0 0]] [] [(0, .box [.sl (.loc 1) 0 1 cl.length none]),(1, .rows 1 (cl.map Zg))]
 (fun r O nx=>r= .sl (.loc 2) 0 1 cl.length none/\O=[(2, .rows 1 (cl.map Zg))]/\nx=3):=by
 have gC:∀{i k:Nat} (h:i<cl.length),k=i->(cl.map Zg)[k]?=some (Zg cl[i]):=fun h e=>by subst e;rw[z6,z1 h];rfl
 refine vS.enter Z0 call190 func190 rfl 13 rfl rfl [.tmp 4] rfl ?_;intro w0 F η0 h0;conv=>whnf
 skip
 refine qQ.of Z0 (gf:=140) (g:=140) (fn:=f140) (cap:=[.ptr (.loc 0) 0 0 0]) call140 func140 rfl 16 rfl _ rfl rfl rfl rfl rfl ?_;conv=>whnf
 have hout:=h0;intro η1 h0;conv=>whnf
 refine vZ.w8 2 0 1 rfl rfl ?_;refine vZ.kj Z0 [0,5,6] [3,4] (X:=Nat) (fun i=>i<=cl.length) (fun i=>[(7, .int .i64 (i:Int))]) (fun i=>[(2, .box [.sl (.loc 5) 0 1 i none]),(5, .rows 1 ((cl.take i).map Zg))]) 6 (fun i=>cl.length-i) 0 (by omega) ?_;conv=>whnf
 refine⟨by exact vU.kA h0 [5],?_⟩;intro i hi;have tV:(cl.take i).length=i:=by rw[zq];omega
 conv=>whnf
 by_cases hil:i<cl.length
 .have hs:cl.take (i+1)=cl.take i++ [cl[i]]:=zH hil;generalize cl.take i=W at tV hs⊢;repeat'(first|refine GET.at (gC hil (by omega)) ?_|refine AU ?_|refine IW ?_ ?_<;>intro h<;>try omega)<;>conv=>whnf
  refine eU.of Z0 rfl rfl rfl ?_;intro η2 ro2 h2;conv=>whnf
  repeat'(first|refine u6.mk (Zn 8 rfl rfl (by simp) (by simp;omega) (by omega)) ?_|refine IW ?_ ?_<;>intro h<;>try omega)<;>conv=>whnf
  rw[Zk8 W cl[i] tV.symm,<-hs];refine⟨i+1,by omega,by omega,?_⟩;conv=>whnf
  exact vU.kA h0 [7]
 .have hie:i=cl.length:=by omega
  subst hie;rw[zg (zo _)];repeat'(first|refine IW ?_ ?_<;>intro h<;>try omega)<;>conv=>whnf
  have h0:=hout;exact u0.aA hout [5] (.sl (.loc 2) 0 1 cl.length none) [(2, .rows 1 (cl.map Zg))] ⟨rfl,rfl,rfl⟩
theorem Z8N(i n:Nat)(lim:Option Nat):vS prog uf 107 1 [.sl (.loc 0) i 1 n lim] [] []
 (fun r O nx=>r= .fn (.func 140) [] [.ptr (.loc 1) 0 0 0]/\O=[(1, .box [.sl (.loc 0) i 1 n lim])]/\nx=2):=by
 refine vS.enter Z0 call107 func107 rfl 4 rfl rfl [.tmp 2] rfl ?_;intro w0 F η0 h0;conv=>whnf
 skip
 refine u0.at h0 [1] (.fn (.func 140) [] [.ptr (.loc 1) 0 0 0]) [(1, .box [.sl (.loc 0) i 1 n lim])] rfl rfl rfl rfl ⟨rfl,trivial⟩ rfl ⟨rfl,rfl,rfl⟩
theorem Z72(cl:List Int)(hc:cl.length<=1048576):vS prog uf 138 2 [.fn (.func 140) [] [.ptr (.loc 0) 0 0 0]] [] [(0, .box [.sl (.loc 1) 0 1 cl.length none]),(1, .rows 1 (cl.map Zg))]
 (fun r O nx=>r= .sl (.loc 2) 0 1 cl.length none/\O=[(2, .rows 1 (cl.map Zg))]/\nx=3):=by
 have hA:=Za5 cl hc;refine vS.enter Z0 call138 func138 rfl 5 rfl rfl [.tmp 2] rfl ?_;intro w0 F η0 h0;conv=>whnf
 skip
 refine CALL.aA [0,1] (hA) ?_;rintro r O nx ⟨rfl,rfl,rfl⟩;conv=>whnf
 skip
 exact u0.aA h0 [2] (.sl (.loc 2) 0 1 cl.length none) [(2, .rows 1 (cl.map Zg))] ⟨rfl,rfl,rfl⟩
theorem Z8O(cl:List Int)(hc:cl.length<=1048576):vS prog uf 106 2 [.fn (.func 140) [] [.ptr (.loc 0) 0 0 0]] [] [(0, .box [.sl (.loc 1) 0 1 cl.length none]),(1, .rows 1 (cl.map Zg))]
 (fun r O nx=>r= .sl (.loc 2) 0 1 (cl.mergeSort (q9 uY)).length none/\O=[(2, .rows 1 ((cl.mergeSort (q9 uY)).map Zg))]/\nx=3):=by
 have hA:=Z72 cl hc;have hS:=ZcB cl (by omega);refine vS.enter Z0 call106 func106 rfl 9 rfl rfl [.tmp 2] rfl ?_;intro w0 F η0 h0;conv=>whnf
 skip
 refine CALL.aA [0,1] (hA) ?_;rintro r O nx ⟨rfl,rfl,rfl⟩;conv=>whnf
 skip
 refine CALL.aA [2] (hS) ?_;rintro r O nx ⟨rfl,rfl,rfl⟩;conv=>whnf
 skip
 rw[<-yt (le:=q9 uY) cl];exact u0.aA h0 [2] (.sl (.loc 2) 0 1 (cl.mergeSort (q9 uY)).length none) [(2, .rows 1 ((cl.mergeSort (q9 uY)).map Zg))] ⟨rfl,rfl,rfl⟩
theorem RI(cl:List Int)(hc:cl.length<=1048576):vS prog uf 64 1 [.sl (.loc 0) 0 1 cl.length none] [] [(0, .rows 1 (cl.map Zg))] (fun r O nx=>r= .int .i64 (wO cl:Int)/\O=[]/\nx=1):=by
 have hl:=yt (le:=q9 uY) cl;have hS:=Z8O cl hc;have hC:=Z71 (cl.mergeSort (q9 uY)) (by omega);have hV:=Z8N 0 cl.length none;rw[Zgo cl]at hC;refine vS.enter Z0 call64 func64 rfl 10 rfl rfl [.tmp 2] rfl ?_;intro w0 F η0 h0;conv=>whnf
 skip
 refine CALL.aA [0] (hV) ?_;rintro r O nx ⟨rfl,rfl,rfl⟩;conv=>whnf
 skip
 refine CALL.aA [1,0] (hS) ?_;rintro r O nx ⟨rfl,rfl,rfl⟩;conv=>whnf
 skip
 refine CALL.aA [2] (hC) ?_;rintro r O nx ⟨rfl,rfl,rfl⟩;conv=>whnf
 skip
 exact u0.aA h0 [] (.int .i64 (wO cl:Int)) [] ⟨rfl,rfl,rfl⟩
end Go.Proofs.YtlcbipfmodcedaaGreatDoor
namespace Go.Proofs.YtlcbipfmodcedaaGreatDoor
open Go.Sx Go.Our Go.Lib
open _root_.Go.Proofs.Tryz
theorem jh.step{A:List LB}{l:List Qd}{cl:List Int}(h:jh A l cl):jh A l (Yt A l cl):=by
 refine⟨by rw[YZ,h.cn],h.few,h.ln,h.nd,h.mem,fun c hc=>?_⟩;have h1:=Mp A l cl c hc;have h2:=h.cn;have h3:=h.few;exact⟨h1.1,by omega⟩
theorem RJ(A:List LB)(l z:List Qd)(lim:Option Nat)(cl:List Int)(dy:jh A l cl)(hz:(l++z).length<=1152921504606846976):
 vS prog uf 31 6 [.ptr (.loc 0) 0 0 0, .sl (.loc 4) 0 1 A.length none] [(3, .deep false 1 (wT (uQ A l))),(4, .rows 1 (cl.map Zg))] [(0,Ga l.length lim A.length),(1, .rows 16 ((l++z).map Z3)),(2, .mp (qb (Xr 0 A A.length)))]
 (fun r O nx=> ∃F,Refs A l cl F/\r= .sl (.loc 6) 0 1 A.length none/\O=[(3, .deep false 1 (wT (uQ A l))),(6, .rows 1 (F.map Zg))]/\nx=7):=by
 have e8:=dy.few;refine vS.enter Z0 call31 func31 rfl 16 rfl rfl [.tmp 4] rfl ?_;intro w0 F η0 h0;conv=>whnf
 skip
 refine vZ.kj Z0 [0] [0,1,2] (X:=List Int) (fun c=>jh A l c/\∀F,Refs A l c F->Refs A l cl F) (fun c=>[(1, .sl (.loc 6) 0 1 A.length none)]) (fun c=>[(3, .deep false 1 (wT (uQ A l))),(6, .rows 1 (c.map Zg))]) 7 (fun c=>A.length-wO c) cl ⟨dy,fun F h=>h⟩ ?_;conv=>whnf
 refine⟨by exact vU.kA h0 [4],?_⟩;rintro c ⟨hc,hR⟩;have hS:=Zf0 A l z lim c hc hz;have hc1:=RI (Yt A l c) (by rw[YZ,hc.cn];omega);have hc0:=RI c (by rw[hc.cn];omega);rw[YZ,hc.cn]at hc1;rw[hc.cn]at hc0;conv=>whnf
 skip
 refine CALL.aA [0,1,2,3,6,5] (hS) ?_;rintro r O nx ⟨rfl,rfl,rfl⟩;conv=>whnf
 skip
 refine CALL.aA [7] (hc1) ?_;rintro r O nx ⟨rfl,rfl,rfl⟩;conv=>whnf
 skip
 refine CALL.aA [6] (hc0) ?_;rintro r O nx ⟨rfl,rfl,rfl⟩;conv=>whnf
 repeat'(first|refine IW ?_ ?_<;>intro h<;>try omega)<;>conv=>whnf
 .have hst:wO (Yt A l c)=wO c:=by omega
  exact u0.aA h0 [7] (.sl (.loc 6) 0 1 A.length none) [(3, .deep false 1 (wT (uQ A l))),(6, .rows 1 ((Yt A l c).map Zg))] ⟨_,hR _ (.stop hst),rfl,rfl,rfl⟩
 .have hst:wO (Yt A l c)≠wO c:=by omega
  have hge:=B7 A l c;have hle:=B6 (Yt A l c);rw[YZ,hc.cn]at hle;refine⟨Yt A l c,⟨hc.step,fun F hF=>hR F (.go hst hF)⟩,by omega,?_⟩;conv=>whnf
  exact vU.kA h0 [7]
end Go.Proofs.YtlcbipfmodcedaaGreatDoor
