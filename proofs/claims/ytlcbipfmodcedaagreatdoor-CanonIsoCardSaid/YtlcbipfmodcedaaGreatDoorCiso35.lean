/- Part 35: Can6, Can7. Conditions: as each part says. -/
import Derived.Test.YtlcbipfmodcedaaGreatDoorCiso30
import Derived.Test.YtlcbipfmodcedaaGreatDoorCiso32
import Derived.Test.YtlcbipfmodcedaaGreatDoorCiso34
set_option linter.unusedVariables false
set_option linter.unusedSimpArgs false
set_option maxRecDepth 20000
set_option maxHeartbeats 8000000
namespace Go.Proofs.YtlcbipfmodcedaaGreatDoor
open Go.Sx Go.Our Go.Lib
open _root_.Go.Proofs.Tryz
theorem Z9c(cl:List Int)(hc:cl.length<=1048576):vW prog uv 190 2 [.val (.slice none 0 0), .fn (.func 140) [] [.ptr (.loc 0) 0 0 0]] [] [(0, .box [.sl (.loc 1) 0 1 cl.length none]),(1, .rows 1 (cl.map Z8))]
 (fun r O nx=>r= .sl (.loc 2) 0 1 cl.length none/\O=[(2, .rows 1 (cl.map Z8))]/\nx=3):=by
 have gC:∀{i k:Nat} (h:i<cl.length),k=i->(cl.map Z8)[k]?=some (Z8 cl[i]):=fun h e=>by subst e;rw[z7,z1 h];rfl
 refine vW.enter Z3 call190 func190 rfl 13 rfl rfl [.tmp 4] rfl ?_;intro w0 F η0 h0;conv=>whnf
 skip
 refine kg.of Z3 (gf:=140) (g:=140) (fn:=f140) (cap:=[.ptr (.loc 0) 0 0 0]) call140 func140 rfl 16 rfl _ rfl rfl rfl rfl rfl ?_;conv=>whnf
 have hout:=h0;intro η1 h0;conv=>whnf
 refine ua.w9 2 0 1 rfl rfl ?_;refine ua.j5 Z3 [0,5,6] [3,4] (X:=Nat) (fun i=>i<=cl.length) (fun i=>[(7, .int .i64 (i:Int))]) (fun i=>[(2, .box [.sl (.loc 5) 0 1 i none]),(5, .rows 1 ((cl.take i).map Z8))]) 6 (fun i=>cl.length-i) 0 (by omega) ?_;conv=>whnf
 refine⟨by exact vY.kA h0 [5],?_⟩;intro i hi;have aW:(cl.take i).length=i:=by rw[zA];omega
 conv=>whnf
 by_cases hil:i<cl.length
 .have hs:cl.take (i+1)=cl.take i++ [cl[i]]:=zB hil;generalize cl.take i=W at aW hs⊢;repeat'(first|refine GET.at (gC hil (by omega)) ?_|refine AU ?_|refine IW ?_ ?_<;>intro h<;>try omega)<;>conv=>whnf
  refine fO.of Z3 rfl rfl rfl ?_;intro η2 RS h2;conv=>whnf
  repeat'(first|refine ud.mk (Ye 8 rfl rfl (by simp) (by simp;omega) (by omega)) ?_|refine IW ?_ ?_<;>intro h<;>try omega)<;>conv=>whnf
  rw[lz W cl[i] aW.symm,<-hs];refine⟨i+1,by omega,by omega,?_⟩;conv=>whnf
  exact vY.kA h0 [7]
 .have hie:i=cl.length:=by omega
  subst hie;rw[zo (zn _)];repeat'(first|refine IW ?_ ?_<;>intro h<;>try omega)<;>conv=>whnf
  have h0:=hout;exact u9.aA hout [5] (.sl (.loc 2) 0 1 cl.length none) [(2, .rows 1 (cl.map Z8))] ⟨rfl,rfl,rfl⟩
theorem Z7Z(i n:Nat)(lim:Option Nat):vW prog uv 107 1 [.sl (.loc 0) i 1 n lim] [] []
 (fun r O nx=>r= .fn (.func 140) [] [.ptr (.loc 1) 0 0 0]/\O=[(1, .box [.sl (.loc 0) i 1 n lim])]/\nx=2):=by
 refine vW.enter Z3 call107 func107 rfl 4 rfl rfl [.tmp 2] rfl ?_;intro w0 F η0 h0;conv=>whnf
 skip
 refine u9.at h0 [1] (.fn (.func 140) [] [.ptr (.loc 1) 0 0 0]) [(1, .box [.sl (.loc 0) i 1 n lim])] rfl rfl rfl rfl ⟨rfl,trivial⟩ rfl ⟨rfl,rfl,rfl⟩
theorem Z6s(cl:List Int)(hc:cl.length<=1048576):vW prog uv 138 2 [.fn (.func 140) [] [.ptr (.loc 0) 0 0 0]] [] [(0, .box [.sl (.loc 1) 0 1 cl.length none]),(1, .rows 1 (cl.map Z8))]
 (fun r O nx=>r= .sl (.loc 2) 0 1 cl.length none/\O=[(2, .rows 1 (cl.map Z8))]/\nx=3):=by
 have hA:=Z9c cl hc;refine vW.enter Z3 call138 func138 rfl 5 rfl rfl [.tmp 2] rfl ?_;intro w0 F η0 h0;conv=>whnf
 skip
 refine CALL.aA [0,1] (hA) ?_;rintro r O nx ⟨rfl,rfl,rfl⟩;conv=>whnf
 skip
 exact u9.aA h0 [2] (.sl (.loc 2) 0 1 cl.length none) [(2, .rows 1 (cl.map Z8))] ⟨rfl,rfl,rfl⟩
theorem Z80(cl:List Int)(hc:cl.length<=1048576):vW prog uv 106 2 [.fn (.func 140) [] [.ptr (.loc 0) 0 0 0]] [] [(0, .box [.sl (.loc 1) 0 1 cl.length none]),(1, .rows 1 (cl.map Z8))]
 (fun r O nx=>r= .sl (.loc 2) 0 1 (cl.mergeSort (wW wP)).length none/\O=[(2, .rows 1 ((cl.mergeSort (wW wP)).map Z8))]/\nx=3):=by
 have hA:=Z6s cl hc;have hS:=ZbQ cl (by omega);refine vW.enter Z3 call106 func106 rfl 9 rfl rfl [.tmp 2] rfl ?_;intro w0 F η0 h0;conv=>whnf
 skip
 refine CALL.aA [0,1] (hA) ?_;rintro r O nx ⟨rfl,rfl,rfl⟩;conv=>whnf
 skip
 refine CALL.aA [2] (hS) ?_;rintro r O nx ⟨rfl,rfl,rfl⟩;conv=>whnf
 skip
 rw[<-yE (le:=wW wP) cl];exact u9.aA h0 [2] (.sl (.loc 2) 0 1 (cl.mergeSort (wW wP)).length none) [(2, .rows 1 ((cl.mergeSort (wW wP)).map Z8))] ⟨rfl,rfl,rfl⟩
theorem SP(cl:List Int)(hc:cl.length<=1048576):vW prog uv 64 1 [.sl (.loc 0) 0 1 cl.length none] [] [(0, .rows 1 (cl.map Z8))] (fun r O nx=>r= .int .i64 (kE cl:Int)/\O=[]/\nx=1):=by
 have hl:=yE (le:=wW wP) cl;have hS:=Z80 cl hc;have hC:=Z6r (cl.mergeSort (wW wP)) (by omega);have hV:=Z7Z 0 cl.length none;rw[ZgB cl]at hC;refine vW.enter Z3 call64 func64 rfl 10 rfl rfl [.tmp 2] rfl ?_;intro w0 F η0 h0;conv=>whnf
 skip
 refine CALL.aA [0] (hV) ?_;rintro r O nx ⟨rfl,rfl,rfl⟩;conv=>whnf
 skip
 refine CALL.aA [1,0] (hS) ?_;rintro r O nx ⟨rfl,rfl,rfl⟩;conv=>whnf
 skip
 refine CALL.aA [2] (hC) ?_;rintro r O nx ⟨rfl,rfl,rfl⟩;conv=>whnf
 skip
 exact u9.aA h0 [] (.int .i64 (kE cl:Int)) [] ⟨rfl,rfl,rfl⟩
end Go.Proofs.YtlcbipfmodcedaaGreatDoor
namespace Go.Proofs.YtlcbipfmodcedaaGreatDoor
open Go.Sx Go.Our Go.Lib
open _root_.Go.Proofs.Tryz
theorem eB.step{A:List LB}{l:List Qd}{cl:List Int}(h:eB A l cl):eB A l (YL A l cl):=by
 refine⟨by rw[YM,h.cn],h.few,h.ln,h.nd,h.mem,fun c hc=>?_⟩;have h1:=S8 A l cl c hc;have h2:=h.cn;have h3:=h.few;exact⟨h1.1,by omega⟩
theorem SQ(A:List LB)(l z:List Qd)(lim:Option Nat)(cl:List Int)(aC:eB A l cl)(hz:(l++z).length<=1152921504606846976):
 vW prog uv 31 6 [.ptr (.loc 0) 0 0 0, .sl (.loc 4) 0 1 A.length none] [(3, .deep false 1 (j6 (qx A l))),(4, .rows 1 (cl.map Z8))] [(0,GO l.length lim A.length),(1, .rows 16 ((l++z).map Zd)),(2, .mp (kz (X0 0 A A.length)))]
 (fun r O nx=> ∃F,Refs A l cl F/\r= .sl (.loc 6) 0 1 A.length none/\O=[(3, .deep false 1 (j6 (qx A l))),(6, .rows 1 (F.map Z8))]/\nx=7):=by
 have s4:=aC.few;refine vW.enter Z3 call31 func31 rfl 16 rfl rfl [.tmp 4] rfl ?_;intro w0 F η0 h0;conv=>whnf
 skip
 refine ua.j5 Z3 [0] [0,1,2] (X:=List Int) (fun c=>eB A l c/\∀F,Refs A l c F->Refs A l cl F) (fun c=>[(1, .sl (.loc 6) 0 1 A.length none)]) (fun c=>[(3, .deep false 1 (j6 (qx A l))),(6, .rows 1 (c.map Z8))]) 7 (fun c=>A.length-kE c) cl ⟨aC,fun F h=>h⟩ ?_;conv=>whnf
 refine⟨by exact vY.kA h0 [4],?_⟩;rintro c ⟨hc,hR⟩;have hS:=ZeG A l z lim c hc hz;have hc1:=SP (YL A l c) (by rw[YM,hc.cn];omega);have hc0:=SP c (by rw[hc.cn];omega);rw[YM,hc.cn]at hc1;rw[hc.cn]at hc0;conv=>whnf
 skip
 refine CALL.aA [0,1,2,3,6,5] (hS) ?_;rintro r O nx ⟨rfl,rfl,rfl⟩;conv=>whnf
 skip
 refine CALL.aA [7] (hc1) ?_;rintro r O nx ⟨rfl,rfl,rfl⟩;conv=>whnf
 skip
 refine CALL.aA [6] (hc0) ?_;rintro r O nx ⟨rfl,rfl,rfl⟩;conv=>whnf
 repeat'(first|refine IW ?_ ?_<;>intro h<;>try omega)<;>conv=>whnf
 .have hst:kE (YL A l c)=kE c:=by omega
  exact u9.aA h0 [7] (.sl (.loc 6) 0 1 A.length none) [(3, .deep false 1 (j6 (qx A l))),(6, .rows 1 ((YL A l c).map Z8))] ⟨_,hR _ (.stop hst),rfl,rfl,rfl⟩
 .have hst:kE (YL A l c)≠kE c:=by omega
  have hge:=Ag A l c;have hle:=SL (YL A l c);rw[YM,hc.cn]at hle;refine⟨YL A l c,⟨hc.step,fun F hF=>hR F (.go hst hF)⟩,by omega,?_⟩;conv=>whnf
  exact vY.kA h0 [7]
end Go.Proofs.YtlcbipfmodcedaaGreatDoor
