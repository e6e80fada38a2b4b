/- Part 33: RCan2, RCan3. Conditions: as each part says. -/
import Derived.Test.YtlcbipfmodcedaaGreatDoorRfn25
import Derived.Test.YtlcbipfmodcedaaGreatDoorRfn26
import Derived.Test.YtlcbipfmodcedaaGreatDoorRfn32
set_option linter.unusedVariables false
set_option linter.unusedSimpArgs false
set_option maxRecDepth 20000
set_option maxHeartbeats 8000000
namespace Go.Proofs.YtlcbipfmodcedaaGreatDoor
open Go.Sx Go.Our Go.Lib
open Tryz
def Z6d:Plan:=(Zu [(0,1),(1,1),(2,1),(4,1),(5,1),(6,1),(3,2),(7,2),(8,3),(9,1)])
theorem Z9d(a b:List Qd)(la lb:Option Nat)(ha:a.length<=1152921504606846976)(hb:b.length<=1152921504606846976):Does prog tab 79 2 [.sl (.loc 0) 0 16 a.length la, .sl (.loc 1) 0 16 b.length lb] [] [(0, .rows 16 (a.map Zd)),(1, .rows 16 (b.map Zd))] (ValK 2 (.int .i64 (JE a b))):=by
 have gA:∀{i k:Nat} (h:i<a.length),k=i->(a.map Zd)[k]?=some (Zd a[i]):=fun h e=>by subst e;rw[List.getElem?_map,List.getElem?_eq_getElem h];rfl
 have gB:∀{i k:Nat} (h:i<b.length),k=i->(b.map Zd)[k]?=some (Zd b[i]):=fun h e=>by subst e;rw[List.getElem?_map,List.getElem?_eq_getElem h];rfl
 refine Does.enter Z0 call79 func79 rfl 36 rfl rfl [.tmp 4] rfl ?_;intro w0 F η0 h0;conv=>whnf
 refine LOOP.gok Z0 [0,1] [] (X:=Nat) (fun i=>i<=a.length/\i<=b.length/\JE a b=JE (a.drop i) (b.drop i)) (fun i=>[(5, .int .i64 (i:Int))]) (fun i=>[]) 2 (fun i=>a.length-i) 0 ⟨by omega,by omega,rfl⟩ ?_;conv=>whnf
 refine⟨by exact GOES.cA h0,?_⟩;rintro i ⟨hi,hib,he⟩;conv=>whnf
 by_cases hia:i<a.length
 ·by_cases hib2:i<b.length
  ·have hd:=Z9a hia hib2;repeat'((first|(refine GET.at (gA hia (by omega)) ?_;conv=>whnf)|(refine GET.at (gB hib2 (by omega)) ?_;conv=>whnf)|refine CALL.value (Vb a[i] b[i]) rfl rfl ?_|(show DRAWN _ _ _ _ _ _ _;first|refine DRAWN.of (id:=4) Z0 mixed Z6d (by kernel_rfl) ?_)|refine ADD.mk (fun _ _=>?_)|refine AD ?_|refine FORK.mk ?_ ?_|refine AU ?_|(refine IW ?_ ?_<;>intro h<;>try(exfalso;omega)))<;>conv=>whnf)
   ·exact FIN.valueK h0 rfl (congrArg (SV.int _) (by rw[he,hd,if_neg ‹_›]))
   ·refine⟨i+1,⟨by omega,by omega,by rw[he,hd,if_pos ‹_›]⟩,by omega,?_⟩;conv=>whnf
    exact GOES.cA h0
  ·have hend:=Z5a (a:=a) (b:=b) (i:=i) (.inr (by omega)) hi hib;repeat'((first|(show DRAWN _ _ _ _ _ _ _;first|refine DRAWN.of (id:=4) Z0 mixed Z6d (by kernel_rfl) ?_)|refine ADD.mk (fun _ _=>?_)|refine AD ?_|refine FORK.mk ?_ ?_|refine AU ?_|(refine IW ?_ ?_<;>intro h<;>try(exfalso;omega)))<;>conv=>whnf)
   exact FIN.valueK h0 rfl (congrArg (SV.int _) (by rw[he,hend,Z9 (by omega) (by omega)]))
 ·have hend:=Z5a (a:=a) (b:=b) (i:=i) (.inl (by omega)) hi hib;repeat'((first|(show DRAWN _ _ _ _ _ _ _;first|refine DRAWN.of (id:=4) Z0 mixed Z6d (by kernel_rfl) ?_)|refine ADD.mk (fun _ _=>?_)|refine AD ?_|refine FORK.mk ?_ ?_|refine AU ?_|(refine IW ?_ ?_<;>intro h<;>try(exfalso;omega)))<;>conv=>whnf)
  exact FIN.valueK h0 rfl (congrArg (SV.int _) (by rw[he,hend,Z9 (by omega) (by omega)]))
theorem J8(xa xb ca cb:Int)(va vb:Value)(sa sb:List Qd)(hsa:sa.length<=1152921504606846976)(hsb:sb.length<=1152921504606846976)(hca:0<=ca/\ca<1048576)(hcb:0<=cb/\cb<1048576):
 DoesW (fun w=>(∃en,LentIn w va 16 (sa.map Zd) en)/\∃en,LentIn w vb 16 (sb.map Zd) en) prog tab 68 0 [.agg [.int .i64 xa, .int .i64 ca, .val va], .agg [.int .i64 xb, .int .i64 cb, .val vb]] [] [] (Val (.int .i64 (VA ca cb sa sb))):=by
 refine Does.enterW Z0 call68 func68 rfl 20 rfl rfl [.tmp 4] rfl ?_;intro w0 F η0 h0 hG hF;conv=>whnf
 have hno:∀k, ¬F k:=fun k h=>by rw[hF]at h;simp[Yk,lkp]at h
 obtain⟨⟨ea,hU⟩,⟨eb,hV⟩⟩:=hG;have hls:=Z9d sa sb none none hsa hsb;rw[show sa.length=(sa.map Zd).length from(List.length_map ..).symm,show sb.length=(sb.map Zd).length from(List.length_map ..).symm]at hls;repeat'((first|refine ADD.mk (fun _ _=>?_)|refine AD ?_|refine FORK.mk ?_ ?_|refine AU ?_|(refine IW ?_ ?_<;>intro h<;>try(exfalso;omega)))<;>conv=>whnf)
 ·refine FIN.value h0 rfl (congrArg (SV.int _) ?_);unfold VA;rw[if_neg ‹_›,Z9 (by omega) (by omega)]
 ·refine CALL.lent2 hU hV hno rfl rfl hls (Xb _) (Xb _) rfl ?_;conv=>whnf
  refine FIN.value h0 rfl (congrArg (SV.int _) ?_);unfold VA;rw[if_pos ‹_›]
end Go.Proofs.YtlcbipfmodcedaaGreatDoor
namespace Go.Proofs.YtlcbipfmodcedaaGreatDoor
open Go.Sx Go.Our Go.Lib
open Tryz
def Zap:Plan:=(Zu [(0,1),(1,1),(2,1),(4,1),(3,2),(5,2),(6,3),(7,1)])
def gBx(n:Nat)(lim:Option Nat)(nl:Nat)(ll la:Option Nat):Hp:= .box [.sl (.loc 1) 0 16 n lim, .sl (.loc 5) 0 1 nl ll, .mp (.loc 2), .sl (.loc 3) 0 1 nl la]
theorem Z1p(A:List LB)(n:Nat)(lim ll la:Option Nat)(cl:List Int)(x:Nat)(t:Tm)(hcn:cl.length=A.length)(hA4:A.length<=4096)(hnd:A.Nodup)(ht:t.k=2->t.t∈A)(hcl:∀c∈cl,0<=c/\c<10000)(hx:x<A.length):
 Does prog tab 111 6 [.ptr (.loc 0) 0 0 0, .agg (ZA t), .int .i64 (x:Int), .sl (.loc 4) 0 1 A.length none] [] [(0,gBx n lim A.length ll la),(2, .mp (numT (Xs 0 A A.length))),(4, .rows 1 (cl.map Zk))]
 (ValK 6 (.agg (ZA (Xh A cl x t)))):=by
 have hfA:=Zag (b:=0) hnd;refine Does.enter Z0 call111 func111 rfl 32 rfl rfl [.cell 8 65] rfl ?_;intro w0 F η0 h0;conv=>whnf
 repeat'((first|(show DRAWN _ _ _ _ _ _ _;first|refine DRAWN.of (id:=3) Z0 mixed Zap (by kernel_rfl) ?_)|refine ADD.mk (fun _ _=>?_)|refine AD ?_|refine FORK.mk ?_ ?_|refine AU ?_|(refine IW ?_ ?_<;>intro h<;>try(exfalso;omega)))<;>conv=>whnf)
 ·rw[Z1o ‹_›];exact FIN.aA h0 [] (.agg (ZA t)) [] ⟨rfl,rfl,rfl⟩
 ·have h2:t.k=2:= ‹_›;have hsA:t.t∈A:=ht h2;have hn0A:=List.idxOf_lt_length_of_mem hsA;have hAn:A[A.idxOf t.t]=t.t:=List.getElem_idxOf hn0A;have hix:ixF 0 A t.t=((A.idxOf t.t:Nat):Int):=by unfold ixF;rw[if_pos hsA];omega
  refine NEED.mk ⟨KT.ok _,Xq KT intV _⟩ ?_;refine FIND.A KT intV t.t (Xs 0 A A.length) (fun i v hf=>?_) (fun hf=>?_)
  rotate_left
  ·have hg:=JJ (b:=0) hnd A.length t.t (Nat.le_refl _);rw[XD hf,dif_pos hn0A]at hg;cases hg
  have hv:=VM hf;rw[hfA,hix]at hv;subst hv;obtain⟨n0,hn0⟩:∃n0,n0=A.idxOf t.t:=⟨_,rfl⟩;rw[<-hn0]at hn0A⊢
  have gC:∀{m:Nat},m=n0->(cl.map Zk)[m]?=some (Zk ((cl[n0]'(by omega)).toNat:Int)):=fun{m} e=>by
   rw[e,List.getElem?_map,List.getElem?_eq_getElem (by omega)];have:=(hcl _ (List.getElem_mem (show n0<cl.length by omega))).1;rw[Int.toNat_of_nonneg this];rfl
  have hcb:=hcl _ (List.getElem_mem (show n0<cl.length by omega));have hdg:=Z7T 4 (cl[n0]'(by omega)).toNat (by omega) (by omega);rw[ZeG]at hdg;clear hf;conv=>whnf
  repeat'((first|(refine GET.at (gC (by omega)) ?_;conv=>whnf)|refine CALL.value (hdg) rfl rfl ?_|(show DRAWN _ _ _ _ _ _ _;first|refine DRAWN.of (id:=3) Z0 mixed Zap (by kernel_rfl) ?_)|refine ADD.mk (fun _ _=>?_)|refine AD ?_|refine FORK.mk ?_ ?_|refine AU ?_|(refine IW ?_ ?_<;>intro h<;>try(exfalso;omega)))<;>conv=>whnf)
  ·rw[Z3Y h2 (show A.idxOf t.t=x by omega)];exact FIN.aA h0 [] (.agg (ZA ⟨t.k,[120],t.y,t.l⟩)) [] ⟨rfl,rfl,rfl⟩
  ·have hne:¬A.idxOf t.t=x:=by omega
   rw[Z3Z h2 hne,<-hn0,List.getD_eq_getElem?_getD,List.getElem?_eq_getElem (show n0<cl.length by omega)];exact FIN.aA h0 [] (.agg (ZA ⟨t.k,dig4 (cl[n0]'(by omega)).toNat,t.y,t.l⟩)) [] ⟨rfl,rfl,rfl⟩
end Go.Proofs.YtlcbipfmodcedaaGreatDoor
