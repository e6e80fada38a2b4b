/- Part 40: Can5. Conditions: as each part says. -/
import Derived.Test.YtlcbipfmodcedaaGreatDoorRfn32
import Derived.Test.YtlcbipfmodcedaaGreatDoorRfn38
set_option linter.unusedVariables false
set_option linter.unusedSimpArgs false
set_option maxRecDepth 20000
set_option maxHeartbeats 8000000
namespace Go.Proofs.YtlcbipfmodcedaaGreatDoor
open Go.Sx Go.Our Go.Shelf
open Tryz
def ZdL:Plan:=(.take 1 1 (.take 2 1 (.take 3 1 (.take 4 1 (.take 5 1 (.take 8 1 (.take 6 2 (.fork 0 3 7 0 (Zu [(7,0),(9,1),(10,0),(11,1),(12,0)]) (Zu [(0,2),(9,1),(10,0),(11,1),(12,0)])))))))))
def ZdM:Go.Shelf.Ren:=⟨fun|6=>105|15=>114|14=>137|28=>150|29=>151|20=>182|21=>183|22=>184|23=>185|24=>186|25=>187|26=>188|27=>189|46=>228|47=>196|48=>197|49=>229|50=>230|57=>276|n=>n,fun|22=>72|24=>3|25=>165|3=>3|39=>177|0=>0|53=>157|55=>162|4=>4|46=>208|45=>207|50=>103|5=>5|9=>9|66=>250|70=>87|76=>292|77=>130|n=>n,fun|n=>n⟩
theorem ZiF:Go.Proofs.SlLaysF.n6 prog ZdM where
 mixed:=by kernel_rfl
 f6:=⟨f105.name,by decide,func105.trans (congrArg some (by kernel_rfl))⟩
 f14:=⟨f137.name,by decide,func137.trans (congrArg some (by kernel_rfl))⟩
 f15:=func114.trans (congrArg some (by kernel_rfl))
 f20:=⟨f182.name,by decide,func182.trans (congrArg some (by kernel_rfl))⟩
 f21:=⟨f183.name,by decide,func183.trans (congrArg some (by kernel_rfl))⟩
 f22:=⟨f184.name,by decide,func184.trans (congrArg some (by kernel_rfl))⟩
 f23:=⟨f185.name,by decide,func185.trans (congrArg some (by kernel_rfl))⟩
 f24:=⟨f186.name,by decide,func186.trans (congrArg some (by kernel_rfl))⟩
 f25:=⟨f187.name,by decide,func187.trans (congrArg some (by kernel_rfl))⟩
 f26:=⟨f188.name,by decide,func188.trans (congrArg some (by kernel_rfl))⟩
 f27:=⟨f189.name,by decide,func189.trans (congrArg some (by kernel_rfl))⟩
 f28:=func150.trans (congrArg some (by kernel_rfl))
 f29:=func151.trans (congrArg some (by kernel_rfl))
 f46:=⟨f228.name,by decide,func228.trans (congrArg some (by kernel_rfl))⟩
 f47:=func196.trans (congrArg some (by kernel_rfl))
 f48:=func197.trans (congrArg some (by kernel_rfl))
 f49:=⟨f229.name,by decide,func229.trans (congrArg some (by kernel_rfl))⟩
 f50:=⟨f230.name,by decide,func230.trans (congrArg some (by kernel_rfl))⟩
 f57:=⟨f276.name,by decide,func276.trans (congrArg some (by kernel_rfl))⟩
 t0:=underlying0
 a0:=isAgg0
 z0:=sizeOf0
 v0:=zeroValue0
 t3:=underlying3
 a3:=isAgg3
 z3:=sizeOf3
 v3:=zeroValue3
 t4:=underlying4
 a4:=isAgg4
 z4:=sizeOf4
 v4:=zeroValue4
 t5:=underlying5
 a5:=isAgg5
 z5:=sizeOf5
 v5:=zeroValue5
 t9:=underlying9
 a9:=isAgg9
 z9:=sizeOf9
 v9:=zeroValue9
 t22:=underlying72
 a22:=isAgg72
 z22:=sizeOf72
 v22:=zeroValue72
 a24:=isAgg3
 z24:=sizeOf3
 t25:=underlying165
 a25:=isAgg165
 z25:=sizeOf165
 v25:=zeroValue165
 t39:=underlying177
 a39:=isAgg177
 z39:=sizeOf177
 v39:=zeroValue177
 t45:=underlying207
 a45:=isAgg207
 z45:=sizeOf207
 v45:=zeroValue207
 t46:=underlying208
 a46:=isAgg208
 z46:=sizeOf208
 v46:=zeroValue208
 t50:=underlying103
 a50:=isAgg103
 z50:=sizeOf103
 v50:=zeroValue103
 t53:=underlying157
 a53:=isAgg157
 z53:=sizeOf157
 v53:=zeroValue157
 t55:=underlying162
 a55:=isAgg162
 z55:=sizeOf162
 v55:=zeroValue162
 t66:=underlying250
 a66:=isAgg250
 z66:=sizeOf250
 v66:=zeroValue250
 t70:=underlying87
 a70:=isAgg87
 z70:=sizeOf87
 v70:=zeroValue87
 t76:=underlying292
 a76:=isAgg292
 z76:=sizeOf292
 v76:=zeroValue292
 t77:=underlying130
 a77:=isAgg130
 z77:=sizeOf130
 v77:=zeroValue130
def upV{α:Type}(f:Nat->α)(z:α)(n x:Nat):List α:=(List.range n).map fun y=>if y<x then f y else z
section
variable {α:Type}{f:Nat->α}{z:α}{n:Nat}
theorem Z46(x:Nat):(upV f z n x).length=n:=by simp[upV]
theorem Zar:upV f z n 0=List.replicate n z:=by
 unfold upV;rw[List.eq_replicate_iff];simp
theorem ZdN:upV f z n n=(List.range n).map f:=by
 unfold upV;refine List.map_congr_left fun y hy=>if_pos (List.mem_range.1 hy)
theorem ZdO{x:Nat}(h:x<n):(upV f z n x).set x (f x)=upV f z n (x+1):=by
 apply List.ext_getElem (by rw[List.length_set,Z46,Z46]);intro i h1 h2;rw[Z46]at h2;rw[List.getElem_set];have e1:∀y (h:i< (upV f z n y).length),(upV f z n y)[i]=if i<y then f i else z:=fun y h=>by simp[upV]
 rw[e1,e1];by_cases e:x=i
 ·subst e;rw[if_pos rfl,if_pos (by omega)]
 ·rw[if_neg e];by_cases h3:i<x
  ·rw[if_pos h3,if_pos (by omega)]
  ·rw[if_neg h3,if_neg (by omega)]
end
structure CanOK(A:List LB)(l:List Qd)(cl:List Int):Prop where
 cn:cl.length=A.length
 few:A.length<=4096
 ln:l.length<=1048576
 nd:A.Nodup
 mem:∀s∈ZR l,s∈A
 cs:∀c∈cl,0<=c/\c<10000
theorem Z6o{A:List LB}{l:List Qd}{cl:List Int}(hl:l.length<=1048576)(x:Nat):(Yc A l cl x).length<=1048576:=by
 unfold Yc Z1Q;rw[List.length_mergeSort,List.length_map,<-Z9c];exact Nat.le_trans (Z6b ..) hl
theorem Zid{l:List Nat}{k x v:Nat}(hk:k=x):(l.map ZT).set k [.int .i64 (v:Int)]=(l.set x v).map ZT:=by
 subst hk;rw[List.map_set];rfl
theorem Zf4{sg:List (List Qd)}{x k:Nat}{s:List Qd}{rows:List (List SV)}{n:Nat}(hk:k=x)(hr:rows.take n=s.map Zd):((sgD sg).modify k fun row=>row.set 0 (.kid 16 (rows.take n)))=sgD (sg.set x s):=ZgV hk hr
theorem ZdP(A:List LB)(l z:List Qd)(lim:Option Nat)(cl:List Int)(hOK:CanOK A l cl)(hz:(l++z).length<=1152921504606846976):
 Does prog tab 63 6 [.ptr (.loc 0) 0 0 0, .sl (.loc 4) 0 1 A.length none] [(3, .deep false 1 (inK (insV A l)))] [(0,cBx l.length lim A.length),(1, .rows 16 ((l++z).map Zd)),(2, .mp (numT (Xs 0 A A.length))),(4, .rows 1 (cl.map Zk))]
 (fun r O nx=>r= .sl (.loc 6) 0 1 A.length none/\O=[(3, .deep false 1 (inK (insV A l))),(6, .rows 1 ((Yu A l cl).map Zk))]/\nx=7):=by
 have hcn:=hOK.cn;have hA4:=hOK.few;have hsn:∀x,x<A.length->_:=fun x hx=>ZdE A l z lim cl x hx hOK.cn hOK.few hOK.ln hOK.nd hOK.mem hOK.cs hz;refine Does.enter Z0 call63 func63 rfl 79 rfl rfl [.tmp 4] rfl ?_;intro w0 F η0 h0;conv=>whnf
 repeat'((first|(refine NEED.mk (Ur 24 rfl (by omega) (by omega) (by omega) (by omega)) ?_;conv=>whnf)|(refine NEED.mk (Ur 8 rfl (by omega) (by omega) (by omega) (by omega)) ?_;conv=>whnf)|refine AU ?_|(refine IW ?_ ?_<;>intro h<;>try(exfalso;omega)))<;>conv=>whnf)
 rw[Int.toNat_natCast];refine GHO.loop (GHO.deepen 7 (sgD (List.replicate A.length [])) rfl (ZbD _)) ?_;rw[show List.replicate A.length [SV.int .i64 0]=(List.replicate A.length 0).map ZT by rw[List.map_replicate];rfl,<-Zar (f:=Yc A l cl),<-Zar (f:=fun y=>y)];refine LOOP.gok Z0 [0,3,5,6,19] [6,8] (X:=Nat) (fun x=>x<=A.length) (fun x=>[(20, .int .i64 (x:Int))]) (fun x=>[(3, .deep false 1 (inK (insV A l))),(7, .deep false 1 (sgD (upV (Yc A l cl) [] A.length x))),(9, .rows 1 ((upV (fun y=>y) 0 A.length x).map ZT))]) 10 (fun x=>A.length-x) 0 (by omega) ?_;conv=>whnf
 refine⟨by exact GOES.cA h0,?_⟩;intro x hx;conv=>whnf
 by_cases hxl:x<A.length
 ·have hs:=hsn x hxl
  have gO:∀{m:Nat},m=x->((upV (fun y=>y) 0 A.length x).map ZT)[m]?=some (ZT 0):=fun e=>by
   subst e;rw[List.getElem?_map,List.getElem?_eq_getElem (by rw[Z46];exact hxl)];simp[upV]
  repeat'((first|(show DRAWN _ _ _ _ _ _ _;first|refine DRAWN.of (id:=6) Z0 mixed ZdL (by kernel_rfl) ?_)|refine ADD.mk (fun _ _=>?_)|refine AD ?_|refine FORK.mk ?_ ?_|refine AU ?_|(refine IW ?_ ?_<;>intro h<;>try(exfalso;omega)))<;>conv=>whnf)
  all_goals
   refine CALL.aA [0,1,2,3,4,5] (hs) ?_;rintro r O nx ⟨rfl,rfl,rfl⟩;conv=>whnf
   repeat'((first|(refine FINDD.at (ZgU (by rw[Z46];exact hxl) (by omega)) ?_;conv=>whnf)|(refine NEED.mk (show(Yc A l cl x).length<=(Xt _ _).length by rw[Zf _ (Xb _),List.length_map];exact Nat.le_refl _) ?_;conv=>whnf)|(refine GET.at (gO (by omega)) ?_;conv=>whnf)|(show DRAWN _ _ _ _ _ _ _;first|refine DRAWN.of (id:=6) Z0 mixed ZdL (by kernel_rfl) ?_)|refine ADD.mk (fun _ _=>?_)|refine AD ?_|refine FORK.mk ?_ ?_|refine AU ?_|(refine IW ?_ ?_<;>intro h<;>try(exfalso;omega)))<;>conv=>whnf)
  all_goals
   rw[Zf4 (x:=x) (s:=Yc A l cl x) (by omega) (by rw[Zf _ (Xb _),List.take_of_length_le (by simp)]),ZdO hxl,Zid (x:=x) (by omega),ZdO (f:=fun y=>y) hxl];refine⟨x+1,by omega,by omega,?_⟩;conv=>whnf
   exact GOES.kA h0 [6,7,8,9]
 ·have hxe:x=A.length:=by omega
  subst hxe;rw[ZdN,ZdN,List.map_id'];have hsg:(List.range A.length).map (Yc A l cl)=Z0R A l cl:=by unfold Z0R;rw[hcn]
  rw[hsg];repeat'((first|refine AU ?_|(refine IW ?_ ?_<;>intro h<;>try(exfalso;omega)))<;>conv=>whnf)
  refine CALL.sortC (ρ:=_) ZiF call105 (g:=103) call103 rfl rfl (cf:=UE A l cl) (l:=List.range A.length) (n:=A.length) (i:=9) (List.length_range).symm (by rfl) (fun x hx=>List.mem_range.1 hx) (by rw[List.length_range];omega) (Vt A l cl) (fun a b ha hb=>?_) (fun l' hp hs=>?_)
  ·exact Z5g A l cl rfl (by rw[hcn];rfl) (by rw[hcn];rfl) rfl rfl (by omega) (fun x=>Nat.le_trans (Z6o hOK.ln x) (by omega)) a b (by omega) (by omega)
  have hpl:l'.length=A.length:=by rw[hp.length_eq,List.length_range]
  have hln:∀x∈l',x<A.length:=fun x hx=>List.mem_range.1 (hp.mem_iff.1 hx);have hnd:l'.Nodup:=hp.symm.nodup List.nodup_range;have hpre:=Vt A l cl;obtain⟨c,hc⟩:∃c,c=UE A l cl:=⟨_,rfl⟩;have hstep:Yu A l cl=outW c l' A.length l'.length:=by rw[Z6l hp,hc];unfold Yu;rw[hcn]
  conv=>whnf
  repeat'((first|(refine NEED.mk (Ur 8 rfl (by omega) (by omega) (by omega) (by omega)) ?_;conv=>whnf)|refine AU ?_|(refine IW ?_ ?_<;>intro h<;>try(exfalso;omega)))<;>conv=>whnf)
  rw[Int.toNat_natCast,show List.replicate A.length [SV.int .i64 0]=(List.replicate A.length 0).map Zk by rw[List.map_replicate];rfl,<-Z42 (c:=c) (o:=l')];refine LOOP.gok Z0 [6,8,9,42,43] [6,8] (X:=Nat) (fun i=>i<=l'.length) (fun i=>[(44, .int .i64 (i:Int))]) (fun i=>[(3, .deep false 1 (inK (insV A l))),(7, .deep false 1 (sgD (Z0R A l cl))),(9, .rows 1 (l'.map ZT)),(10, .rows 1 ((outW c l' A.length i).map Zk))]) 11 (fun i=>l'.length-i) 0 (by omega) ?_;conv=>whnf
  refine⟨by exact GOES.cA h0,?_⟩;intro i hi;conv=>whnf
  by_cases hil:i<l'.length
  ·have hxn:=hln _ (List.getElem_mem hil);have gO:∀{k m:Nat} (h:k<l'.length),m=k->(l'.map ZT)[m]?=some (ZT l'[k]):=fun h e=>by subst e;rw[List.getElem?_map,List.getElem?_eq_getElem h];rfl
   obtain⟨v0,hv0⟩:∃v0,∀{m:Nat},m=l'[i]->((outW c l' A.length i).map Zk)[m]?=some (Zk v0):=⟨(outW c l' A.length i)[l'[i]]'(by rw[Jt];exact hxn),fun e=>by
    subst e;rw[List.getElem?_map,List.getElem?_eq_getElem (by rw[Jt];exact hxn)];rfl⟩
   rcases i with _|j
   ·have hr:=Ww (c:=c) hnd hil hxn (v:=0) (by rw[Z1r (by rw[hc];exact hpre) (by rw[hc];exact hs)];rfl);repeat'((first|(refine GET.at (gO hil (by omega)) ?_;conv=>whnf)|(refine GET.at (hv0 (by omega)) ?_;conv=>whnf)|refine AU ?_|(refine IW ?_ ?_<;>intro h<;>try(exfalso;omega)))<;>conv=>whnf)
    all_goals first|(exfalso;omega)|skip
    rw[WR (x:=l'[0]) (by omega)];refine⟨1,by omega,by omega,?_⟩;rw[<-hr];conv=>whnf
    exact GOES.kA h0 [6,7,8,9,10]
   ·have hj:j<l'.length:=by omega
    have hjn:=hln _ (List.getElem_mem hj);have hne:l'[j]≠l'[j+1]:=fun e=>by have:=(List.getElem_inj hnd).1 e;omega
    have hnx:=Z43 (c:=c) (by rw[hc];exact hpre) (by rw[hc];exact hs) hil;have hset:=fun(v:Int) (hv:v=(rankL c l' l'[j+1]:Int))=>Ww (c:=c) hnd hil hxn hv;have hgt:=Z6m (c:=c) (n:=A.length) (i:=j+1) (Nat.lt_succ_self j) hj hjn
    have gS:∀{m:Nat},m=l'[j]->(((outW c l' A.length (j+1)).set l'[j+1] ((j+1:Nat):Int)).map Zk)[m]?=some (Zk (rankL c l' l'[j]:Int)):=fun e=>by
     subst e;rw[List.getElem?_map,List.getElem?_set_ne (Ne.symm hne),hgt];rfl
    have gX:∀{m:Nat},m=l'[j+1]->(((outW c l' A.length (j+1)).set l'[j+1] ((j+1:Nat):Int)).map Zk)[m]?=some (Zk ((j+1:Nat):Int)):=fun e=>by
     subst e;rw[List.getElem?_map,List.getElem?_set_self (by rw[Jt];exact hxn)];rfl
    repeat'((first|(refine GET.at (gO hil (by omega)) ?_;conv=>whnf)|(refine GET.at (hv0 (by omega)) ?_;conv=>whnf)|(refine GET.at (gO hj (by rw[Z9 (by omega) (by omega)];omega)) ?_;conv=>whnf)|(refine CALL.quiet (Z5g A l cl rfl (by rw[hcn];rfl) (by rw[hcn];rfl) rfl rfl (by omega) (fun x=>Nat.le_trans (Z6o hOK.ln x) (by omega)) l'[j] l'[j+1] (by omega) (by omega)) ?_;conv=>whnf)|(rw[WR (x:=l'[j+1]) (by omega)];refine GET.at (gS (by omega)) ?_;conv=>whnf)|(refine GET.at (gX (by omega)) ?_;conv=>whnf)|refine AU ?_|(refine IW ?_ ?_<;>intro h<;>try(exfalso;omega)))<;>conv=>whnf)
    all_goals first|(exfalso;omega)|skip
    ·have hr:=hset (rankL c l' l'[j]:Int) (by rw[hnx,if_pos (by rw[hc];assumption)]);rw[WR (x:=l'[j+1]) (by omega),List.set_set,hr];refine⟨j+2,by omega,by omega,?_⟩;conv=>whnf
     exact GOES.kA h0 [6,7,8,9,10]
    ·have hr:=hset ((j+1:Nat):Int) (by rw[hnx,if_neg (by rw[hc];assumption)]);rw[WR (x:=l'[j+1]) (by omega),hr];refine⟨j+2,by omega,by omega,?_⟩;conv=>whnf
     exact GOES.kA h0 [6,7,8,9,10]
  ·have hie:i=l'.length:=by omega
   subst hie;repeat'((first|refine AU ?_|(refine IW ?_ ?_<;>intro h<;>try(exfalso;omega)))<;>conv=>whnf)
   rw[<-hstep];exact FIN.aA h0 [10] (.sl (.loc 6) 0 1 A.length none) [(3, .deep false 1 (inK (insV A l))),(6, .rows 1 ((Yu A l cl).map Zk))] ⟨rfl,rfl,rfl⟩
end Go.Proofs.YtlcbipfmodcedaaGreatDoor
