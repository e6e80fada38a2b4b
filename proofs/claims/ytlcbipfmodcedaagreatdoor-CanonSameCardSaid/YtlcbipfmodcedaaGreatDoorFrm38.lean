/- Part 38: Can5. Conditions: as each part says. -/
import Derived.Test.YtlcbipfmodcedaaGreatDoorFrm30
import Derived.Test.YtlcbipfmodcedaaGreatDoorFrm36
set_option linter.unusedVariables false
set_option linter.unusedSimpArgs false
set_option maxRecDepth 20000
set_option maxHeartbeats 8000000
namespace Go.Proofs.YtlcbipfmodcedaaGreatDoor
open Go.Sx Go.Our Go.Shelf
open _root_.Go.Proofs.Tryz
def ZiK:uu:=(.take 1 1 (.take 2 1 (.take 3 1 (.take 4 1 (.take 5 1 (.take 8 1 (.take 6 2 (.fork 0 3 7 0 (Zs [(7,0),(9,1),(10,0),(11,1),(12,0)]) (Zs [(0,2),(9,1),(10,0),(11,1),(12,0)])))))))))
def ZeX:Go.Shelf.Ren:=⟨fun|6=>105|15=>114|14=>137|28=>150|29=>151|20=>182|21=>183|22=>184|23=>185|24=>186|25=>187|26=>188|27=>189|46=>228|47=>196|48=>197|49=>229|50=>230|57=>276|n=>n,fun|22=>72|24=>3|25=>165|3=>3|39=>177|0=>0|53=>157|55=>162|4=>4|46=>208|45=>207|50=>103|5=>5|9=>9|66=>250|70=>87|76=>292|77=>130|n=>n,fun|n=>n⟩
theorem ZkM:Go.Proofs.SlLaysF.n6 prog ZeX where
 mixed:=by kernel_rfl
 f6:=⟨f105.name,by decide,func105.trans (z8 some (by kernel_rfl))⟩
 f14:=⟨f137.name,by decide,func137.trans (z8 some (by kernel_rfl))⟩
 f15:=func114.trans (z8 some (by kernel_rfl))
 f20:=⟨f182.name,by decide,func182.trans (z8 some (by kernel_rfl))⟩
 f21:=⟨f183.name,by decide,func183.trans (z8 some (by kernel_rfl))⟩
 f22:=⟨f184.name,by decide,func184.trans (z8 some (by kernel_rfl))⟩
 f23:=⟨f185.name,by decide,func185.trans (z8 some (by kernel_rfl))⟩
 f24:=⟨f186.name,by decide,func186.trans (z8 some (by kernel_rfl))⟩
 f25:=⟨f187.name,by decide,func187.trans (z8 some (by kernel_rfl))⟩
 f26:=⟨f188.name,by decide,func188.trans (z8 some (by kernel_rfl))⟩
 f27:=⟨f189.name,by decide,func189.trans (z8 some (by kernel_rfl))⟩
 f28:=func150.trans (z8 some (by kernel_rfl))
 f29:=func151.trans (z8 some (by kernel_rfl))
 f46:=⟨f228.name,by decide,func228.trans (z8 some (by kernel_rfl))⟩
 f47:=func196.trans (z8 some (by kernel_rfl))
 f48:=func197.trans (z8 some (by kernel_rfl))
 f49:=⟨f229.name,by decide,func229.trans (z8 some (by kernel_rfl))⟩
 f50:=⟨f230.name,by decide,func230.trans (z8 some (by kernel_rfl))⟩
 f57:=⟨f276.name,by decide,func276.trans (z8 some (by kernel_rfl))⟩
 t0:=underlying0
 a0:=isAgg0
 z0:=sizeOf0
 v0:=zeroValue0
 t3:=underlying3
 a3:=isAgg3
 z3:=sizeOf3
 v3:=zeroValue3
 t4:=underlying4
 a4:=isAgg4
 z4:=sizeOf4
 v4:=zeroValue4
 t5:=underlying5
 a5:=isAgg5
 z5:=sizeOf5
 v5:=zeroValue5
 t9:=underlying9
 a9:=isAgg9
 z9:=sizeOf9
 v9:=zeroValue9
 t22:=underlying72
 a22:=isAgg72
 z22:=sizeOf72
 v22:=zeroValue72
 a24:=isAgg3
 z24:=sizeOf3
 t25:=underlying165
 a25:=isAgg165
 z25:=sizeOf165
 v25:=zeroValue165
 t39:=underlying177
 a39:=isAgg177
 z39:=sizeOf177
 v39:=zeroValue177
 t45:=underlying207
 a45:=isAgg207
 z45:=sizeOf207
 v45:=zeroValue207
 t46:=underlying208
 a46:=isAgg208
 z46:=sizeOf208
 v46:=zeroValue208
 t50:=underlying103
 a50:=isAgg103
 z50:=sizeOf103
 v50:=zeroValue103
 t53:=underlying157
 a53:=isAgg157
 z53:=sizeOf157
 v53:=zeroValue157
 t55:=underlying162
 a55:=isAgg162
 z55:=sizeOf162
 v55:=zeroValue162
 t66:=underlying250
 a66:=isAgg250
 z66:=sizeOf250
 v66:=zeroValue250
 t70:=underlying87
 a70:=isAgg87
 z70:=sizeOf87
 v70:=zeroValue87
 t76:=underlying292
 a76:=isAgg292
 z76:=sizeOf292
 v76:=zeroValue292
 t77:=underlying130
 a77:=isAgg130
 z77:=sizeOf130
 v77:=zeroValue130
def bW{K:Type}(f:Nat->K)(z:K)(n x:Nat):List K:=(List.range n).map fun y=>if y<x then f y else z
section
variable {K:Type}{f:Nat->K}{z:K}{n:Nat}
theorem Gk(x:Nat):(bW f z n x).length=n:=by simp[bW]
theorem RE:bW f z n 0=List.replicate n z:=by
 unfold bW;rw[vp];simp
theorem RF:bW f z n n=(List.range n).map f:=by
 unfold bW;refine yy fun y hy=>zf (yj.1 hy)
theorem RG{x:Nat}(h:x<n):(bW f z n x).set x (f x)=bW f z n (x+1):=by
 apply yV (by rw[xO,Gk,Gk]);intro i h1 h2;rw[Gk]at h2;rw[vA];have e1:∀y (h:i< (bW f z n y).length),(bW f z n y)[i]=if i<y then f i else z:=fun y h=>by simp[bW]
 rw[e1,e1];by_cases e:x=i
 subst e;rw[zf rfl,zf (by omega)]
 .rw[z7 e];by_cases h3:i<x
  rw[zf h3,zf (by omega)];rw[z7 h3,z7 (by omega)]
end
structure jh(A:List LB)(l:List Qd)(cl:List Int):Prop where
 cn:cl.length=A.length
 few:A.length<=4096
 ln:l.length<=1048576
 nd:A.Nodup
 mem:∀s∈Zz l,s∈A
 cs:∀c∈cl,0<=c/\c<10000
theorem BP{A:List LB}{l:List Qd}{cl:List Int}(hl:l.length<=1048576)(x:Nat):(Yo A l cl x).length<=1048576:=by
 unfold Yo rz;rw[yt,zy,<-Bf];exact zO (Hw ..) hl
theorem Zkg{l:List Nat}{k x v:Nat}(hk:k=x):(l.map Y8).set k [.int .i64 (v:Int)]=(l.set x v).map Y8:=by
 subst hk;rw[vj];rfl
theorem Zgv{sg:List (List Qd)}{x k:Nat}{s:List Qd}{rows:List (List SV)}{n:Nat}(hk:k=x)(hr:rows.take n=s.map Z3):((dx sg).modify k fun row=>row.set 0 (.uA 16 (rows.take n)))=dx (sg.set x s):=ZiJ hk hr
theorem Zf0(A:List LB)(l z:List Qd)(lim:Option Nat)(cl:List Int)(dy:jh A l cl)(hz:(l++z).length<=1152921504606846976):
 vS prog uf 63 6 [.ptr (.loc 0) 0 0 0, .sl (.loc 4) 0 1 A.length none] [(3, .deep false 1 (wT (uQ A l)))] [(0,Ga l.length lim A.length),(1, .rows 16 ((l++z).map Z3)),(2, .mp (qb (Xr 0 A A.length))),(4, .rows 1 (cl.map Zg))]
 (fun r O nx=>r= .sl (.loc 6) 0 1 A.length none/\O=[(3, .deep false 1 (wT (uQ A l))),(6, .rows 1 ((Yt A l cl).map Zg))]/\nx=7):=by
 have ki:=dy.cn;have e8:=dy.few;have hsn:∀x,x<A.length->_:=fun x hx=>ZeQ A l z lim cl x hx dy.cn dy.few dy.ln dy.nd dy.mem dy.cs hz;refine vS.enter Z0 call63 func63 rfl 79 rfl rfl [.tmp 4] rfl ?_;intro w0 F η0 h0;conv=>whnf
 repeat'(first|refine u6.mk (Uw 24 rfl (by omega) (by omega) (by omega) (by omega)) ?_)<;>conv=>whnf
 rw[Int.toNat_natCast];refine uT.loop (uT.dS 7 (dx (List.replicate A.length [])) rfl (Zcz _)) ?_;rw[show List.replicate A.length [SV.int .i64 0]=(List.replicate A.length 0).map Y8 by rw[x5];rfl,<-RE (f:=Yo A l cl),<-RE (f:=fun y=>y)];refine vZ.kj Z0 [0,3,5,6,19] [6,8] (X:=Nat) (fun x=>x<=A.length) (fun x=>[(20, .int .i64 (x:Int))]) (fun x=>[(3, .deep false 1 (wT (uQ A l))),(7, .deep false 1 (dx (bW (Yo A l cl) [] A.length x))),(9, .rows 1 ((bW (fun y=>y) 0 A.length x).map Y8))]) 10 (fun x=>A.length-x) 0 (by omega) ?_;conv=>whnf
 refine⟨by exact vU.cA h0,?_⟩;intro x hx;conv=>whnf
 by_cases hxl:x<A.length
 .have hs:=hsn x hxl
  have gO:∀{m:Nat},m=x->((bW (fun y=>y) 0 A.length x).map Y8)[m]?=some (Y8 0):=fun e=>by
   subst e;rw[z6,z1 (by rw[Gk];exact hxl)];simp[bW]
  repeat'(first|(show uq _ _ _ _ _ _ _;first|refine Z4 6 ZiK ?_)|refine wh.mk (fun _ _=>?_)|refine AD ?_|refine qz.mk ?_ ?_|refine IW ?_ ?_<;>intro h<;>try omega)<;>conv=>whnf
  all_goals
   refine CALL.aA [0,1,2,3,4,5] (hs) ?_;rintro r O nx ⟨rfl,rfl,rfl⟩;conv=>whnf
   repeat'(first|refine wV.at (ZiI (by rw[Gk];exact hxl) (by omega)) ?_|refine u6.mk (show(Yo A l cl x).length<=(Xn _ _).length by rw[Zd _ (Zo _),zy];exact zo _) ?_|refine GET.at (gO (by omega)) ?_|refine AD ?_|refine AU ?_)<;>conv=>whnf
  all_goals
   rw[Zgv (x:=x) (s:=Yo A l cl x) (by omega) (by rw[Zd _ (Zo _),zg (by simp)]),RG hxl,Zkg (x:=x) (by omega),RG (f:=fun y=>y) hxl];refine⟨x+1,by omega,by omega,?_⟩;conv=>whnf
   exact vU.kA h0 [6,7,8,9]
 .have iF:x=A.length:=by omega
  subst iF;rw[RF,RF,List.map_id'];have eT:(List.range A.length).map (Yo A l cl)=lC A l cl:=by unfold lC;rw[ki]
  rw[eT];repeat'(first|refine IW ?_ ?_<;>intro h<;>try omega)<;>conv=>whnf
  refine CALL.G5 (ρ:=_) ZkM call105 (g:=103) call103 rfl rfl (cf:=UH A l cl) (l:=List.range A.length) (n:=A.length) (i:=9) (yE).symm (by rfl) (fun x hx=>yj.1 hx) (by rw[yE];omega) (Vz A l cl) (fun a b ha hb=>?_) (fun l' hp hs=>?_);exact RD A l cl rfl (by rw[ki];rfl) (by rw[ki];rfl) rfl rfl (by omega) (fun x=>zO (BP dy.ln x) (by omega)) a b (by omega) (by omega);have jo:l'.length=A.length:=by rw[hp.length_eq,yE]
  have eW:∀x∈l',x<A.length:=fun x hx=>yj.1 (hp.mem_iff.1 hx);have hnd:l'.Nodup:=hp.symm.nodup xJ;have hpre:=Vz A l cl;obtain⟨c,hc⟩:∃c,c=UH A l cl:=⟨_,rfl⟩;have hstep:Yt A l cl=wP c l' A.length l'.length:=by rw[BG hp,hc];unfold Yt;rw[ki]
  conv=>whnf
  repeat'(first|refine u6.mk (Uw 8 rfl (by omega) (by omega) (by omega) (by omega)) ?_)<;>conv=>whnf
  rw[Int.toNat_natCast,show List.replicate A.length [SV.int .i64 0]=(List.replicate A.length 0).map Zg by rw[x5];rfl,<-BF (c:=c) (o:=l')];refine vZ.kj Z0 [6,8,9,42,43] [6,8] (X:=Nat) (fun i=>i<=l'.length) (fun i=>[(44, .int .i64 (i:Int))]) (fun i=>[(3, .deep false 1 (wT (uQ A l))),(7, .deep false 1 (dx (lC A l cl))),(9, .rows 1 (l'.map Y8)),(10, .rows 1 ((wP c l' A.length i).map Zg))]) 11 (fun i=>l'.length-i) 0 (by omega) ?_;conv=>whnf
  refine⟨by exact vU.cA h0,?_⟩;intro i hi;conv=>whnf
  by_cases hil:i<l'.length
  .have dw:=eW _ (zk hil);have gO:∀{k m:Nat} (h:k<l'.length),m=k->(l'.map Y8)[m]?=some (Y8 l'[k]):=fun h e=>by subst e;rw[z6,z1 h];rfl
   obtain⟨v0,qu⟩:∃v0,∀{m:Nat},m=l'[i]->((wP c l' A.length i).map Zg)[m]?=some (Zg v0):=⟨(wP c l' A.length i)[l'[i]]'(by rw[Jt];exact dw),fun e=>by
    subst e;rw[z6,z1 (by rw[Jt];exact dw)];rfl⟩
   rcases i with _|j
   .have hr:=WA (c:=c) hnd hil dw (v:=0) (by rw[BI (by rw[hc];exact hpre) (by rw[hc];exact hs)];rfl);repeat'(first|refine GET.at (gO hil (by omega)) ?_|refine GET.at (qu (by omega)) ?_|refine AU ?_|refine IW ?_ ?_<;>intro h<;>try omega)<;>conv=>whnf
    all_goals first|(exfalso;omega)|skip
    rw[U4 (x:=l'[0]) (by omega)];refine⟨1,by omega,by omega,?_⟩;rw[<-hr];conv=>whnf
    exact vU.kA h0 [6,7,8,9,10]
   .have hj:j<l'.length:=by omega
    have hjn:=eW _ (zk hj);have hne:l'[j]≠l'[j+1]:=fun e=>by have:=(x9 hnd).1 e;omega
    have ak:=BJ (c:=c) (by rw[hc];exact hpre) (by rw[hc];exact hs) hil;have wK:=fun(v:Int) (hv:v=(uZ c l' l'[j+1]:Int))=>WA (c:=c) hnd hil dw hv;have hgt:=BH (c:=c) (n:=A.length) (i:=j+1) (Nat.lt_succ_self j) hj hjn
    have gS:∀{m:Nat},m=l'[j]->(((wP c l' A.length (j+1)).set l'[j+1] ((j+1:Nat):Int)).map Zg)[m]?=some (Zg (uZ c l' l'[j]:Int)):=fun e=>by
     subst e;rw[z6,List.getElem?_set_ne (yY hne),hgt];rfl
    have gX:∀{m:Nat},m=l'[j+1]->(((wP c l' A.length (j+1)).set l'[j+1] ((j+1:Nat):Int)).map Zg)[m]?=some (Zg ((j+1:Nat):Int)):=fun e=>by
     subst e;rw[z6,List.getElem?_set_self (by rw[Jt];exact dw)];rfl
    repeat'(first|refine GET.at (gO hil (by omega)) ?_|refine GET.at (qu (by omega)) ?_|refine GET.at (gO hj (by rw[Z9 (by omega) (by omega)];omega)) ?_|refine CALL.quiet (RD A l cl rfl (by rw[ki];rfl) (by rw[ki];rfl) rfl rfl (by omega) (fun x=>zO (BP dy.ln x) (by omega)) l'[j] l'[j+1] (by omega) (by omega)) ?_|rw[U4 (x:=l'[j+1]) (by omega)];refine GET.at (gS (by omega)) ?_|refine GET.at (gX (by omega)) ?_|refine AU ?_|refine IW ?_ ?_<;>intro h<;>try omega)<;>conv=>whnf
    all_goals first|(exfalso;omega)|skip
    .have hr:=wK (uZ c l' l'[j]:Int) (by rw[ak,zf (by rw[hc];assumption)]);rw[U4 (x:=l'[j+1]) (by omega),List.set_set,hr];refine⟨j+2,by omega,by omega,?_⟩;conv=>whnf
     exact vU.kA h0 [6,7,8,9,10]
    .have hr:=wK ((j+1:Nat):Int) (by rw[ak,z7 (by rw[hc];assumption)]);rw[U4 (x:=l'[j+1]) (by omega),hr];refine⟨j+2,by omega,by omega,?_⟩;conv=>whnf
     exact vU.kA h0 [6,7,8,9,10]
  .have hie:i=l'.length:=by omega
   subst hie;repeat'(first|refine IW ?_ ?_<;>intro h<;>try omega)<;>conv=>whnf
   rw[<-hstep];exact u0.aA h0 [10] (.sl (.loc 6) 0 1 A.length none) [(3, .deep false 1 (wT (uQ A l))),(6, .rows 1 ((Yt A l cl).map Zg))] ⟨rfl,rfl,rfl⟩
end Go.Proofs.YtlcbipfmodcedaaGreatDoor
