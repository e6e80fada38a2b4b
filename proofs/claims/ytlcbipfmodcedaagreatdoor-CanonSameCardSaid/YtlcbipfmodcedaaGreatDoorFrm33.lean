/- Part 33: RCan4, RCan5, RCan5L. Conditions: as each part says. -/
import Derived.Test.YtlcbipfmodcedaaGreatDoorFrm31
import Derived.Test.YtlcbipfmodcedaaGreatDoorFrm32
set_option linter.unusedVariables false
set_option linter.unusedSimpArgs false
set_option maxRecDepth 20000
set_option maxHeartbeats 8000000
namespace Go.Proofs.YtlcbipfmodcedaaGreatDoor
open Go.Sx Go.Our Go.Lib
open _root_.Go.Proofs.Tryz
def Jp:uu:=(Zs [(0,1),(1,1),(2,1),(3,1),(4,1),(6,1),(7,1),(8,1),(9,1),(10,1),(5,3),(11,3),(12,1),(13,1)])
def Jq:uu:=(Zs [(0,1),(1,1),(2,1),(3,1),(4,1),(5,1),(6,1),(7,1),(8,1),(9,1),(11,1),(12,1),(10,2),(13,2),(14,3),(15,1),(16,1),(17,1)])
abbrev gy(l:List Qd):List Qd:=l.mergeSort (q9 ZP)
def ZiF(i n:Nat)(l:List Qd):SV->vX->Nat->Prop:=fun r O nx=>
 (n<2/\r= .sl (.loc 0) i 16 n none/\O=[]/\nx=1)\/(2<=n/\r= .sl (.loc 1) 0 16 n none/\O=[(1, .rows 16 (l.map Z3))]/\nx=2)
theorem Bu{l:List Qd}(h:l.length<2):gy l=l:=by
 match l,h with
 | [],_=>simp[gy]
 | [x],_=>simp[gy]
theorem Z8I(L:List Qd)(hL:L.length<=1048576):∀(k n i:Nat) (hk:n<=k) (hi:i+n<=L.length),vS prog uf 112 1 [.sl (.loc 0) i 16 n none] [] [(0, .rows 16 (L.map Z3))] (ZiF i n (gy ((L.drop i).take n))):=by
 intro k
 induction k with
 |zero=>
  intro n i hk hi;refine vS.enter Z0 call112 func112 rfl 65 rfl rfl [.tmp 2] rfl ?_;intro w0 F η0 h0;conv=>whnf
  repeat'(first|refine IW ?_ ?_<;>intro h<;>try omega)<;>conv=>whnf
  exact u0.aA h0 [] (.sl (.loc 0) i 16 n none) [] (.inl ⟨by omega,rfl,rfl,rfl⟩)
 |succ k ih=>
  intro n i hk hi;by_cases hn2:n<2
  .refine vS.enter Z0 call112 func112 rfl 65 rfl rfl [.tmp 2] rfl ?_;intro w0 F η0 h0;conv=>whnf
   repeat'(first|refine IW ?_ ?_<;>intro h<;>try omega)<;>conv=>whnf
   exact u0.aA h0 [] (.sl (.loc 0) i 16 n none) [] (.inl ⟨by omega,rfl,rfl,rfl⟩)
  have h1:=ih (n/2) i (by omega) (by omega);have h2:=ih (n-n/2) (i+n/2) (by omega) (by omega);have hd:(n:Int).tdiv 2=((n/2:Nat):Int):=by rw[xe (by omega)];omega
  have Bv:IntKind.i64.wrap ((n:Int).tdiv 2)=((n/2:Nat):Int):=by rw[hd,Z9 (by omega) (by omega)]
  obtain⟨l,hl⟩:∃l,l=(L.drop i).take n:=⟨_,rfl⟩;have eW:l.length=n:=by rw[hl];simp;omega
  have e1:l.take (n/2)=(L.drop i).take (n/2):=by rw[hl,xT,x7 (by omega)]
  have e2:l.drop (n/2)=(L.drop (i+n/2)).take (n-n/2):=by rw[hl,List.drop_take,yB]
  have Q8:kC ZP (gy (l.take (n/2))) (gy (l.drop (n/2)))=gy l:=ZiE kH l (n/2);rw[e1,e2]at Q8;rw[<-hl];obtain⟨T,l7⟩:∃T,T=gy l:=⟨_,rfl⟩;rw[<-l7]at Q8⊢;have HD:T.length=n:=by rw[l7,yt,eW]
  have l9:(gy ((L.drop i).take (n/2))).length=n/2:=by rw[yt,zq,zD];omega
  have lg:(gy ((L.drop (i+n/2)).take (n-n/2))).length=n-n/2:=by rw[yt,zq,zD];omega
  have sA:=fun h=>Bu (l:=(L.drop i).take (n/2)) h;have sB:=fun h=>Bu (l:=(L.drop (i+n/2)).take (n-n/2)) h;have gN:∀{S:List Qd} {p m:Nat} (h:p<S.length),m=0+p->(S.map Z3)[m]?=some (Z3 S[p]):=fun h e=>by subst e;rw[z6,z1 (by omega)];simp
  have gO:∀{o k p m:Nat} (h:p< ((L.drop o).take k).length),m=o+p->(L.map Z3)[m]?=some (Z3 ((L.drop o).take k)[p]):=fun{o k p m} h e=>by
   subst e;have h1:=h;rw[zq,zD]at h1;rw[z6,z1 (by omega),xR,List.getElem_drop];rfl
  generalize rH:gy ((L.drop i).take (n/2))=SA at h1 Q8 l9 sA;generalize tX:gy ((L.drop (i+n/2)).take (n-n/2))=SB at h2 Q8 lg sB;have hT:([]:List Qd)++kC ZP (SA.drop 0) (SB.drop 0)=T:=Q8;clear l7 Q8 hl e1 e2;refine vS.enter Z0 call112 func112 rfl 65 rfl rfl [.tmp 2] rfl ?_;intro w0 F η0 h0;conv=>whnf
  repeat'(first|(show uq _ _ _ _ _ _ _;first|refine Z4 3 Jp ?_|refine Z4 6 Jq ?_)|refine wh.mk (fun _ _=>?_)|refine AD ?_|rw[Bv]|rw[Int.toNat_natCast]|refine AU ?_|refine IW ?_ ?_<;>intro h<;>try omega)<;>conv=>whnf
  refine CALL.aA [0] (h1) ?_;rintro r O nx (⟨g1,rfl,rfl,rfl⟩|⟨g1,rfl,rfl,rfl⟩)
  .conv=>whnf
   repeat'(first|refine wh.mk (fun _ _=>?_))<;>conv=>whnf
   refine CALL.aA [0] (h2) ?_;rintro r O nx (⟨g2,rfl,rfl,rfl⟩|⟨g2,rfl,rfl,rfl⟩)
   .conv=>whnf
    skip
    have eA:=sA (by rw[zq];omega);have eB:=sB (by rw[zq];omega);have gA:∀{p m:Nat} (h:p<SA.length),m=i+p->(L.map Z3)[m]?=some (Z3 SA[p]):=by subst eA;exact fun h e=>gO h e
    have gB:∀{p m:Nat} (h:p<SB.length),m=i+n/2+p->(L.map Z3)[m]?=some (Z3 SB[p]):=by subst eB;exact fun h e=>gO h e
    refine vZ.nil 5 16 rfl ?_
    refine vZ.kj Z0 [] [] (X:=List Qd×Nat×Nat) (fun x=>x.2.1<=n/2/\x.2.2<=n-n/2/\x.1.length=x.2.1+x.2.2/\x.1++kC ZP (SA.drop x.2.1) (SB.drop x.2.2)=T)
     (fun x=>[(3, .sl (.loc 0) (i+x.2.1) 16 (n/2-x.2.1) none),(4, .sl (.loc 0) (i+n/2+x.2.2) 16 (n-n/2-x.2.2) none),(5, .sl (.loc 1) 0 16 x.1.length none)]) (fun x=>[(1, .rows 16 (x.1.map Z3))]) 2 (fun x=>(n/2-x.2.1)+(n-n/2-x.2.2)) ([],0,0) ⟨by simp,by simp,by simp,hT⟩ ?_
    conv=>whnf
    refine⟨by exact vU.kA h0 [1],?_⟩;rintro⟨out,p,q⟩ ⟨hp,hq,ho,hr⟩;dsimp only at hp hq ho hr⊢;have kB:out.length<=2097152:=by omega
    conv=>whnf
    by_cases bM:p<n/2
    .have gA:=fun{m:Nat}=>gA (p:=p) (m:=m) (by omega);by_cases nB:q<n-n/2
     .have gB:=fun{m:Nat}=>gB (p:=q) (m:=m) (by omega);repeat'(first|(show uq _ _ _ _ _ _ _;first|refine Z4 3 Jp ?_|refine Z4 6 Jq ?_)|refine wh.mk (fun _ _=>?_)|refine CALL.value (Xc _ _) rfl rfl ?_|refine u6.mk (Zn 224 rfl rfl rfl (by simp) (by omega)) ?_|refine GET.at (gA (by omega)) ?_|refine GET.at (gB (by omega)) ?_|refine u6.mk ⟨by omega,by omega⟩ ?_|refine AU ?_|refine IW ?_ ?_<;>intro h<;>try omega)<;>conv=>whnf
      .refine⟨(out++ [SA[p]'(by omega)],p+1,q),⟨by dsimp only;omega,by dsimp only;omega,by dsimp only;rw[zh,List.length_singleton];omega,Xw (p:=p) (q:=q) (by omega) (.inr ⟨by omega,by assumption⟩) hr⟩,by dsimp only;omega,?_⟩;dsimp only;conv=>whnf
       exact vU.kA h0 [3]
      .refine⟨(out++ [SB[q]'(by omega)],p,q+1),⟨by dsimp only;omega,by dsimp only;omega,by dsimp only;rw[zh,List.length_singleton];omega,Xx (p:=p) (q:=q) (by omega) (.inr ⟨by omega,by omega⟩) hr⟩,by dsimp only;omega,?_⟩;dsimp only;conv=>whnf
       exact vU.kA h0 [3]
     .repeat'(first|(show uq _ _ _ _ _ _ _;first|refine Z4 3 Jp ?_|refine Z4 6 Jq ?_)|refine u6.mk (Zn 224 rfl rfl rfl (by simp) (by omega)) ?_|refine GET.at (gA (by omega)) ?_|refine u6.mk ⟨by omega,by omega⟩ ?_|refine AU ?_|refine IW ?_ ?_<;>intro h<;>try omega)<;>conv=>whnf
      refine⟨(out++ [SA[p]'(by omega)],p+1,q),⟨by dsimp only;omega,by dsimp only;omega,by dsimp only;rw[zh,List.length_singleton];omega,Xw (p:=p) (q:=q) (by omega) (.inl (by omega)) hr⟩,by dsimp only;omega,?_⟩;dsimp only;conv=>whnf
      exact vU.kA h0 [3]
    .by_cases nB:q<n-n/2
     .have gB:=fun{m:Nat}=>gB (p:=q) (m:=m) (by omega);repeat'(first|(show uq _ _ _ _ _ _ _;first|refine Z4 3 Jp ?_|refine Z4 6 Jq ?_)|refine u6.mk (Zn 224 rfl rfl rfl (by simp) (by omega)) ?_|refine GET.at (gB (by omega)) ?_|refine u6.mk ⟨by omega,by omega⟩ ?_|refine AU ?_|refine IW ?_ ?_<;>intro h<;>try omega)<;>conv=>whnf
      refine⟨(out++ [SB[q]'(by omega)],p,q+1),⟨by dsimp only;omega,by dsimp only;omega,by dsimp only;rw[zh,List.length_singleton];omega,Xx (p:=p) (q:=q) (by omega) (.inl (by omega)) hr⟩,by dsimp only;omega,?_⟩;dsimp only;conv=>whnf
      exact vU.kA h0 [3]
     .have gD:=Q7 (by omega) (by omega) hr;have bq:out.length=n:=by omega
      repeat'(first|refine IW ?_ ?_<;>intro h<;>try omega)<;>conv=>whnf
      rw[bq,gD];exact u0.aA h0 [1] (.sl (.loc 1) 0 16 n none) [(1, .rows 16 (T.map Z3))] (.inr ⟨by omega,rfl,rfl,rfl⟩)
   .conv=>whnf
    skip
    have eA:=sA (by rw[zq];omega);have gA:∀{p m:Nat} (h:p<SA.length),m=i+p->(L.map Z3)[m]?=some (Z3 SA[p]):=by subst eA;exact fun h e=>gO h e
    have gB:∀{p m:Nat} (h:p<SB.length),m=0+p->(SB.map Z3)[m]?=some (Z3 SB[p]):=fun h e=>gN h e;refine vZ.nil 5 16 rfl ?_
    refine vZ.kj Z0 [] [] (X:=List Qd×Nat×Nat) (fun x=>x.2.1<=n/2/\x.2.2<=n-n/2/\x.1.length=x.2.1+x.2.2/\x.1++kC ZP (SA.drop x.2.1) (SB.drop x.2.2)=T)
     (fun x=>[(3, .sl (.loc 0) (i+x.2.1) 16 (n/2-x.2.1) none),(4, .sl (.loc 1) (0+x.2.2) 16 (n-n/2-x.2.2) none),(5, .sl (.loc 2) 0 16 x.1.length none)]) (fun x=>[(1, .rows 16 (SB.map Z3)),(2, .rows 16 (x.1.map Z3))]) 3 (fun x=>(n/2-x.2.1)+(n-n/2-x.2.2)) ([],0,0) ⟨by simp,by simp,by simp,hT⟩ ?_
    conv=>whnf
    refine⟨by exact vU.kA h0 [1,2],?_⟩;rintro⟨out,p,q⟩ ⟨hp,hq,ho,hr⟩;dsimp only at hp hq ho hr⊢;have kB:out.length<=2097152:=by omega
    conv=>whnf
    by_cases bM:p<n/2
    .have gA:=fun{m:Nat}=>gA (p:=p) (m:=m) (by omega);by_cases nB:q<n-n/2
     .have gB:=fun{m:Nat}=>gB (p:=q) (m:=m) (by omega);repeat'(first|(show uq _ _ _ _ _ _ _;first|refine Z4 3 Jp ?_|refine Z4 6 Jq ?_)|refine wh.mk (fun _ _=>?_)|refine CALL.value (Xc _ _) rfl rfl ?_|refine u6.mk (Zn 224 rfl rfl rfl (by simp) (by omega)) ?_|refine GET.at (gA (by omega)) ?_|refine GET.at (gB (by omega)) ?_|refine u6.mk ⟨by omega,by omega⟩ ?_|refine AU ?_|refine IW ?_ ?_<;>intro h<;>try omega)<;>conv=>whnf
      .refine⟨(out++ [SA[p]'(by omega)],p+1,q),⟨by dsimp only;omega,by dsimp only;omega,by dsimp only;rw[zh,List.length_singleton];omega,Xw (p:=p) (q:=q) (by omega) (.inr ⟨by omega,by assumption⟩) hr⟩,by dsimp only;omega,?_⟩;dsimp only;conv=>whnf
       exact vU.kA h0 [1,4]
      .refine⟨(out++ [SB[q]'(by omega)],p,q+1),⟨by dsimp only;omega,by dsimp only;omega,by dsimp only;rw[zh,List.length_singleton];omega,Xx (p:=p) (q:=q) (by omega) (.inr ⟨by omega,by omega⟩) hr⟩,by dsimp only;omega,?_⟩;dsimp only;conv=>whnf
       exact vU.kA h0 [1,4]
     .repeat'(first|(show uq _ _ _ _ _ _ _;first|refine Z4 3 Jp ?_|refine Z4 6 Jq ?_)|refine u6.mk (Zn 224 rfl rfl rfl (by simp) (by omega)) ?_|refine GET.at (gA (by omega)) ?_|refine u6.mk ⟨by omega,by omega⟩ ?_|refine AU ?_|refine IW ?_ ?_<;>intro h<;>try omega)<;>conv=>whnf
      refine⟨(out++ [SA[p]'(by omega)],p+1,q),⟨by dsimp only;omega,by dsimp only;omega,by dsimp only;rw[zh,List.length_singleton];omega,Xw (p:=p) (q:=q) (by omega) (.inl (by omega)) hr⟩,by dsimp only;omega,?_⟩;dsimp only;conv=>whnf
      exact vU.kA h0 [1,4]
    .by_cases nB:q<n-n/2
     .have gB:=fun{m:Nat}=>gB (p:=q) (m:=m) (by omega);repeat'(first|(show uq _ _ _ _ _ _ _;first|refine Z4 3 Jp ?_|refine Z4 6 Jq ?_)|refine u6.mk (Zn 224 rfl rfl rfl (by simp) (by omega)) ?_|refine GET.at (gB (by omega)) ?_|refine u6.mk ⟨by omega,by omega⟩ ?_|refine AU ?_|refine IW ?_ ?_<;>intro h<;>try omega)<;>conv=>whnf
      refine⟨(out++ [SB[q]'(by omega)],p,q+1),⟨by dsimp only;omega,by dsimp only;omega,by dsimp only;rw[zh,List.length_singleton];omega,Xx (p:=p) (q:=q) (by omega) (.inl (by omega)) hr⟩,by dsimp only;omega,?_⟩;dsimp only;conv=>whnf
      exact vU.kA h0 [1,4]
     .have gD:=Q7 (by omega) (by omega) hr;have bq:out.length=n:=by omega
      repeat'(first|refine IW ?_ ?_<;>intro h<;>try omega)<;>conv=>whnf
      rw[bq,gD];exact u0.aA h0 [2] (.sl (.loc 1) 0 16 n none) [(1, .rows 16 (T.map Z3))] (.inr ⟨by omega,rfl,rfl,rfl⟩)
  .conv=>whnf
   repeat'(first|refine wh.mk (fun _ _=>?_))<;>conv=>whnf
   refine CALL.aA [0] (h2) ?_;rintro r O nx (⟨g2,rfl,rfl,rfl⟩|⟨g2,rfl,rfl,rfl⟩);exfalso;omega
   .conv=>whnf
    skip
    have gA:∀{p m:Nat} (h:p<SA.length),m=0+p->(SA.map Z3)[m]?=some (Z3 SA[p]):=fun h e=>gN h e;have gB:∀{p m:Nat} (h:p<SB.length),m=0+p->(SB.map Z3)[m]?=some (Z3 SB[p]):=fun h e=>gN h e;refine vZ.nil 5 16 rfl ?_
    refine vZ.kj Z0 [] [] (X:=List Qd×Nat×Nat) (fun x=>x.2.1<=n/2/\x.2.2<=n-n/2/\x.1.length=x.2.1+x.2.2/\x.1++kC ZP (SA.drop x.2.1) (SB.drop x.2.2)=T)
     (fun x=>[(3, .sl (.loc 1) (0+x.2.1) 16 (n/2-x.2.1) none),(4, .sl (.loc 2) (0+x.2.2) 16 (n-n/2-x.2.2) none),(5, .sl (.loc 3) 0 16 x.1.length none)]) (fun x=>[(1, .rows 16 (SA.map Z3)),(2, .rows 16 (SB.map Z3)),(3, .rows 16 (x.1.map Z3))]) 4 (fun x=>(n/2-x.2.1)+(n-n/2-x.2.2)) ([],0,0) ⟨by simp,by simp,by simp,hT⟩ ?_
    conv=>whnf
    refine⟨by exact vU.kA h0 [1,2,3],?_⟩;rintro⟨out,p,q⟩ ⟨hp,hq,ho,hr⟩;dsimp only at hp hq ho hr⊢;have kB:out.length<=2097152:=by omega
    conv=>whnf
    by_cases bM:p<n/2
    .have gA:=fun{m:Nat}=>gA (p:=p) (m:=m) (by omega);by_cases nB:q<n-n/2
     .have gB:=fun{m:Nat}=>gB (p:=q) (m:=m) (by omega);repeat'(first|(show uq _ _ _ _ _ _ _;first|refine Z4 3 Jp ?_|refine Z4 6 Jq ?_)|refine wh.mk (fun _ _=>?_)|refine CALL.value (Xc _ _) rfl rfl ?_|refine u6.mk (Zn 224 rfl rfl rfl (by simp) (by omega)) ?_|refine GET.at (gA (by omega)) ?_|refine GET.at (gB (by omega)) ?_|refine u6.mk ⟨by omega,by omega⟩ ?_|refine AU ?_|refine IW ?_ ?_<;>intro h<;>try omega)<;>conv=>whnf
      .refine⟨(out++ [SA[p]'(by omega)],p+1,q),⟨by dsimp only;omega,by dsimp only;omega,by dsimp only;rw[zh,List.length_singleton];omega,Xw (p:=p) (q:=q) (by omega) (.inr ⟨by omega,by assumption⟩) hr⟩,by dsimp only;omega,?_⟩;dsimp only;conv=>whnf
       exact vU.kA h0 [1,2,5]
      .refine⟨(out++ [SB[q]'(by omega)],p,q+1),⟨by dsimp only;omega,by dsimp only;omega,by dsimp only;rw[zh,List.length_singleton];omega,Xx (p:=p) (q:=q) (by omega) (.inr ⟨by omega,by omega⟩) hr⟩,by dsimp only;omega,?_⟩;dsimp only;conv=>whnf
       exact vU.kA h0 [1,2,5]
     .repeat'(first|(show uq _ _ _ _ _ _ _;first|refine Z4 3 Jp ?_|refine Z4 6 Jq ?_)|refine u6.mk (Zn 224 rfl rfl rfl (by simp) (by omega)) ?_|refine GET.at (gA (by omega)) ?_|refine u6.mk ⟨by omega,by omega⟩ ?_|refine AU ?_|refine IW ?_ ?_<;>intro h<;>try omega)<;>conv=>whnf
      refine⟨(out++ [SA[p]'(by omega)],p+1,q),⟨by dsimp only;omega,by dsimp only;omega,by dsimp only;rw[zh,List.length_singleton];omega,Xw (p:=p) (q:=q) (by omega) (.inl (by omega)) hr⟩,by dsimp only;omega,?_⟩;dsimp only;conv=>whnf
      exact vU.kA h0 [1,2,5]
    .by_cases nB:q<n-n/2
     .have gB:=fun{m:Nat}=>gB (p:=q) (m:=m) (by omega);repeat'(first|(show uq _ _ _ _ _ _ _;first|refine Z4 3 Jp ?_|refine Z4 6 Jq ?_)|refine u6.mk (Zn 224 rfl rfl rfl (by simp) (by omega)) ?_|refine GET.at (gB (by omega)) ?_|refine u6.mk ⟨by omega,by omega⟩ ?_|refine AU ?_|refine IW ?_ ?_<;>intro h<;>try omega)<;>conv=>whnf
      refine⟨(out++ [SB[q]'(by omega)],p,q+1),⟨by dsimp only;omega,by dsimp only;omega,by dsimp only;rw[zh,List.length_singleton];omega,Xx (p:=p) (q:=q) (by omega) (.inl (by omega)) hr⟩,by dsimp only;omega,?_⟩;dsimp only;conv=>whnf
      exact vU.kA h0 [1,2,5]
     .have gD:=Q7 (by omega) (by omega) hr;have bq:out.length=n:=by omega
      repeat'(first|refine IW ?_ ?_<;>intro h<;>try omega)<;>conv=>whnf
      rw[bq,gD];exact u0.aA h0 [3] (.sl (.loc 1) 0 16 n none) [(1, .rows 16 (T.map Z3))] (.inr ⟨by omega,rfl,rfl,rfl⟩)
end Go.Proofs.YtlcbipfmodcedaaGreatDoor
namespace Go.Proofs.YtlcbipfmodcedaaGreatDoor
open Go.Sx Go.Our Go.Lib
theorem XL{C:Cx}{O:vX}{σ:Nat->Nat}{k i:Nat}{h:Hp}(hk:Nat.blt i k=true)(hl:Yn C O (.loc (σ i))=some h)(hp:V2 h=true):Nat.blt i k=true/\Yn C O (.loc (σ i))=some (um σ h)/\Zh k h=true:=
 ⟨hk,by rw[Zv σ hp];exact hl,Yz k hp⟩
open _root_.Go.Proofs.Tryz
def ZeT:uu:=(Zs [(0,1),(1,1),(2,1),(4,1),(5,1),(6,1),(8,1),(11,1),(3,2),(7,2),(9,1),(10,2),(12,1),(13,2),(14,1),(15,2),(16,3),(17,0)])
def ZeU:uu:=(Zs [(0,1),(1,1),(2,1),(4,1),(5,1),(7,1),(9,1),(10,1),(12,1),(13,1),(15,1),(16,1),(18,1),(19,1),(3,2),(8,2),(11,2),(17,2),(6,3),(14,3),(20,3),(21,1),(22,3),(23,0),(24,1)])
theorem Za4(A:List LB)(l z:List Qd)(lim ll:Option Nat)(cl:List Int)(x:Nat)(hx:x<A.length)(ki:cl.length=A.length)(e8:A.length<=4096)(hl:l.length<=1048576)(hnd:A.Nodup)(hmem:∀s∈Zz l,s∈A)(kg:∀c∈cl,0<=c/\c<10000)(hpk:∀q∈l, ¬q.p.k=2)(hz:(l++z).length<=1152921504606846976):
 vS prog uf 66 7 [.ptr (.loc 0) 0 0 0, .int .i64 (x:Int), .sl (.loc 4) 0 1 A.length none] [] [(0,Ge l.length lim A.length ll none),(1, .rows 16 ((l++z).map Z3)),(2, .mp (qb (Xr 0 A A.length))),(3, .rows 1 (JL A.length x (.sl (.loc 6) 0 1 (cc A l x).length none))),(4, .rows 1 (cl.map Zg)),(6, .rows 1 ((cc A l x).map Y8))]
 (fun r O nx=>r= .sl (.loc 7) 0 16 (Yo A l cl x).length none/\O=[(7, .rows 16 ((Yo A l cl x).map Z3))]/\nx=8):=by
 have gX:∀{m:Nat} {sv:SV},m=x->(JL A.length x sv)[m]?=some [sv]:=fun e=>by subst e;unfold JL;rw[z6,yG hx];simp
 have Bp:(cc A l x).length<=1048576:=by rw[<-Bf];exact zO (Hw ..) hl
 have tT:∀k∈cc A l x,k<l.length:=fun k hk=>HB hk;obtain⟨V,hV⟩:∃V,V=rz A l cl x:=⟨_,rfl⟩;have tU:V.length=(cc A l x).length:=by rw[hV];unfold rz;rw[zy]
 have BM:Yo A l cl x=gy V:=by rw[hV];rfl
 refine vS.enter Z0 call66 func66 rfl 64 rfl rfl [.tmp 6] rfl ?_;intro w0 F η0 h0;conv=>whnf
 obtain⟨L,hL⟩:∃L,L=cc A l x:=⟨_,rfl⟩;rw[<-hL]at Bp tT tU⊢
 have Gc:∀i (h:i<L.length),V[i]'(by omega)=mO A cl x (l[L[i]]'(tT _ (zk h))):=fun i h=>by
  subst hV hL;unfold rz;rw[yg,zl,z1 (HB (zk h))];rfl
 refine vZ.nil 7 16 rfl ?_;refine vZ.kj Z0 [0,1,2] [] (X:=Nat) (fun i=>i<=L.length) (fun i=>[(8, .int .i64 (i:Int)),(7, .sl (.loc 7) 0 16 i none)]) (fun i=>[(7, .rows 16 ((V.take i).map Z3))]) 8 (fun i=>L.length-i) 0 (by omega) ?_;conv=>whnf
 refine⟨by exact vU.kA h0 [7],?_⟩;intro i hi;have tV:(V.take i).length=i:=by rw[zq];omega
 conv=>whnf
 by_cases hil:i<L.length
 .have hk:=tT _ (zk hil);obtain⟨q,hq⟩:∃q,q=l[L[i]]:=⟨_,rfl⟩;have Gd:=Gc i hil;rw[<-hq]at Gd;have dr:∀s∈Zw q,s∈A:=fun s hs=>hmem s (xV.2 ⟨q,by rw[hq];exact zk hk,hs⟩);have hqp:¬q.p.k=2:=hpk q (by rw[hq];exact zk hk);have gL:∀{m:Nat},m=i->(L.map Y8)[m]?=some (Y8 L[i]):=fun e=>by subst e;rw[z6,z1 hil];rfl
  have gQ:∀{m:Nat},m=L[i]->((l++z).map Z3)[m]?=some (Z3 q):=fun e=>by subst e;rw[hq,z6,zn hk,z1 hk];rfl
  have hto:(V.take (i+1))=V.take i++ [mO A cl x q]:=by rw[zH (by omega),Gd]
  have sS:=Br A l.length lim ll none cl x q.s ki e8 hnd (fun h=>dr _ (by unfold Zw Y0;simp[h])) kg hx;have sO:=Br A l.length lim ll none cl x q.o ki e8 hnd (fun h=>dr _ (by unfold Zw Y0;simp[h])) kg hx;have sG:=Br A l.length lim ll none cl x q.g ki e8 hnd (fun h=>dr _ (by unfold Zw Y0;simp[h])) kg hx;generalize V.take i=W at tV hto⊢;clear Gc hV;repeat'(first|(show uq _ _ _ _ _ _ _;first|refine Z4 5 ZeT ?_)|refine wh.mk (fun _ _=>?_)|refine AD ?_|refine GET.at (gX (by omega)) ?_|refine GET.at (gL (by omega)) ?_|refine GET.at (gQ (by omega)) ?_|refine AU ?_|refine IW ?_ ?_<;>intro h<;>try omega)<;>conv=>whnf
  have Gj:mO A cl x q=⟨Xo A cl x q.s,q.p,Xo A cl x q.o,Xo A cl x q.g⟩:=by unfold mO;rw[Bo hqp]
  repeat'(first|(show uq _ _ _ _ _ _ _;first|refine Z4 6 ZeU ?_)|refine wh.mk (fun _ _=>?_)|refine CALL.looks [0,1,2,3,4,5] sS rfl rfl rfl rfl ⟨⟨rfl,rfl,rfl⟩,XL rfl rfl (Hl _),XL rfl rfl (Vp _),trivial⟩ ?_|refine CALL.looks [0,1,2,3,4,5] sO rfl rfl rfl rfl ⟨⟨rfl,rfl,rfl⟩,XL rfl rfl (Hl _),XL rfl rfl (Vp _),trivial⟩ ?_|refine CALL.looks [0,1,2,3,4,5] sG rfl rfl rfl rfl ⟨⟨rfl,rfl,rfl⟩,XL rfl rfl (Hl _),XL rfl rfl (Vp _),trivial⟩ ?_|refine u6.mk (Zn 224 rfl rfl rfl (by simp;omega) (by omega)) ?_)<;>conv=>whnf
  have htk:List.take i (W.map Z3)=W.map Z3:=zg (by rw[zy];omega);rw[htk];refine⟨i+1,by omega,by omega,?_⟩;rw[hto,Gj];conv=>whnf
  exact vU.kA h0 [10]
 .have hie:i=L.length:=by omega
  subst hie;have hs:=Z8I V (by omega) V.length V.length 0 (zo _) (by omega);rw[yN,y8,<-BM,tU]at hs;rw[show V.take L.length=V from zg (by omega)];have kL:(Yo A l cl x).length=L.length:=by rw[BM,yt,tU]
  repeat'(first|refine GET.at (gX (by omega)) ?_|refine AU ?_|refine IW ?_ ?_<;>intro h<;>try omega)<;>conv=>whnf
  refine CALL.aA [7] (hs) ?_;rintro r O nx (⟨g1,rfl,rfl,rfl⟩|⟨g1,rfl,rfl,rfl⟩)
  .conv=>whnf
   skip
   have hshort:Yo A l cl x=V:=by rw[BM];exact Bu (by omega)
   rw[hshort]at kL⊢;rw[kL];exact u0.aA h0 [7] (.sl (.loc 7) 0 16 L.length none) [(7, .rows 16 (V.map Z3))] ⟨rfl,rfl,rfl⟩
  .conv=>whnf
   skip
   rw[kL];exact u0.aA h0 [8] (.sl (.loc 7) 0 16 L.length none) [(7, .rows 16 ((Yo A l cl x).map Z3))] ⟨rfl,rfl,rfl⟩
end Go.Proofs.YtlcbipfmodcedaaGreatDoor
