/- Part 35: RCan4, RCan5, RCan5L. Conditions: as each part says. -/
import Derived.Test.YtlcbipfmodcedaaGreatDoorRfn33
import Derived.Test.YtlcbipfmodcedaaGreatDoorRfn34
set_option linter.unusedVariables false
set_option linter.unusedSimpArgs false
set_option maxRecDepth 20000
set_option maxHeartbeats 8000000
namespace Go.Proofs.YtlcbipfmodcedaaGreatDoor
open Go.Sx Go.Our Go.Lib
open Tryz
def Yl:Plan:=(Zu [(0,1),(1,1),(2,1),(3,1),(4,1),(6,1),(7,1),(8,1),(9,1),(10,1),(5,3),(11,3),(12,1),(13,1)])
def Ym:Plan:=(Zu [(0,1),(1,1),(2,1),(3,1),(4,1),(5,1),(6,1),(7,1),(8,1),(9,1),(11,1),(12,1),(10,2),(13,2),(14,3),(15,1),(16,1),(17,1)])
abbrev srtQ(l:List Qd):List Qd:=l.mergeSort (leC Xd)
def ZgR(i n:Nat)(l:List Qd):SV->Hps->Nat->Prop:=fun r O nx=>
 (n<2/\r= .sl (.loc 0) i 16 n none/\O=[]/\nx=1)\/(2<=n/\r= .sl (.loc 1) 0 16 n none/\O=[(1, .rows 16 (l.map Zd))]/\nx=2)
theorem Z40{l:List Qd}(h:l.length<2):srtQ l=l:=by
 match l,h with
 | [],_=>simp[srtQ]
 | [x],_=>simp[srtQ]
theorem Z82(L:List Qd)(hL:L.length<=1048576):∀(k n i:Nat) (hk:n<=k) (hi:i+n<=L.length),Does prog tab 112 1 [.sl (.loc 0) i 16 n none] [] [(0, .rows 16 (L.map Zd))] (ZgR i n (srtQ ((L.drop i).take n))):=by
 intro k
 induction k with
 |zero=>
  intro n i hk hi;refine Does.enter Z0 call112 func112 rfl 65 rfl rfl [.tmp 2] rfl ?_;intro w0 F η0 h0;conv=>whnf
  repeat'((first|refine AU ?_|(refine IW ?_ ?_<;>intro h<;>try(exfalso;omega)))<;>conv=>whnf)
  exact FIN.aA h0 [] (.sl (.loc 0) i 16 n none) [] (.inl ⟨by omega,rfl,rfl,rfl⟩)
 |succ k ih=>
  intro n i hk hi;by_cases hn2:n<2
  ·refine Does.enter Z0 call112 func112 rfl 65 rfl rfl [.tmp 2] rfl ?_;intro w0 F η0 h0;conv=>whnf
   repeat'((first|refine AU ?_|(refine IW ?_ ?_<;>intro h<;>try(exfalso;omega)))<;>conv=>whnf)
   exact FIN.aA h0 [] (.sl (.loc 0) i 16 n none) [] (.inl ⟨by omega,rfl,rfl,rfl⟩)
  have h1:=ih (n/2) i (by omega) (by omega);have h2:=ih (n-n/2) (i+n/2) (by omega) (by omega);have hd:(n:Int).tdiv 2=((n/2:Nat):Int):=by rw[Int.tdiv_eq_ediv_of_nonneg (by omega)];omega
  have hdw:IntKind.i64.wrap ((n:Int).tdiv 2)=((n/2:Nat):Int):=by rw[hd,Z9 (by omega) (by omega)]
  obtain⟨l,hl⟩:∃l,l=(L.drop i).take n:=⟨_,rfl⟩;have hln:l.length=n:=by rw[hl];simp;omega
  have e1:l.take (n/2)=(L.drop i).take (n/2):=by rw[hl,List.take_take,Nat.min_eq_left (by omega)]
  have e2:l.drop (n/2)=(L.drop (i+n/2)).take (n-n/2):=by rw[hl,List.drop_take,List.drop_drop]
  have hT0:mgM Xd (srtQ (l.take (n/2))) (srtQ (l.drop (n/2)))=srtQ l:=ZgQ triQ l (n/2);rw[e1,e2]at hT0;rw[<-hl];obtain⟨T,hTd⟩:∃T,T=srtQ l:=⟨_,rfl⟩;rw[<-hTd]at hT0⊢;have hTl:T.length=n:=by rw[hTd,List.length_mergeSort,hln]
  have hSAl:(srtQ ((L.drop i).take (n/2))).length=n/2:=by rw[List.length_mergeSort,List.length_take,List.length_drop];omega
  have hSBl:(srtQ ((L.drop (i+n/2)).take (n-n/2))).length=n-n/2:=by rw[List.length_mergeSort,List.length_take,List.length_drop];omega
  have sA:=fun h=>Z40 (l:=(L.drop i).take (n/2)) h;have sB:=fun h=>Z40 (l:=(L.drop (i+n/2)).take (n-n/2)) h;have gN:∀{S:List Qd} {p m:Nat} (h:p<S.length),m=0+p->(S.map Zd)[m]?=some (Zd S[p]):=fun h e=>by subst e;rw[List.getElem?_map,List.getElem?_eq_getElem (by omega)];simp
  have gO:∀{o k p m:Nat} (h:p< ((L.drop o).take k).length),m=o+p->(L.map Zd)[m]?=some (Zd ((L.drop o).take k)[p]):=fun{o k p m} h e=>by
   subst e;have h1:=h;rw[List.length_take,List.length_drop]at h1;rw[List.getElem?_map,List.getElem?_eq_getElem (by omega),List.getElem_take,List.getElem_drop];rfl
  generalize hSA:srtQ ((L.drop i).take (n/2))=SA at h1 hT0 hSAl sA;generalize hSB:srtQ ((L.drop (i+n/2)).take (n-n/2))=SB at h2 hT0 hSBl sB;have hT:([]:List Qd)++mgM Xd (SA.drop 0) (SB.drop 0)=T:=hT0;clear hTd hT0 hl e1 e2;refine Does.enter Z0 call112 func112 rfl 65 rfl rfl [.tmp 2] rfl ?_;intro w0 F η0 h0;conv=>whnf
  repeat'((first|(show DRAWN _ _ _ _ _ _ _;first|refine DRAWN.of (id:=3) Z0 mixed Yl (by kernel_rfl) ?_|refine DRAWN.of (id:=6) Z0 mixed Ym (by kernel_rfl) ?_)|refine ADD.mk (fun _ _=>?_)|refine AD ?_|refine FORK.mk ?_ ?_|(rw[hdw];conv=>whnf)|(rw[Int.toNat_natCast];conv=>whnf)|refine AU ?_|(refine IW ?_ ?_<;>intro h<;>try(exfalso;omega)))<;>conv=>whnf)
  refine CALL.aA [0] (h1) ?_;rintro r O nx (⟨g1,rfl,rfl,rfl⟩|⟨g1,rfl,rfl,rfl⟩)
  ·conv=>whnf
   repeat'((first|(show DRAWN _ _ _ _ _ _ _;first|refine DRAWN.of (id:=3) Z0 mixed Yl (by kernel_rfl) ?_|refine DRAWN.of (id:=6) Z0 mixed Ym (by kernel_rfl) ?_)|refine ADD.mk (fun _ _=>?_)|refine AD ?_|refine FORK.mk ?_ ?_|(rw[hdw];conv=>whnf)|(rw[Int.toNat_natCast];conv=>whnf)|refine AU ?_|(refine IW ?_ ?_<;>intro h<;>try(exfalso;omega)))<;>conv=>whnf)
   refine CALL.aA [0] (h2) ?_;rintro r O nx (⟨g2,rfl,rfl,rfl⟩|⟨g2,rfl,rfl,rfl⟩)
   ·conv=>whnf
    repeat'((first|(show DRAWN _ _ _ _ _ _ _;first|refine DRAWN.of (id:=3) Z0 mixed Yl (by kernel_rfl) ?_|refine DRAWN.of (id:=6) Z0 mixed Ym (by kernel_rfl) ?_)|refine ADD.mk (fun _ _=>?_)|refine AD ?_|refine FORK.mk ?_ ?_|refine AU ?_|(refine IW ?_ ?_<;>intro h<;>try(exfalso;omega)))<;>conv=>whnf)
    have eA:=sA (by rw[List.length_take];omega);have eB:=sB (by rw[List.length_take];omega);have gA:∀{p m:Nat} (h:p<SA.length),m=i+p->(L.map Zd)[m]?=some (Zd SA[p]):=by subst eA;exact fun h e=>gO h e
    have gB:∀{p m:Nat} (h:p<SB.length),m=i+n/2+p->(L.map Zd)[m]?=some (Zd SB[p]):=by subst eB;exact fun h e=>gO h e
    refine LOOP.nil 5 16 rfl ?_
    refine LOOP.gok Z0 [] [] (X:=List Qd×Nat×Nat) (fun x=>x.2.1<=n/2/\x.2.2<=n-n/2/\x.1.length=x.2.1+x.2.2/\x.1++mgM Xd (SA.drop x.2.1) (SB.drop x.2.2)=T)
     (fun x=>[(3, .sl (.loc 0) (i+x.2.1) 16 (n/2-x.2.1) none),(4, .sl (.loc 0) (i+n/2+x.2.2) 16 (n-n/2-x.2.2) none),(5, .sl (.loc 1) 0 16 x.1.length none)]) (fun x=>[(1, .rows 16 (x.1.map Zd))]) 2 (fun x=>(n/2-x.2.1)+(n-n/2-x.2.2)) ([],0,0) ⟨by simp,by simp,by simp,hT⟩ ?_
    conv=>whnf
    refine⟨by exact GOES.kA h0 [1],?_⟩;rintro⟨out,p,q⟩ ⟨hp,hq,ho,hr⟩;dsimp only at hp hq ho hr⊢;have ho2:out.length<=2097152:=by omega
    conv=>whnf
    by_cases hpn:p<n/2
    ·have gA:=fun{m:Nat}=>gA (p:=p) (m:=m) (by omega);by_cases hqn:q<n-n/2
     ·have gB:=fun{m:Nat}=>gB (p:=q) (m:=m) (by omega);repeat'((first|(show DRAWN _ _ _ _ _ _ _;first|refine DRAWN.of (id:=3) Z0 mixed Yl (by kernel_rfl) ?_|refine DRAWN.of (id:=6) Z0 mixed Ym (by kernel_rfl) ?_)|refine ADD.mk (fun _ _=>?_)|refine AD ?_|refine FORK.mk ?_ ?_|refine CALL.value (Vb _ _) rfl rfl ?_|(refine NEED.mk (Zj 224 rfl rfl rfl (by simp) (by omega)) ?_;conv=>whnf)|(refine GET.at (gA (by omega)) ?_;conv=>whnf)|(refine GET.at (gB (by omega)) ?_;conv=>whnf)|(refine NEED.mk ⟨by omega,by omega⟩ ?_;conv=>whnf)|refine AU ?_|(refine IW ?_ ?_<;>intro h<;>try(exfalso;omega)))<;>conv=>whnf)
      ·refine⟨(out++ [SA[p]'(by omega)],p+1,q),⟨by dsimp only;omega,by dsimp only;omega,by dsimp only;rw[List.length_append,List.length_singleton];omega,XF (p:=p) (q:=q) (by omega) (.inr ⟨by omega,by assumption⟩) hr⟩,by dsimp only;omega,?_⟩;dsimp only;conv=>whnf
       exact GOES.kA h0 [3]
      ·refine⟨(out++ [SB[q]'(by omega)],p,q+1),⟨by dsimp only;omega,by dsimp only;omega,by dsimp only;rw[List.length_append,List.length_singleton];omega,XG (p:=p) (q:=q) (by omega) (.inr ⟨by omega,by omega⟩) hr⟩,by dsimp only;omega,?_⟩;dsimp only;conv=>whnf
       exact GOES.kA h0 [3]
     ·repeat'((first|(show DRAWN _ _ _ _ _ _ _;first|refine DRAWN.of (id:=3) Z0 mixed Yl (by kernel_rfl) ?_|refine DRAWN.of (id:=6) Z0 mixed Ym (by kernel_rfl) ?_)|refine ADD.mk (fun _ _=>?_)|refine AD ?_|refine FORK.mk ?_ ?_|(refine NEED.mk (Zj 224 rfl rfl rfl (by simp) (by omega)) ?_;conv=>whnf)|(refine GET.at (gA (by omega)) ?_;conv=>whnf)|(refine NEED.mk ⟨by omega,by omega⟩ ?_;conv=>whnf)|refine AU ?_|(refine IW ?_ ?_<;>intro h<;>try(exfalso;omega)))<;>conv=>whnf)
      refine⟨(out++ [SA[p]'(by omega)],p+1,q),⟨by dsimp only;omega,by dsimp only;omega,by dsimp only;rw[List.length_append,List.length_singleton];omega,XF (p:=p) (q:=q) (by omega) (.inl (by omega)) hr⟩,by dsimp only;omega,?_⟩;dsimp only;conv=>whnf
      exact GOES.kA h0 [3]
    ·by_cases hqn:q<n-n/2
     ·have gB:=fun{m:Nat}=>gB (p:=q) (m:=m) (by omega);repeat'((first|(show DRAWN _ _ _ _ _ _ _;first|refine DRAWN.of (id:=3) Z0 mixed Yl (by kernel_rfl) ?_|refine DRAWN.of (id:=6) Z0 mixed Ym (by kernel_rfl) ?_)|refine ADD.mk (fun _ _=>?_)|refine AD ?_|refine FORK.mk ?_ ?_|(refine NEED.mk (Zj 224 rfl rfl rfl (by simp) (by omega)) ?_;conv=>whnf)|(refine GET.at (gB (by omega)) ?_;conv=>whnf)|(refine NEED.mk ⟨by omega,by omega⟩ ?_;conv=>whnf)|refine AU ?_|(refine IW ?_ ?_<;>intro h<;>try(exfalso;omega)))<;>conv=>whnf)
      refine⟨(out++ [SB[q]'(by omega)],p,q+1),⟨by dsimp only;omega,by dsimp only;omega,by dsimp only;rw[List.length_append,List.length_singleton];omega,XG (p:=p) (q:=q) (by omega) (.inl (by omega)) hr⟩,by dsimp only;omega,?_⟩;dsimp only;conv=>whnf
      exact GOES.kA h0 [3]
     ·have hfin:=Z5e (by omega) (by omega) hr;have hon:out.length=n:=by omega
      repeat'((first|(show DRAWN _ _ _ _ _ _ _;first|refine DRAWN.of (id:=3) Z0 mixed Yl (by kernel_rfl) ?_|refine DRAWN.of (id:=6) Z0 mixed Ym (by kernel_rfl) ?_)|refine ADD.mk (fun _ _=>?_)|refine AD ?_|refine FORK.mk ?_ ?_|refine AU ?_|(refine IW ?_ ?_<;>intro h<;>try(exfalso;omega)))<;>conv=>whnf)
      rw[hon,hfin];exact FIN.aA h0 [1] (.sl (.loc 1) 0 16 n none) [(1, .rows 16 (T.map Zd))] (.inr ⟨by omega,rfl,rfl,rfl⟩)
   ·conv=>whnf
    repeat'((first|(show DRAWN _ _ _ _ _ _ _;first|refine DRAWN.of (id:=3) Z0 mixed Yl (by kernel_rfl) ?_|refine DRAWN.of (id:=6) Z0 mixed Ym (by kernel_rfl) ?_)|refine ADD.mk (fun _ _=>?_)|refine AD ?_|refine FORK.mk ?_ ?_|refine AU ?_|(refine IW ?_ ?_<;>intro h<;>try(exfalso;omega)))<;>conv=>whnf)
    have eA:=sA (by rw[List.length_take];omega);have gA:∀{p m:Nat} (h:p<SA.length),m=i+p->(L.map Zd)[m]?=some (Zd SA[p]):=by subst eA;exact fun h e=>gO h e
    have gB:∀{p m:Nat} (h:p<SB.length),m=0+p->(SB.map Zd)[m]?=some (Zd SB[p]):=fun h e=>gN h e;refine LOOP.nil 5 16 rfl ?_
    refine LOOP.gok Z0 [] [] (X:=List Qd×Nat×Nat) (fun x=>x.2.1<=n/2/\x.2.2<=n-n/2/\x.1.length=x.2.1+x.2.2/\x.1++mgM Xd (SA.drop x.2.1) (SB.drop x.2.2)=T)
     (fun x=>[(3, .sl (.loc 0) (i+x.2.1) 16 (n/2-x.2.1) none),(4, .sl (.loc 1) (0+x.2.2) 16 (n-n/2-x.2.2) none),(5, .sl (.loc 2) 0 16 x.1.length none)]) (fun x=>[(1, .rows 16 (SB.map Zd)),(2, .rows 16 (x.1.map Zd))]) 3 (fun x=>(n/2-x.2.1)+(n-n/2-x.2.2)) ([],0,0) ⟨by simp,by simp,by simp,hT⟩ ?_
    conv=>whnf
    refine⟨by exact GOES.kA h0 [1,2],?_⟩;rintro⟨out,p,q⟩ ⟨hp,hq,ho,hr⟩;dsimp only at hp hq ho hr⊢;have ho2:out.length<=2097152:=by omega
    conv=>whnf
    by_cases hpn:p<n/2
    ·have gA:=fun{m:Nat}=>gA (p:=p) (m:=m) (by omega);by_cases hqn:q<n-n/2
     ·have gB:=fun{m:Nat}=>gB (p:=q) (m:=m) (by omega);repeat'((first|(show DRAWN _ _ _ _ _ _ _;first|refine DRAWN.of (id:=3) Z0 mixed Yl (by kernel_rfl) ?_|refine DRAWN.of (id:=6) Z0 mixed Ym (by kernel_rfl) ?_)|refine ADD.mk (fun _ _=>?_)|refine AD ?_|refine FORK.mk ?_ ?_|refine CALL.value (Vb _ _) rfl rfl ?_|(refine NEED.mk (Zj 224 rfl rfl rfl (by simp) (by omega)) ?_;conv=>whnf)|(refine GET.at (gA (by omega)) ?_;conv=>whnf)|(refine GET.at (gB (by omega)) ?_;conv=>whnf)|(refine NEED.mk ⟨by omega,by omega⟩ ?_;conv=>whnf)|refine AU ?_|(refine IW ?_ ?_<;>intro h<;>try(exfalso;omega)))<;>conv=>whnf)
      ·refine⟨(out++ [SA[p]'(by omega)],p+1,q),⟨by dsimp only;omega,by dsimp only;omega,by dsimp only;rw[List.length_append,List.length_singleton];omega,XF (p:=p) (q:=q) (by omega) (.inr ⟨by omega,by assumption⟩) hr⟩,by dsimp only;omega,?_⟩;dsimp only;conv=>whnf
       exact GOES.kA h0 [1,4]
      ·refine⟨(out++ [SB[q]'(by omega)],p,q+1),⟨by dsimp only;omega,by dsimp only;omega,by dsimp only;rw[List.length_append,List.length_singleton];omega,XG (p:=p) (q:=q) (by omega) (.inr ⟨by omega,by omega⟩) hr⟩,by dsimp only;omega,?_⟩;dsimp only;conv=>whnf
       exact GOES.kA h0 [1,4]
     ·repeat'((first|(show DRAWN _ _ _ _ _ _ _;first|refine DRAWN.of (id:=3) Z0 mixed Yl (by kernel_rfl) ?_|refine DRAWN.of (id:=6) Z0 mixed Ym (by kernel_rfl) ?_)|refine ADD.mk (fun _ _=>?_)|refine AD ?_|refine FORK.mk ?_ ?_|(refine NEED.mk (Zj 224 rfl rfl rfl (by simp) (by omega)) ?_;conv=>whnf)|(refine GET.at (gA (by omega)) ?_;conv=>whnf)|(refine NEED.mk ⟨by omega,by omega⟩ ?_;conv=>whnf)|refine AU ?_|(refine IW ?_ ?_<;>intro h<;>try(exfalso;omega)))<;>conv=>whnf)
      refine⟨(out++ [SA[p]'(by omega)],p+1,q),⟨by dsimp only;omega,by dsimp only;omega,by dsimp only;rw[List.length_append,List.length_singleton];omega,XF (p:=p) (q:=q) (by omega) (.inl (by omega)) hr⟩,by dsimp only;omega,?_⟩;dsimp only;conv=>whnf
      exact GOES.kA h0 [1,4]
    ·by_cases hqn:q<n-n/2
     ·have gB:=fun{m:Nat}=>gB (p:=q) (m:=m) (by omega);repeat'((first|(show DRAWN _ _ _ _ _ _ _;first|refine DRAWN.of (id:=3) Z0 mixed Yl (by kernel_rfl) ?_|refine DRAWN.of (id:=6) Z0 mixed Ym (by kernel_rfl) ?_)|refine ADD.mk (fun _ _=>?_)|refine AD ?_|refine FORK.mk ?_ ?_|(refine NEED.mk (Zj 224 rfl rfl rfl (by simp) (by omega)) ?_;conv=>whnf)|(refine GET.at (gB (by omega)) ?_;conv=>whnf)|(refine NEED.mk ⟨by omega,by omega⟩ ?_;conv=>whnf)|refine AU ?_|(refine IW ?_ ?_<;>intro h<;>try(exfalso;omega)))<;>conv=>whnf)
      refine⟨(out++ [SB[q]'(by omega)],p,q+1),⟨by dsimp only;omega,by dsimp only;omega,by dsimp only;rw[List.length_append,List.length_singleton];omega,XG (p:=p) (q:=q) (by omega) (.inl (by omega)) hr⟩,by dsimp only;omega,?_⟩;dsimp only;conv=>whnf
      exact GOES.kA h0 [1,4]
     ·have hfin:=Z5e (by omega) (by omega) hr;have hon:out.length=n:=by omega
      repeat'((first|(show DRAWN _ _ _ _ _ _ _;first|refine DRAWN.of (id:=3) Z0 mixed Yl (by kernel_rfl) ?_|refine DRAWN.of (id:=6) Z0 mixed Ym (by kernel_rfl) ?_)|refine ADD.mk (fun _ _=>?_)|refine AD ?_|refine FORK.mk ?_ ?_|refine AU ?_|(refine IW ?_ ?_<;>intro h<;>try(exfalso;omega)))<;>conv=>whnf)
      rw[hon,hfin];exact FIN.aA h0 [2] (.sl (.loc 1) 0 16 n none) [(1, .rows 16 (T.map Zd))] (.inr ⟨by omega,rfl,rfl,rfl⟩)
  ·conv=>whnf
   repeat'((first|(show DRAWN _ _ _ _ _ _ _;first|refine DRAWN.of (id:=3) Z0 mixed Yl (by kernel_rfl) ?_|refine DRAWN.of (id:=6) Z0 mixed Ym (by kernel_rfl) ?_)|refine ADD.mk (fun _ _=>?_)|refine AD ?_|refine FORK.mk ?_ ?_|(rw[hdw];conv=>whnf)|(rw[Int.toNat_natCast];conv=>whnf)|refine AU ?_|(refine IW ?_ ?_<;>intro h<;>try(exfalso;omega)))<;>conv=>whnf)
   refine CALL.aA [0] (h2) ?_;rintro r O nx (⟨g2,rfl,rfl,rfl⟩|⟨g2,rfl,rfl,rfl⟩)
   ·exfalso;omega
   ·conv=>whnf
    repeat'((first|(show DRAWN _ _ _ _ _ _ _;first|refine DRAWN.of (id:=3) Z0 mixed Yl (by kernel_rfl) ?_|refine DRAWN.of (id:=6) Z0 mixed Ym (by kernel_rfl) ?_)|refine ADD.mk (fun _ _=>?_)|refine AD ?_|refine FORK.mk ?_ ?_|refine AU ?_|(refine IW ?_ ?_<;>intro h<;>try(exfalso;omega)))<;>conv=>whnf)
    have gA:∀{p m:Nat} (h:p<SA.length),m=0+p->(SA.map Zd)[m]?=some (Zd SA[p]):=fun h e=>gN h e;have gB:∀{p m:Nat} (h:p<SB.length),m=0+p->(SB.map Zd)[m]?=some (Zd SB[p]):=fun h e=>gN h e;refine LOOP.nil 5 16 rfl ?_
    refine LOOP.gok Z0 [] [] (X:=List Qd×Nat×Nat) (fun x=>x.2.1<=n/2/\x.2.2<=n-n/2/\x.1.length=x.2.1+x.2.2/\x.1++mgM Xd (SA.drop x.2.1) (SB.drop x.2.2)=T)
     (fun x=>[(3, .sl (.loc 1) (0+x.2.1) 16 (n/2-x.2.1) none),(4, .sl (.loc 2) (0+x.2.2) 16 (n-n/2-x.2.2) none),(5, .sl (.loc 3) 0 16 x.1.length none)]) (fun x=>[(1, .rows 16 (SA.map Zd)),(2, .rows 16 (SB.map Zd)),(3, .rows 16 (x.1.map Zd))]) 4 (fun x=>(n/2-x.2.1)+(n-n/2-x.2.2)) ([],0,0) ⟨by simp,by simp,by simp,hT⟩ ?_
    conv=>whnf
    refine⟨by exact GOES.kA h0 [1,2,3],?_⟩;rintro⟨out,p,q⟩ ⟨hp,hq,ho,hr⟩;dsimp only at hp hq ho hr⊢;have ho2:out.length<=2097152:=by omega
    conv=>whnf
    by_cases hpn:p<n/2
    ·have gA:=fun{m:Nat}=>gA (p:=p) (m:=m) (by omega);by_cases hqn:q<n-n/2
     ·have gB:=fun{m:Nat}=>gB (p:=q) (m:=m) (by omega);repeat'((first|(show DRAWN _ _ _ _ _ _ _;first|refine DRAWN.of (id:=3) Z0 mixed Yl (by kernel_rfl) ?_|refine DRAWN.of (id:=6) Z0 mixed Ym (by kernel_rfl) ?_)|refine ADD.mk (fun _ _=>?_)|refine AD ?_|refine FORK.mk ?_ ?_|refine CALL.value (Vb _ _) rfl rfl ?_|(refine NEED.mk (Zj 224 rfl rfl rfl (by simp) (by omega)) ?_;conv=>whnf)|(refine GET.at (gA (by omega)) ?_;conv=>whnf)|(refine GET.at (gB (by omega)) ?_;conv=>whnf)|(refine NEED.mk ⟨by omega,by omega⟩ ?_;conv=>whnf)|refine AU ?_|(refine IW ?_ ?_<;>intro h<;>try(exfalso;omega)))<;>conv=>whnf)
      ·refine⟨(out++ [SA[p]'(by omega)],p+1,q),⟨by dsimp only;omega,by dsimp only;omega,by dsimp only;rw[List.length_append,List.length_singleton];omega,XF (p:=p) (q:=q) (by omega) (.inr ⟨by omega,by assumption⟩) hr⟩,by dsimp only;omega,?_⟩;dsimp only;conv=>whnf
       exact GOES.kA h0 [1,2,5]
      ·refine⟨(out++ [SB[q]'(by omega)],p,q+1),⟨by dsimp only;omega,by dsimp only;omega,by dsimp only;rw[List.length_append,List.length_singleton];omega,XG (p:=p) (q:=q) (by omega) (.inr ⟨by omega,by omega⟩) hr⟩,by dsimp only;omega,?_⟩;dsimp only;conv=>whnf
       exact GOES.kA h0 [1,2,5]
     ·repeat'((first|(show DRAWN _ _ _ _ _ _ _;first|refine DRAWN.of (id:=3) Z0 mixed Yl (by kernel_rfl) ?_|refine DRAWN.of (id:=6) Z0 mixed Ym (by kernel_rfl) ?_)|refine ADD.mk (fun _ _=>?_)|refine AD ?_|refine FORK.mk ?_ ?_|(refine NEED.mk (Zj 224 rfl rfl rfl (by simp) (by omega)) ?_;conv=>whnf)|(refine GET.at (gA (by omega)) ?_;conv=>whnf)|(refine NEED.mk ⟨by omega,by omega⟩ ?_;conv=>whnf)|refine AU ?_|(refine IW ?_ ?_<;>intro h<;>try(exfalso;omega)))<;>conv=>whnf)
      refine⟨(out++ [SA[p]'(by omega)],p+1,q),⟨by dsimp only;omega,by dsimp only;omega,by dsimp only;rw[List.length_append,List.length_singleton];omega,XF (p:=p) (q:=q) (by omega) (.inl (by omega)) hr⟩,by dsimp only;omega,?_⟩;dsimp only;conv=>whnf
      exact GOES.kA h0 [1,2,5]
    ·by_cases hqn:q<n-n/2
     ·have gB:=fun{m:Nat}=>gB (p:=q) (m:=m) (by omega);repeat'((first|(show DRAWN _ _ _ _ _ _ _;first|refine DRAWN.of (id:=3) Z0 mixed Yl (by kernel_rfl) ?_|refine DRAWN.of (id:=6) Z0 mixed Ym (by kernel_rfl) ?_)|refine ADD.mk (fun _ _=>?_)|refine AD ?_|refine FORK.mk ?_ ?_|(refine NEED.mk (Zj 224 rfl rfl rfl (by simp) (by omega)) ?_;conv=>whnf)|(refine GET.at (gB (by omega)) ?_;conv=>whnf)|(refine NEED.mk ⟨by omega,by omega⟩ ?_;conv=>whnf)|refine AU ?_|(refine IW ?_ ?_<;>intro h<;>try(exfalso;omega)))<;>conv=>whnf)
      refine⟨(out++ [SB[q]'(by omega)],p,q+1),⟨by dsimp only;omega,by dsimp only;omega,by dsimp only;rw[List.length_append,List.length_singleton];omega,XG (p:=p) (q:=q) (by omega) (.inl (by omega)) hr⟩,by dsimp only;omega,?_⟩;dsimp only;conv=>whnf
      exact GOES.kA h0 [1,2,5]
     ·have hfin:=Z5e (by omega) (by omega) hr;have hon:out.length=n:=by omega
      repeat'((first|(show DRAWN _ _ _ _ _ _ _;first|refine DRAWN.of (id:=3) Z0 mixed Yl (by kernel_rfl) ?_|refine DRAWN.of (id:=6) Z0 mixed Ym (by kernel_rfl) ?_)|refine ADD.mk (fun _ _=>?_)|refine AD ?_|refine FORK.mk ?_ ?_|refine AU ?_|(refine IW ?_ ?_<;>intro h<;>try(exfalso;omega)))<;>conv=>whnf)
      rw[hon,hfin];exact FIN.aA h0 [3] (.sl (.loc 1) 0 16 n none) [(1, .rows 16 (T.map Zd))] (.inr ⟨by omega,rfl,rfl,rfl⟩)
end Go.Proofs.YtlcbipfmodcedaaGreatDoor
namespace Go.Proofs.YtlcbipfmodcedaaGreatDoor
open Go.Sx Go.Our Go.Lib
theorem XS{C:Cx}{O:Hps}{σ:Nat->Nat}{k i:Nat}{h:Hp}(hk:Nat.blt i k=true)(hl:Yp C O (.loc (σ i))=some h)(hp:JW h=true):Nat.blt i k=true/\Yp C O (.loc (σ i))=some (renH σ h)/\Zg k h=true:=
 ⟨hk,by rw[Zw σ hp];exact hl,YA k hp⟩
open Tryz
def ZdH:Plan:=(Zu [(0,1),(1,1),(2,1),(4,1),(5,1),(6,1),(8,1),(11,1),(3,2),(7,2),(9,1),(10,2),(12,1),(13,2),(14,1),(15,2),(16,3),(17,0)])
def ZdI:Plan:=(Zu [(0,1),(1,1),(2,1),(4,1),(5,1),(7,1),(9,1),(10,1),(12,1),(13,1),(15,1),(16,1),(18,1),(19,1),(3,2),(8,2),(11,2),(17,2),(6,3),(14,3),(20,3),(21,1),(22,3),(23,0),(24,1)])
theorem Z9i(A:List LB)(l z:List Qd)(lim ll:Option Nat)(cl:List Int)(x:Nat)(hx:x<A.length)(hcn:cl.length=A.length)(hA4:A.length<=4096)(hl:l.length<=1048576)(hnd:A.Nodup)(hmem:∀s∈ZR l,s∈A)(hcl:∀c∈cl,0<=c/\c<10000)(hpk:∀q∈l, ¬q.p.k=2)(hz:(l++z).length<=1152921504606846976):
 Does prog tab 66 7 [.ptr (.loc 0) 0 0 0, .int .i64 (x:Int), .sl (.loc 4) 0 1 A.length none] [] [(0,gBx l.length lim A.length ll none),(1, .rows 16 ((l++z).map Zd)),(2, .mp (numT (Xs 0 A A.length))),(3, .rows 1 (JK A.length x (.sl (.loc 6) 0 1 (atV A l x).length none))),(4, .rows 1 (cl.map Zk)),(6, .rows 1 ((atV A l x).map ZT))]
 (fun r O nx=>r= .sl (.loc 7) 0 16 (Yc A l cl x).length none/\O=[(7, .rows 16 ((Yc A l cl x).map Zd))]/\nx=8):=by
 have gX:∀{m:Nat} {sv:SV},m=x->(JK A.length x sv)[m]?=some [sv]:=fun e=>by subst e;unfold JK;rw[List.getElem?_map,List.getElem?_range hx];simp
 have hLl:(atV A l x).length<=1048576:=by rw[<-Z9c];exact Nat.le_trans (Z6b ..) hl
 have hLk:∀k∈atV A l x,k<l.length:=fun k hk=>Zf2 hk;obtain⟨V,hV⟩:∃V,V=Z1Q A l cl x:=⟨_,rfl⟩;have hVl:V.length=(atV A l x).length:=by rw[hV];unfold Z1Q;rw[List.length_map]
 have hsV:Yc A l cl x=srtQ V:=by rw[hV];rfl
 refine Does.enter Z0 call66 func66 rfl 64 rfl rfl [.tmp 6] rfl ?_;intro w0 F η0 h0;conv=>whnf
 obtain⟨L,hL⟩:∃L,L=atV A l x:=⟨_,rfl⟩;rw[<-hL]at hLl hLk hVl⊢
 have hVi:∀i (h:i<L.length),V[i]'(by omega)=Z5N A cl x (l[L[i]]'(hLk _ (List.getElem_mem h))):=fun i h=>by
  subst hV hL;unfold Z1Q;rw[List.getElem_map,List.getD_eq_getElem?_getD,List.getElem?_eq_getElem (Zf2 (List.getElem_mem h))];rfl
 refine LOOP.nil 7 16 rfl ?_;refine LOOP.gok Z0 [0,1,2] [] (X:=Nat) (fun i=>i<=L.length) (fun i=>[(8, .int .i64 (i:Int)),(7, .sl (.loc 7) 0 16 i none)]) (fun i=>[(7, .rows 16 ((V.take i).map Zd))]) 8 (fun i=>L.length-i) 0 (by omega) ?_;conv=>whnf
 refine⟨by exact GOES.kA h0 [7],?_⟩;intro i hi;have hti:(V.take i).length=i:=by rw[List.length_take];omega
 conv=>whnf
 by_cases hil:i<L.length
 ·have hk:=hLk _ (List.getElem_mem hil);obtain⟨q,hq⟩:∃q,q=l[L[i]]:=⟨_,rfl⟩;have hVq:=hVi i hil;rw[<-hq]at hVq;have hqA:∀s∈Zv q,s∈A:=fun s hs=>hmem s (List.mem_flatMap.2 ⟨q,by rw[hq];exact List.getElem_mem hk,hs⟩);have hqp:¬q.p.k=2:=hpk q (by rw[hq];exact List.getElem_mem hk);have gL:∀{m:Nat},m=i->(L.map ZT)[m]?=some (ZT L[i]):=fun e=>by subst e;rw[List.getElem?_map,List.getElem?_eq_getElem hil];rfl
  have gQ:∀{m:Nat},m=L[i]->((l++z).map Zd)[m]?=some (Zd q):=fun e=>by subst e;rw[hq,List.getElem?_map,List.getElem?_append_left hk,List.getElem?_eq_getElem hk];rfl
  have hto:(V.take (i+1))=V.take i++ [Z5N A cl x q]:=by rw[List.take_succ_eq_append_getElem (by omega),hVq]
  have sS:=Z1p A l.length lim ll none cl x q.s hcn hA4 hnd (fun h=>hqA _ (by unfold Zv Zx;simp[h])) hcl hx;have sO:=Z1p A l.length lim ll none cl x q.o hcn hA4 hnd (fun h=>hqA _ (by unfold Zv Zx;simp[h])) hcl hx;have sG:=Z1p A l.length lim ll none cl x q.g hcn hA4 hnd (fun h=>hqA _ (by unfold Zv Zx;simp[h])) hcl hx;generalize V.take i=W at hti hto⊢;clear hVi hV;repeat'((first|(show DRAWN _ _ _ _ _ _ _;first|refine DRAWN.of (id:=5) Z0 mixed ZdH (by kernel_rfl) ?_)|refine ADD.mk (fun _ _=>?_)|refine AD ?_|refine FORK.mk ?_ ?_|(refine GET.at (gX (by omega)) ?_;conv=>whnf)|(refine GET.at (gL (by omega)) ?_;conv=>whnf)|(refine GET.at (gQ (by omega)) ?_;conv=>whnf)|refine AU ?_|(refine IW ?_ ?_<;>intro h<;>try(exfalso;omega)))<;>conv=>whnf)
  have hview:Z5N A cl x q=⟨Xh A cl x q.s,q.p,Xh A cl x q.o,Xh A cl x q.g⟩:=by unfold Z5N;rw[Z1o hqp]
  repeat'((first|(show DRAWN _ _ _ _ _ _ _;first|refine DRAWN.of (id:=6) Z0 mixed ZdI (by kernel_rfl) ?_)|refine ADD.mk (fun _ _=>?_)|refine AD ?_|refine FORK.mk ?_ ?_|(refine CALL.looks [0,1,2,3,4,5] sS rfl rfl rfl rfl ⟨⟨rfl,rfl,rfl⟩,XS rfl rfl (Z0J _),XS rfl rfl (VL _),trivial⟩ ?_;conv=>whnf)|(refine CALL.looks [0,1,2,3,4,5] sO rfl rfl rfl rfl ⟨⟨rfl,rfl,rfl⟩,XS rfl rfl (Z0J _),XS rfl rfl (VL _),trivial⟩ ?_;conv=>whnf)|(refine CALL.looks [0,1,2,3,4,5] sG rfl rfl rfl rfl ⟨⟨rfl,rfl,rfl⟩,XS rfl rfl (Z0J _),XS rfl rfl (VL _),trivial⟩ ?_;conv=>whnf)|(refine NEED.mk (Zj 224 rfl rfl rfl (by simp;omega) (by omega)) ?_;conv=>whnf)|refine AU ?_|(refine IW ?_ ?_<;>intro h<;>try(exfalso;omega)))<;>conv=>whnf)
  have htk:List.take i (W.map Zd)=W.map Zd:=List.take_of_length_le (by rw[List.length_map];omega);rw[htk];refine⟨i+1,by omega,by omega,?_⟩;rw[hto,hview];conv=>whnf
  exact GOES.kA h0 [10]
 ·have hie:i=L.length:=by omega
  subst hie;have hs:=Z82 V (by omega) V.length V.length 0 (Nat.le_refl _) (by omega);rw[List.drop_zero,List.take_length,<-hsV,hVl]at hs;rw[show V.take L.length=V from List.take_of_length_le (by omega)];have hsl:(Yc A l cl x).length=L.length:=by rw[hsV,List.length_mergeSort,hVl]
  repeat'((first|(refine GET.at (gX (by omega)) ?_;conv=>whnf)|refine AU ?_|(refine IW ?_ ?_<;>intro h<;>try(exfalso;omega)))<;>conv=>whnf)
  refine CALL.aA [7] (hs) ?_;rintro r O nx (⟨g1,rfl,rfl,rfl⟩|⟨g1,rfl,rfl,rfl⟩)
  ·conv=>whnf
   repeat'((first|refine AU ?_|(refine IW ?_ ?_<;>intro h<;>try(exfalso;omega)))<;>conv=>whnf)
   have hshort:Yc A l cl x=V:=by rw[hsV];exact Z40 (by omega)
   rw[hshort]at hsl⊢;rw[hsl];exact FIN.aA h0 [7] (.sl (.loc 7) 0 16 L.length none) [(7, .rows 16 (V.map Zd))] ⟨rfl,rfl,rfl⟩
  ·conv=>whnf
   repeat'((first|refine AU ?_|(refine IW ?_ ?_<;>intro h<;>try(exfalso;omega)))<;>conv=>whnf)
   rw[hsl];exact FIN.aA h0 [8] (.sl (.loc 7) 0 16 L.length none) [(7, .rows 16 ((Yc A l cl x).map Zd))] ⟨rfl,rfl,rfl⟩
end Go.Proofs.YtlcbipfmodcedaaGreatDoor
