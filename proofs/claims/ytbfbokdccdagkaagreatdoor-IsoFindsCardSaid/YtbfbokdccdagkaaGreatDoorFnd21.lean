/- Part 21: RIso2, RIso7, RIsoEven, RIsoLook2. Conditions: as each part says. -/
import Derived.Test.YtbfbokdccdagkaaGreatDoorFnd19
import Derived.Test.YtbfbokdccdagkaaGreatDoorFnd20
set_option linter.unusedVariables false
set_option linter.unusedSimpArgs false
set_option maxRecDepth 20000
set_option maxHeartbeats 8000000
namespace Go.Proofs.YtbfbokdccdagkaaGreatDoor
open Go.Sx Go.Our
theorem ZdL{A:List LB}(h:Rise cmpL A){m i:Nat}(hm:m<A.length)(hi:i<A.length):Z6r A[m] A[i]=true<->m<i:=by
 rw[Z3o,decide_eq_true_iff];unfold Rise at h;rw[List.pairwise_iff_getElem]at h;constructor
 ·intro h1;rcases Nat.lt_trichotomy m i with h2|h2|h2
  ·exact h2
  ·subst h2;have:=triL.self A[m];omega
  ·have h3:=h i m hi hm h2;have:=triL.anti A[m] A[i];omega
 ·exact fun h1=>h m i hm hi h1
def ndsM(of:Int)(A:List LB):List Nd:=A.map fun s=>⟨of,s,0⟩
theorem Z12(of:Int)(A:List LB):(ndsM of A).length=A.length:=by simp[ndsM]
theorem ZdM{of:Int}{A:List LB}{m:Nat}(h:m< (ndsM of A).length):(ndsM of A)[m]=⟨of,A[m]'(by rw[Z12]at h;exact h),0⟩:=by simp[ndsM]
theorem ZdN(n:Nat):Z62 (List.replicate n [SV.val (.slice none 0 0)]) (inD (List.replicate n [])):=by
 refine⟨by simp[inD],fun a row' h=>?_⟩;unfold inD at h;rw[List.map_replicate]at h;obtain⟨ha,hr⟩:=List.getElem?_eq_some_iff.1 h;rw[List.length_replicate]at ha;rw[List.getElem_replicate]at hr;subst hr;refine⟨_,by rw[List.getElem?_replicate,if_pos ha],?_⟩;exact And.intro (.inr ⟨rfl,20,rfl⟩) trivial
end Go.Proofs.YtbfbokdccdagkaaGreatDoor
namespace Go.Proofs.YtbfbokdccdagkaaGreatDoor
open Go.Sx Go.Our
theorem ZiE(c:Int)(h0:0<=c):∀(F:List Int),(∀x∈F,x<c)->maxC F<=c:=by
 have:∀(F:List Int) (m:Int),(∀x∈F,x<c)->m<=c->F.foldl upC m<=c:=by
  intro F
  induction F with
  |nil=>intro m _ h;exact h
  |cons x F ih=>
   intro m h hm;have:=h x (List.mem_cons_self ..);exact ih _ (fun y hy=>h y (List.mem_cons_of_mem _ hy)) (by unfold upC;split<;>omega)
 exact fun F h=>this F 0 h h0
theorem Zhl{x:Int}:∀{F:List Int},x∈F->x<maxC F:=by
 have mono:∀(F:List Int) (m:Int),m<=F.foldl upC m:=by
  intro F
  induction F with
  |nil=>intro m;exact Int.le_refl _
  |cons y F ih=>intro m;exact Int.le_trans (by unfold upC;split<;>omega) (ih _)
 have:∀(F:List Int) (m:Int),x∈F->x<F.foldl upC m:=by
  intro F
  induction F with
  |nil=>intro m h;cases h
  |cons y F ih=>
   intro m h;rcases List.mem_cons.1 h with rfl|h
   ·exact Int.lt_of_lt_of_le (by unfold upC;split<;>omega) (mono F _)
   ·exact ih _ h
 exact fun{F} h=>this F 0 h
open Tryz
theorem ZfC{l:List Qd}{j:Nat}(h:j<l.length)(hp:¬l[j].p.k=2):gndM (l.take (j+1))=if ¬l[j].s.k=2/\¬l[j].o.k=2/\¬l[j].g.k=2 then gndM (l.take j)++ [l[j]]else gndM (l.take j):=by
 unfold gndM;rw[List.take_succ_eq_append_getElem h,List.filter_append,List.filter_cons,List.filter_nil];by_cases h1:l[j].s.k=2<;>by_cases h2:l[j].o.k=2<;>by_cases h3:l[j].g.k=2<;>simp[ZG,h1,h2,h3,hp]
theorem Z1A(l:List Qd)(hl:l.length<=1048576)(hp:∀q∈l, ¬q.p.k=2):Does prog tab 56 1 [.sl (.loc 0) 0 16 l.length none] [] [(0, .rows 16 (l.map Zj))]
 (fun r O nx=>r= .sl (.loc 1) 0 16 (gndM l).length none/\O=[(1, .rows 16 ((gndM l).map Zj))]/\nx=2):=by
 refine Does.enter Z1 call56 func56 rfl 41 rfl rfl [.tmp 2] rfl ?_;intro w0 F η0 h0;conv=>whnf
 repeat'((first|refine AU ?_|(refine IW ?_ ?_<;>intro h<;>try(exfalso;omega)))<;>conv=>whnf)
 refine LOOP.nil 3 16 rfl ?_;refine LOOP.gok Z1 [0] [] (X:=Nat×List Qd) (fun x=>x.1<=l.length/\x.2=gndM (l.take x.1)) (fun x=>[(4, .int .i64 (x.1:Int)),(3, .sl (.loc 1) 0 16 x.2.length none)]) (fun x=>[(1, .rows 16 (x.2.map Zj))]) 2 (fun x=>l.length-x.1) (0,[]) ⟨by simp,rfl⟩ ?_;conv=>whnf
 refine⟨by exact GOES.cA h0,?_⟩;rintro⟨j,G⟩ ⟨hj,hG⟩;dsimp only at hj hG⊢
 have hgl:G.length<=j:=by
  have:=List.length_filter_le (fun q=>(ZG q).all fun t=>!decide (t.k=2)) (l.take j);rw[List.length_take]at this;rw[hG];unfold gndM;omega
 conv=>whnf
 refine IF.mk (fun h=>?_) (fun h=>?_)
 ·have hlt:j<l.length:=by simp at h;omega
  have hst:=ZfC hlt (hp _ (List.getElem_mem hlt));rw[<-hG]at hst;have hgq:(l.map Zj)[j]?=some (Zj l[j]):=by rw[List.getElem?_map,List.getElem?_eq_getElem hlt];rfl
  conv=>whnf
  repeat'((first|refine CALL.value (W8 l[j]) rfl rfl ?_|(refine GET.at (row:=Zj l[j]) (by rw[Int.toNat_natCast,Nat.zero_add];exact hgq) ?_;conv=>whnf)|(refine GET.at (row:=Zu l[j].s) rfl ?_;conv=>whnf)|(refine GET.at (row:=Zu l[j].o) rfl ?_;conv=>whnf)|(refine GET.at (row:=Zu l[j].g) rfl ?_;conv=>whnf)|(refine NEED.mk (ZC 224 rfl rfl rfl (by rw[List.length_map];exact Nat.le_refl _) (by omega)) ?_;conv=>whnf)|refine AU ?_|(refine IW ?_ ?_<;>intro h<;>try(exfalso;omega)))<;>conv=>whnf)
  ·rw[if_pos ⟨h.1.1,h.1.2,h.2⟩]at hst;rw[Zdy G l[j] rfl];refine⟨(j+1,G++ [l[j]]),⟨by dsimp only;omega,hst.symm⟩,by dsimp only;omega,?_⟩;dsimp only;conv=>whnf
   exact GOES.kA h0 [4]
  ·rw[if_neg fun x=>x.2.2 (h ⟨x.1,x.2.1⟩)]at hst;refine⟨(j+1,G),⟨by dsimp only;omega,hst.symm⟩,by dsimp only;omega,?_⟩;dsimp only;conv=>whnf
   exact GOES.cA h0
 ·have hje:j=l.length:=by simp at h;omega
  subst hje;rw[List.take_length]at hG;subst hG;conv=>whnf
  repeat'((first|refine AU ?_|(refine IW ?_ ?_<;>intro h<;>try(exfalso;omega)))<;>conv=>whnf)
  exact FIN.aA h0 [1] (.sl (.loc 1) 0 16 (gndM l).length none) [(1, .rows 16 ((gndM l).map Zj))] ⟨rfl,rfl,rfl⟩
theorem Z95(left:Int)(ov:Bool)(ps zp:List Pr)(s:LB)(hp:ps.length<=67108864)(a b c d:SV):Does prog tab 83 5 [.ptr (.loc 0) 0 0 0, .str s] [] [(0, .box [a,b,c,d, .sl (.loc 4) 0 2 ps.length none, .int .i64 left, .bool ov]),(4, .rows 2 ((ps++zp).map YA))] (ValK 5 (.bool (ps.any fun p=>decide (p.2=s)))):=by
 refine Does.enter Z1 call83 func83 rfl 25 rfl rfl [.tmp 4] rfl ?_;intro w0 F η0 h0;conv=>whnf
 repeat'((first|refine AU ?_|(refine IW ?_ ?_<;>intro h<;>try(exfalso;omega)))<;>conv=>whnf)
 refine LOOP.go Z1 [0,1] (X:=Nat) (fun k=>k<=ps.length/\∀p∈ps.take k,p.2≠s) (fun k=>[(5, .int .i64 (k:Int))]) (fun k=>[]) 5 (fun k=>ps.length-k) 0 ⟨by omega,by simp⟩ ?_;conv=>whnf
 refine⟨by exact GOES.cA h0,?_⟩;rintro k ⟨hk,hn⟩;conv=>whnf
 refine IF.mk (fun h=>?_) (fun h=>?_)
 ·have hlt:k<ps.length:=by simp at h;omega
  have hgp:((ps++zp).map YA)[k]?=some (YA ps[k]):=by rw[List.getElem?_map,List.getElem?_append_left hlt,List.getElem?_eq_getElem hlt];rfl
  conv=>whnf
  repeat'((first|(refine GET.at (row:=YA ps[k]) (by rw[Nat.zero_add,Int.toNat_natCast];exact hgp) ?_;conv=>whnf)|refine AU ?_|(refine IW ?_ ?_<;>intro h<;>try(exfalso;omega)))<;>conv=>whnf)
  ·refine FIN.valueK h0 rfl (congrArg SV.bool ?_);exact(List.any_eq_true.2 ⟨ps[k],List.getElem_mem hlt,by simpa using h⟩).symm
  ·refine⟨k+1,⟨by omega,fun p hp=>?_⟩,by omega,?_⟩
   ·rw[List.take_succ_eq_append_getElem hlt]at hp;rcases List.mem_append.1 hp with hp|hp
    ·exact hn p hp
    ·rw[List.mem_singleton.1 hp];exact h
   conv=>whnf
   exact GOES.cA h0
 ·have hke:k=ps.length:=by simp at h;omega
  subst hke;rw[List.take_length]at hn;conv=>whnf
  repeat'((first|refine AU ?_|(refine IW ?_ ?_<;>intro h<;>try(exfalso;omega)))<;>conv=>whnf)
  refine FIN.valueK h0 rfl (congrArg SV.bool ?_);rw[eq_comm,List.any_eq_false];intro p hp;simpa using hn p hp
theorem Z7P(ns:List Nd)(half ni:Nat)(hn:ns.length=2*half)(hof:∀m (h:m<ns.length),ns[m].of=0<->m<half)(hc:∀n∈ns,0<=n.cls/\n.cls<67108864)(hl:ns.length<=67108864):
 Does prog tab 57 3 [.ptr (.loc 0) 0 0 0] [] [(0,rBx ns.length ni),(1, .rows 3 (ns.map Yg))] (fun r O nx=>O=[]/\nx=3/\∃b,r= .bool b/\(b=true<->Z93 (ns.map Nd.cls) half)):=by
 obtain⟨C,hC⟩:∃C,C=ns.map Nd.cls:=⟨_,rfl⟩;have hCl:C.length=ns.length:=by rw[hC,List.length_map]
 have hmx:0<=maxC C/\maxC C<=67108864:=⟨ZdK _,ZiE _ (by omega) _ fun x hx=>by rw[hC]at hx;obtain⟨n,hn,rfl⟩:=List.mem_map.1 hx;exact(hc n hn).2⟩;have hrc:=Z3W ns ni hc hl;rw[<-hC]at hrc⊢;obtain⟨c,hcc⟩:∃c:Nat,maxC C=(c:Int):=⟨(maxC C).toNat,by omega⟩;have hfr:∀x∈C,0<=x/\x< (c:Int):=fun x hx=>⟨by rw[hC]at hx;obtain⟨n,hn,rfl⟩:=List.mem_map.1 hx;exact(hc n hn).1,by rw[<-hcc];exact Zhl hx⟩;rw[hcc]at hrc hmx;refine Does.enter Z1 call57 func57 rfl 64 rfl rfl [.tmp 2] rfl ?_;intro w0 F η0 h0;conv=>whnf
 repeat'((first|refine AU ?_|(refine IW ?_ ?_<;>intro h<;>try(exfalso;omega)))<;>conv=>whnf)
 refine CALL.aA [0,1,2] (hrc) ?_;rintro r O nx ⟨rfl,rfl,rfl⟩;conv=>whnf
 repeat'((first|(refine NEED.mk (Uf 8 rfl (by omega) (by omega) (by omega) (by omega)) ?_;conv=>whnf)|refine AU ?_|(refine IW ?_ ?_<;>intro h<;>try(exfalso;omega)))<;>conv=>whnf)
 rw[show List.replicate (c:Int).toNat [SV.int .i64 0]=(dfL C half c 0).map Zi by rw[Zaj,List.map_replicate];rfl];refine LOOP.gok Z1 [0,3] [] (X:=Nat) (fun x=>x<=C.length) (fun x=>[(4, .int .i64 (x:Int))]) (fun x=>[(3, .rows 1 ((dfL C half c x).map Zi))]) 4 (fun x=>C.length-x) 0 (by omega) ?_;conv=>whnf
 refine⟨by exact GOES.cA h0,?_⟩;intro x hx;conv=>whnf
 refine IF.mk (fun h=>?_) (fun h=>?_)
 ·have hlt:x<ns.length:=by simp at h;omega
  have hltC:x<C.length:=by omega
  have hof1:=hof x hlt;have hcx:ns[x].cls=C[x]:=by subst hC;rw[List.getElem_map]
  have hfx:=hfr _ (List.getElem_mem hltC);have hgN:=ZJ (f:=Yg) hlt rfl;have hgd:((dfL C half c x).map Zi)[C[x].toNat]?=some (Zi (dfM C half x C[x].toNat)):=by rw[List.getElem?_map,Zgo (by omega)];rfl
  have hdb:=Zak C half x C[x].toNat;conv=>whnf
  repeat'((first|(refine GET.at (row:=Yg ns[x]) (by rw[Nat.zero_add,Int.toNat_natCast];exact hgN) ?_;conv=>whnf)|(rw[hcx];refine GET.at (row:=Zi (dfM C half x C[x].toNat)) (by rw[Nat.zero_add];exact hgd) ?_;conv=>whnf)|(refine GET.at (row:=Zi (dfM C half x C[x].toNat)) (by rw[Nat.zero_add];exact hgd) ?_;conv=>whnf)|refine AU ?_|(refine IW ?_ ?_<;>intro h<;>try(exfalso;omega)))<;>conv=>whnf)
  ·have hst:((dfL C half c x).map Zi).set (0+C[x].toNat) [SV.int .i64 (IntKind.i64.wrap (dfM C half x C[x].toNat+1))]=(dfL C half c (x+1)).map Zi:=by rw[VS (x:=C[x].toNat) (by omega),Z6n hltC hfx (by rw[if_pos (hof1.1 h),Z9 (by omega) (by omega)])]
   rw[hst];refine⟨x+1,by omega,by omega,?_⟩;conv=>whnf
   exact GOES.cA h0
  ·have hst:((dfL C half c x).map Zi).set (0+C[x].toNat) [SV.int .i64 (IntKind.i64.wrap (dfM C half x C[x].toNat-1))]=(dfL C half c (x+1)).map Zi:=by rw[VS (x:=C[x].toNat) (by omega),Z6n hltC hfx (by rw[if_neg fun h2=>h (hof1.2 h2),Z9 (by omega) (by omega)];omega)]
   rw[hst];refine⟨x+1,by omega,by omega,?_⟩;conv=>whnf
   exact GOES.cA h0
 ·have hxe:x=C.length:=by simp at h;omega
  subst hxe;have hev:=Zal (n:=half) hfr;have hDl:=Z94 C half c C.length;generalize dfL C half c C.length=D at hev hDl⊢;subst hDl;conv=>whnf
  repeat'((first|refine AU ?_|(refine IW ?_ ?_<;>intro h<;>try(exfalso;omega)))<;>conv=>whnf)
  refine LOOP.gok Z1 [3] [3] (X:=Nat) (fun x=>x<=D.length/\∀d∈D.take x,d=0) (fun x=>[(5, .int .i64 (x:Int))]) (fun x=>[]) 4 (fun x=>D.length-x) 0 ⟨by omega,by simp⟩ ?_;conv=>whnf
  refine⟨by exact GOES.cA h0,?_⟩;rintro k ⟨hk,hn⟩;conv=>whnf
  refine IF.mk (fun h1=>?_) (fun h1=>?_)
  ·have hlt:k<D.length:=by simp at h1;omega
   conv=>whnf
   repeat'((first|(refine GET.at (row:=Zi D[k]) (ZJ hlt (by omega)) ?_;conv=>whnf)|refine AU ?_|(refine IW ?_ ?_<;>intro h<;>try(exfalso;omega)))<;>conv=>whnf)
   ·exact FIN.val h0 rfl ⟨rfl,rfl,_,rfl,⟨fun h2=>(Bool.noConfusion h2),fun h2=>(h (hev.2 h2 _ (List.getElem_mem hlt))).elim⟩⟩
   ·refine⟨k+1,⟨by omega,fun d hd=>?_⟩,by omega,?_⟩
    ·rw[List.take_succ_eq_append_getElem hlt]at hd;rcases List.mem_append.1 hd with hd|hd
     ·exact hn d hd
     ·rw[List.mem_singleton.1 hd];exact h
    conv=>whnf
    exact GOES.cA h0
  ·have hke:k=D.length:=by simp at h1;omega
   subst hke;rw[List.take_length]at hn;conv=>whnf
   repeat'((first|refine AU ?_|(refine IW ?_ ?_<;>intro h<;>try(exfalso;omega)))<;>conv=>whnf)
   exact FIN.val h0 rfl ⟨rfl,rfl,_,rfl,⟨fun _=>hev.1 hn,fun _=>rfl⟩⟩
open Tryz
def Z1D:Plan:=(Zv [(0,1),(1,1),(2,1),(3,1),(5,1),(6,1),(7,1),(8,1),(4,2),(9,2),(10,1),(11,3),(12,0),(13,1),(14,1),(15,0)])
def nds2(a b:List Qd):List Nd:=ndsM 0 (Z0 a)++ndsM 1 (Z0 b)
theorem Xi(a b:List Qd):(nds2 a b).length=(Z0 a).length+(Z0 b).length:=by unfold nds2;rw[List.length_append,Z12,Z12]
theorem Z43{a b:List Qd}{m:Nat}(h:m< (Z0 a).length)(h':m< (nds2 a b).length):(nds2 a b)[m]=⟨0,(Z0 a)[m],0⟩:=by
 refine Eq.trans (List.getElem_append_left (by rw[Z12];exact h):(ndsM 0 (Z0 a)++ndsM 1 (Z0 b))[m]'h'=_) ?_;rw[ZdM]
theorem Z44{a b:List Qd}{m:Nat}(h:m< (Z0 b).length)(h':(Z0 a).length+m< (nds2 a b).length):(nds2 a b)[(Z0 a).length+m]=⟨1,(Z0 b)[m],0⟩:=by
 refine Eq.trans (List.getElem_append_right (by rw[Z12];omega):(ndsM 0 (Z0 a)++ndsM 1 (Z0 b))[(Z0 a).length+m]'h'=_) ?_;rw[ZdM];congr 2;rw[Z12];omega
theorem Ze3{a b:List Qd}:∀q∈a,Z6f (nds2 a b) 0 (ixF 0 (Z0 a)) ((Z0 a).length+(Z0 b).length) q:=by
 intro q hq x hx;have hx:x∈Z0 a:=(WF _ _).2 (List.mem_flatMap.2 ⟨q,hq,hx⟩);have hr:Rise cmpL (Z0 a):=YY triL _;have hlt:=List.idxOf_lt_length_of_mem hx;refine⟨(Z0 a).idxOf x,by unfold ixF;rw[if_pos hx];omega,by omega,by rw[Xi];omega,fun m hm=>?_⟩;have hm2:=hm;rw[Xi]at hm2;unfold Zff;by_cases hml:m< (Z0 a).length
 ·rw[Z43 hml hm];have h1:=ZdL hr hml hlt;rw[List.getElem_idxOf hlt]at h1;simp only[Int.lt_irrefl,false_or,true_and];exact h1
 ·obtain⟨d,rfl⟩:∃d,m=(Z0 a).length+d:=⟨m-(Z0 a).length,by omega⟩;rw[Z44 (by omega) hm];simp;omega
theorem Ze4{a b:List Qd}:∀q∈b,Z6f (nds2 a b) 1 (ixF (Z0 a).length (Z0 b)) ((Z0 a).length+(Z0 b).length) q:=by
 intro q hq x hx;have hx:x∈Z0 b:=(WF _ _).2 (List.mem_flatMap.2 ⟨q,hq,hx⟩);have hr:Rise cmpL (Z0 b):=YY triL _;have hlt:=List.idxOf_lt_length_of_mem hx;refine⟨(Z0 a).length+(Z0 b).idxOf x,by unfold ixF;rw[if_pos hx];omega,by omega,by rw[Xi];omega,fun m hm=>?_⟩;have hm2:=hm;rw[Xi]at hm2;unfold Zff;by_cases hml:m< (Z0 a).length
 ·rw[Z43 hml hm];simp;omega
 ·obtain⟨d,rfl⟩:∃d,m=(Z0 a).length+d:=⟨m-(Z0 a).length,by omega⟩;rw[Z44 (by omega) hm];have h1:=ZdL hr (m:=d) (by omega) hlt;rw[List.getElem_idxOf hlt]at h1;simp only[Int.lt_irrefl,false_or,true_and];rw[h1];omega
theorem Ze5{N:List Nd}{of:Int}{s:LB}{i n:Nat}(h:i<N.length)(hg:N[i]=⟨of,s,0⟩)(hn:n=i):List.take n ((N.take i).map Yg)++List.take 1 (List.drop 0 [[SV.int .i64 of,SV.str s, .int .i64 0]])=(N.take (i+1)).map Yg:=by
 subst hn;rw[List.take_of_length_le (by rw[List.length_map,List.length_take];omega),List.take_succ_eq_append_getElem h,List.map_append,hg];rfl
theorem Z9a(a za b zb:List Qd)(lima limb:Option Nat)(ha:DsOK a)(hb:DsOK b)(hza:(a++za).length<=1152921504606846976)(hzb:(b++zb).length<=1152921504606846976):
 Does prog tab 39 3 [.sl (.loc 0) 0 1 2 none] [] [(0, .rows 1 [[.sl (.loc 1) 0 16 a.length lima],[.sl (.loc 2) 0 16 b.length limb]]),(1, .rows 16 ((a++za).map Zj)),(2, .rows 16 ((b++zb).map Zj))]
 (fun r O nx=>r= .ptr (.loc 3) 0 0 0/\O=[(3, .box [.sl (.loc 4) 0 3 ((Z0 a).length+(Z0 b).length) none, .sl (.loc 5) 0 1 ((Z0 a).length+(Z0 b).length) none]),(4, .rows 3 ((nds2 a b).map Yg)),(5, .deep false 1 (inD (ins2 a b)))]/\nx=6):=by
 obtain⟨NS,hNS⟩:∃NS,NS=nds2 a b:=⟨_,rfl⟩;have hNl:NS.length=(Z0 a).length+(Z0 b).length:=by rw[hNS];exact Xi a b
 obtain⟨NL,hNL⟩:∃NL:Nat->Nat,NL=fun i=>if i=0 then 0 else if i=1 then(Z0 a).length else(Z0 a).length+(Z0 b).length:=⟨_,rfl⟩
 refine Does.enter Z1 call39 func39 rfl 78 rfl rfl [.tmp 2] rfl ?_;intro w0 F η0 h0;conv=>whnf
 repeat'((first|refine AU ?_|(refine IW ?_ ?_<;>intro h<;>try(exfalso;omega)))<;>conv=>whnf)
 refine LOOP.nilCell 3 0 3 rfl rfl ?_;refine LOOP.gok Z1 [0,3] [] (X:=Nat) (fun i=>i<=2) (fun i=>[(4, .int .i64 (i:Int))]) (fun i=>[(3, .box [.sl (.loc 4) 0 3 (NL i) none, .val (.slice none 0 0)]),(4, .rows 3 ((NS.take (NL i)).map Yg))]) 5 (fun i=>2-i) 0 (by omega) ?_;conv=>whnf
 refine⟨by subst hNL;exact GOES.cA h0,?_⟩;intro i hi;conv=>whnf
 refine IF.mk (fun h=>?_) (fun h=>?_)
 ·have h:i<2:=by simp at h;omega
  rcases(by omega:i=0\/i=1)with rfl|rfl
  ·skip
   have hN0:NL 0=0:=by rw[hNL];rfl
   have hN1:NL (0+1)=0+(Z0 a).length:=by rw[hNL];simp
   have hg:∀k (hk:k< (Z0 a).length),NS[0+k]'(by omega)=⟨((0:Nat):Int),(Z0 a)[k],0⟩:=fun k hk=>by subst hNS;simp only[Nat.zero_add];exact Z43 hk _
   have hfew:=ha.few;have hbl:=Vq a za lima (by unfold V6;omega) hza;have hset:setL cmpL (X4 a)=Z0 a:=rfl;have hAl:=YU ha;conv=>whnf
   repeat'((first|(refine GET.at rfl ?_;conv=>whnf)|refine AU ?_|(refine IW ?_ ?_<;>intro h<;>try(exfalso;omega)))<;>conv=>whnf)
   refine CALL.aA [1] (hbl) ?_;rintro r O nx ⟨rfl,rfl,rfl⟩;rw[hset];conv=>whnf
   repeat'((first|refine AU ?_|(refine IW ?_ ?_<;>intro h<;>try(exfalso;omega)))<;>conv=>whnf)
   refine LOOP.gok Z1 [0,3,4,5] [] (X:=Nat) (fun k=>k<=(Z0 a).length) (fun k=>[(6, .int .i64 (k:Int))]) (fun k=>[(3, .box [.sl (.loc 4) 0 3 (0+k) none, .val (.slice none 0 0)]),(5, .rows 1 ((Z0 a).map Zb)),(4, .rows 3 ((NS.take (0+k)).map Yg))]) 6 (fun k=>(Z0 a).length-k) 0 (by omega) ?_;conv=>whnf
   refine⟨by rw[hN0];exact GOES.cA h0,?_⟩;intro k hk;have htk:(NS.take (0+k)).length=0+k:=by rw[List.length_take];omega
   conv=>whnf
   refine IF.mk (fun h1=>?_) (fun h1=>?_)
   ·have hlt:k< (Z0 a).length:=by simp at h1;omega
    conv=>whnf
    repeat'((first|(show DRAWN _ _ _ _ _ _ _;first|refine DRAWN.of (id:=9) Z1 mixed Z1D (by kernel_rfl) ?_)|refine ADD.mk (fun _ _=>?_)|refine AD ?_|refine FORK.mk ?_ ?_|(refine GET.at (row:=Zb (Z0 a)[k]) (ZJ hlt (by omega)) ?_;conv=>whnf)|(refine NEED.mk (ZC 32 rfl rfl rfl (by rw[List.length_map,htk];exact Nat.le_refl _) (by omega)) ?_;conv=>whnf)|refine AU ?_|(refine IW ?_ ?_<;>intro h<;>try(exfalso;omega)))<;>conv=>whnf)
    all_goals rw[Ze5 (of:=((0:Nat):Int)) (by omega) (hg k hlt) rfl]
    all_goals refine⟨k+1,by omega,by omega,?_⟩
    all_goals conv=>whnf
    all_goals exact GOES.kA h0 [3,7,5]
   ·have hke:k=(Z0 a).length:=by simp at h1;omega
    subst hke;conv=>whnf
    repeat'((first|refine AU ?_|(refine IW ?_ ?_<;>intro h<;>try(exfalso;omega)))<;>conv=>whnf)
    refine⟨0+1,by omega,by omega,?_⟩;rw[hN1];conv=>whnf
    exact GOES.cA h0
  ·skip
   have hN0:NL 1=(Z0 a).length:=by rw[hNL];rfl
   have hN1:NL (1+1)=(Z0 a).length+(Z0 b).length:=by rw[hNL];rfl
   have hg:∀k (hk:k< (Z0 b).length),NS[(Z0 a).length+k]'(by omega)=⟨((1:Nat):Int),(Z0 b)[k],0⟩:=fun k hk=>by subst hNS;exact Z44 hk _
   have hla:=YU ha;rw[hN0];have hfew:=hb.few;have hbl:=Vq b zb limb (by unfold V6;omega) hzb;have hset:setL cmpL (X4 b)=Z0 b:=rfl;have hAl:=YU hb;conv=>whnf
   repeat'((first|(refine GET.at rfl ?_;conv=>whnf)|refine AU ?_|(refine IW ?_ ?_<;>intro h<;>try(exfalso;omega)))<;>conv=>whnf)
   refine CALL.aA [2] (hbl) ?_;rintro r O nx ⟨rfl,rfl,rfl⟩;rw[hset];conv=>whnf
   repeat'((first|refine AU ?_|(refine IW ?_ ?_<;>intro h<;>try(exfalso;omega)))<;>conv=>whnf)
   refine LOOP.gok Z1 [0,3,4,5] [] (X:=Nat) (fun k=>k<=(Z0 b).length) (fun k=>[(6, .int .i64 (k:Int))]) (fun k=>[(3, .box [.sl (.loc 4) 0 3 ((Z0 a).length+k) none, .val (.slice none 0 0)]),(5, .rows 1 ((Z0 b).map Zb)),(4, .rows 3 ((NS.take ((Z0 a).length+k)).map Yg))]) 6 (fun k=>(Z0 b).length-k) 0 (by omega) ?_;conv=>whnf
   refine⟨by skip;exact GOES.cA h0,?_⟩;intro k hk;have htk:(NS.take ((Z0 a).length+k)).length=(Z0 a).length+k:=by rw[List.length_take];omega
   conv=>whnf
   refine IF.mk (fun h1=>?_) (fun h1=>?_)
   ·have hlt:k< (Z0 b).length:=by simp at h1;omega
    conv=>whnf
    repeat'((first|(show DRAWN _ _ _ _ _ _ _;first|refine DRAWN.of (id:=9) Z1 mixed Z1D (by kernel_rfl) ?_)|refine ADD.mk (fun _ _=>?_)|refine AD ?_|refine FORK.mk ?_ ?_|(refine GET.at (row:=Zb (Z0 b)[k]) (ZJ hlt (by omega)) ?_;conv=>whnf)|(refine NEED.mk (ZC 32 rfl rfl rfl (by rw[List.length_map,htk];exact Nat.le_refl _) (by omega)) ?_;conv=>whnf)|refine AU ?_|(refine IW ?_ ?_<;>intro h<;>try(exfalso;omega)))<;>conv=>whnf)
    all_goals rw[Ze5 (of:=((1:Nat):Int)) (by omega) (hg k hlt) rfl]
    all_goals refine⟨k+1,by omega,by omega,?_⟩
    all_goals conv=>whnf
    all_goals exact GOES.kA h0 [3,7,5]
   ·have hke:k=(Z0 b).length:=by simp at h1;omega
    subst hke;conv=>whnf
    repeat'((first|refine AU ?_|(refine IW ?_ ?_<;>intro h<;>try(exfalso;omega)))<;>conv=>whnf)
    refine⟨1+1,by omega,by omega,?_⟩;rw[hN1];conv=>whnf
    exact GOES.cA h0
 ·have hie:i=2:=by simp at h;omega
  subst hie;have hN2:NL 2=(Z0 a).length+(Z0 b).length:=by rw[hNL];rfl
  have hla:=YU ha;have hlb:=YU hb;rw[hN2,List.take_of_length_le (by omega)];conv=>whnf
  repeat'((first|(refine NEED.mk (Uf 24 rfl (by omega) (by omega) (by omega) (by omega)) ?_;conv=>whnf)|refine AU ?_|(refine IW ?_ ?_<;>intro h<;>try(exfalso;omega)))<;>conv=>whnf)
  rw[Int.toNat_natCast];refine GHO.loop (GHO.deepen 5 (inD (List.replicate ((Z0 a).length+(Z0 b).length) [])) rfl (ZdN _)) ?_;obtain⟨J0,hJ0⟩:∃J0,J0=List.replicate ((Z0 a).length+(Z0 b).length) ([]:List Sd):=⟨_,rfl⟩;obtain⟨J1,hJ1⟩:∃J1,J1=a.foldl (putS (ixF 0 (Z0 a))) J0:=⟨_,rfl⟩;obtain⟨JS,hJS⟩:∃JS:Nat->List (List Sd),JS=fun i=>if i=0 then J0 else if i=1 then J1 else ins2 a b:=⟨_,rfl⟩
  have hJ0l:J0.length=(Z0 a).length+(Z0 b).length:=by rw[hJ0,List.length_replicate]
  have hJ1e:J1=V5 a++List.replicate (Z0 b).length []:=by
   rw[hJ1,hJ0,<-List.replicate_append_replicate,Ze2 fun q hq n hn=>by rw[List.length_replicate];have:=Z1z (c:=0) (by omega) a q hq n hn;omega]
   rfl
  have hJ1l:J1.length=(Z0 a).length+(Z0 b).length:=by rw[hJ1,X9,hJ0l]
  have hJ0b:∀m∈J0,m.length<=4194304:=by rw[hJ0];intro m hm;rw[List.eq_of_mem_replicate hm];simp
  have hJ1b:∀m∈J1,m.length<=4194304:=by
   rw[hJ1e];intro m hm;rcases List.mem_append.1 hm with h1|h1
   ·have:=Z42 ha m h1;omega
   ·rw[List.eq_of_mem_replicate h1];simp
  have hJ2:ins2 a b=b.foldl (putS (ixF (Z0 a).length (Z0 b))) J1:=by rw[hJ1e];rfl
  rw[<-hJ0];have hpa:=Ze3 (a:=a) (b:=b);have hpb:=Ze4 (a:=a) (b:=b);rw[<-hNS]at hpa hpb;refine LOOP.gok Z1 [0,3] [3,4] (X:=Nat) (fun i=>i<=2) (fun i=>[(7, .int .i64 (i:Int))]) (fun i=>[(5, .deep false 1 (inD (JS i)))]) 6 (fun i=>2-i) 0 (by omega) ?_;conv=>whnf
  refine⟨by subst hJS;exact GOES.cA h0,?_⟩;intro i hi;conv=>whnf
  refine IF.mk (fun h=>?_) (fun h=>?_)
  ·have h:i<2:=by simp at h;omega
   rcases(by omega:i=0\/i=1)with rfl|rfl
   ·skip
    have hs0:JS 0=J0:=by rw[hJS];rfl
    have hs1:JS (0+1)=a.foldl (putS (ixF 0 (Z0 a))) J0:=by rw[hJS];exact hJ1
    have hfew:=ha.few;have hins:∀j,((a.take j).foldl (putS (ixF 0 (Z0 a))) J0).length=(Z0 a).length+(Z0 b).length:=fun j=>by rw[X9];exact hJ0l
    rw[hs0];conv=>whnf
    refine LOOP.gok Z1 [0,3,7] [3,4] (X:=Nat) (fun j=>j<=a.length) (fun j=>[(8, .int .i64 (j:Int))]) (fun j=>[(5, .deep false 1 (inD ((a.take j).foldl (putS (ixF 0 (Z0 a))) J0)))]) 6 (fun j=>a.length-j) 0 (by omega) ?_;conv=>whnf
    refine⟨by exact GOES.cA h0,?_⟩;intro j hj;conv=>whnf
    repeat'((first|(refine GET.at rfl ?_;conv=>whnf)|refine AU ?_|(refine IW ?_ ?_<;>intro h<;>try(exfalso;omega)))<;>conv=>whnf)
    ·have hlt:j<a.length:=by omega
     have hto:=JH (putS (ixF 0 (Z0 a))) J0 a hlt;have hI:=hins j;have hbd:=V4 (f:=ixF 0 (Z0 a)) (l:=a.take j) hJ0b;rw[List.length_take]at hbd;generalize(a.take j).foldl (putS (ixF 0 (Z0 a))) J0=I at hto hI hbd⊢;have hput:=Z7G NS ((0:Nat):Int) (ixF 0 (Z0 a)) a[j] I (by rw[hI];exact hpa _ (List.getElem_mem hlt)) (by omega) (fun x hx=>by have:=hbd x hx;omega) (by omega);rw[hI,hNl]at hput;repeat'((first|(refine GET.at rfl ?_;conv=>whnf)|(refine GET.at (row:=Zj a[j]) (Zdx hlt (by omega)) ?_;conv=>whnf)|refine AU ?_|(refine IW ?_ ?_<;>intro h<;>try(exfalso;omega)))<;>conv=>whnf)
     refine CALL.aA [3,4,5] (hput) ?_;rintro r O nx ⟨rfl,rfl,rfl⟩;conv=>whnf
     repeat'((first|refine AU ?_|(refine IW ?_ ?_<;>intro h<;>try(exfalso;omega)))<;>conv=>whnf)
     refine⟨j+1,by omega,by omega,?_⟩;rw[hto];conv=>whnf
     exact GOES.cA h0
    ·have hje:j=a.length:=by omega
     subst hje;rw[List.take_length];repeat'((first|refine AU ?_|(refine IW ?_ ?_<;>intro h<;>try(exfalso;omega)))<;>conv=>whnf)
     refine⟨0+1,by omega,by omega,?_⟩;rw[hs1];conv=>whnf
     exact GOES.cA h0
   ·skip
    have hs0:JS 1=J1:=by rw[hJS];rfl
    have hs1:JS (1+1)=b.foldl (putS (ixF (Z0 a).length (Z0 b))) J1:=by rw[hJS];exact hJ2
    have hfew:=hb.few;have hins:∀j,((b.take j).foldl (putS (ixF (Z0 a).length (Z0 b))) J1).length=(Z0 a).length+(Z0 b).length:=fun j=>by rw[X9];exact hJ1l
    rw[hs0];conv=>whnf
    refine LOOP.gok Z1 [0,3,7] [3,4] (X:=Nat) (fun j=>j<=b.length) (fun j=>[(8, .int .i64 (j:Int))]) (fun j=>[(5, .deep false 1 (inD ((b.take j).foldl (putS (ixF (Z0 a).length (Z0 b))) J1)))]) 6 (fun j=>b.length-j) 0 (by omega) ?_;conv=>whnf
    refine⟨by exact GOES.cA h0,?_⟩;intro j hj;conv=>whnf
    repeat'((first|(refine GET.at rfl ?_;conv=>whnf)|refine AU ?_|(refine IW ?_ ?_<;>intro h<;>try(exfalso;omega)))<;>conv=>whnf)
    ·have hlt:j<b.length:=by omega
     have hto:=JH (putS (ixF (Z0 a).length (Z0 b))) J1 b hlt;have hI:=hins j;have hbd:=V4 (f:=ixF (Z0 a).length (Z0 b)) (l:=b.take j) hJ1b;rw[List.length_take]at hbd;generalize(b.take j).foldl (putS (ixF (Z0 a).length (Z0 b))) J1=I at hto hI hbd⊢;have hput:=Z7G NS ((1:Nat):Int) (ixF (Z0 a).length (Z0 b)) b[j] I (by rw[hI];exact hpb _ (List.getElem_mem hlt)) (by omega) (fun x hx=>by have:=hbd x hx;omega) (by omega);rw[hI,hNl]at hput;repeat'((first|(refine GET.at rfl ?_;conv=>whnf)|(refine GET.at (row:=Zj b[j]) (Zdx hlt (by omega)) ?_;conv=>whnf)|refine AU ?_|(refine IW ?_ ?_<;>intro h<;>try(exfalso;omega)))<;>conv=>whnf)
     refine CALL.aA [3,4,5] (hput) ?_;rintro r O nx ⟨rfl,rfl,rfl⟩;conv=>whnf
     repeat'((first|refine AU ?_|(refine IW ?_ ?_<;>intro h<;>try(exfalso;omega)))<;>conv=>whnf)
     refine⟨j+1,by omega,by omega,?_⟩;rw[hto];conv=>whnf
     exact GOES.cA h0
    ·have hje:j=b.length:=by omega
     subst hje;rw[List.take_length];repeat'((first|refine AU ?_|(refine IW ?_ ?_<;>intro h<;>try(exfalso;omega)))<;>conv=>whnf)
     refine⟨1+1,by omega,by omega,?_⟩;rw[hs1];conv=>whnf
     exact GOES.cA h0
  ·have hie:i=2:=by simp at h;omega
   subst hie;have hs2:JS 2=ins2 a b:=by rw[hJS];rfl
   rw[hs2,hNS];conv=>whnf
   repeat'((first|refine AU ?_|(refine IW ?_ ?_<;>intro h<;>try(exfalso;omega)))<;>conv=>whnf)
   exact FIN.aA h0 [3,4,5] (.ptr (.loc 3) 0 0 0) [(3, .box [.sl (.loc 4) 0 3 ((Z0 a).length+(Z0 b).length) none, .sl (.loc 5) 0 1 ((Z0 a).length+(Z0 b).length) none]),(4, .rows 3 ((nds2 a b).map Yg)),(5, .deep false 1 (inD (ins2 a b)))] ⟨rfl,rfl,rfl⟩
end Go.Proofs.YtbfbokdccdagkaaGreatDoor
