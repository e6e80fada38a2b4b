/- Part 17: Apart1, IsoPut, IsoLook. Conditions: as each part says. -/
import Derived.Test.YtbfbokdccdagkaaGreatDoorUnm12
import Derived.Test.YtbfbokdccdagkaaGreatDoorUnm16
set_option linter.unusedVariables false
set_option linter.unusedSimpArgs false
set_option maxRecDepth 20000
set_option maxHeartbeats 8000000
namespace Go.Proofs.YtbfbokdccdagkaaGreatDoor
open Go.Sx Go.Our
open Tryz
def X6(a b:List Qd):Int:=if(XD a).2≠0 then(XD a).2 else(XD b).2
theorem VA(a za b zb:List Qd)(limA limB:Option Nat)(ha:a.length<=1152921504606846976)(hb:b.length<=1152921504606846976)(qa:W2 a)(qb:W2 b):Does prog tab 43 2 [.sl (.loc 0) 0 16 a.length limA, .sl (.loc 1) 0 16 b.length limB] [] [(0, .rows 16 ((a++za).map Zl)),(1, .rows 16 ((b++zb).map Zl))] (ValK 2 (.int .i64 (X6 a b))):=by
 have h1:=Z2v a za limA ha qa;have h2:=Z2v b zb limB hb qb;refine Does.enter Z1 call43 func43 rfl 23 rfl rfl [.tmp 4] rfl ?_;intro w0 F η0 h0;conv=>whnf
 refine CALL.aA [0] (h1) ?_;rintro r O nx ⟨rfl,rfl,rfl⟩;conv=>whnf
 repeat'((first|refine AU ?_|(refine IW ?_ ?_<;>intro h<;>try(exfalso;omega)))<;>conv=>whnf)
 ·exact FIN.valueK h0 rfl (congrArg (SV.int _) (if_pos h).symm)
 refine CALL.aA [1] (h2) ?_;rintro r O nx ⟨rfl,rfl,rfl⟩;conv=>whnf
 repeat'((first|refine AU ?_|(refine IW ?_ ?_<;>intro h<;>try(exfalso;omega)))<;>conv=>whnf)
 exact FIN.valueK h0 rfl (congrArg (SV.int _) (if_neg (by simpa using h)).symm)
abbrev Z0(l:List Qd):List LB:=setL cmpL (ZD l)
def ApQ(a b:List Qd)(r:SV)(O:Hps)(nx:Nat):Prop:=
 (X6 a b≠0/\r= .tup [.val (.slice none 0 0), .int .i64 (X6 a b)]/\O=[]/\nx=2)\/
 (X6 a b=0/\((Z5F (Z0 a) (Z0 b)=none/\r= .tup [.val (.slice none 0 0), .int .i64 2]/\O=[]/\nx=2)\/
   ∃ps,Z5F (Z0 a) (Z0 b)=some ps/\r= .tup [.sl (.loc 2) 0 2 ps.length none, .int .i64 0]/\O=[(2, .rows 2 (ps.map XC))]/\nx=3))
theorem Zfi{l:List Qd}(hq:W2 l):∀x∈Z0 l,x.length<=1152921504606846976:=by
 intro x hx;obtain⟨q,hq',hx⟩:=List.mem_flatMap.1 ((J8 _ _).1 hx);obtain⟨h1,h2,h3,h4⟩:=hq q hq'
 have key:∀t:Tm,TmSm t->x∈Ym t->x.length<=1152921504606846976:=fun t ht h=>by
  unfold Ym at h;split at h
  ·rw[List.mem_singleton.1 h];have:=ht.1;unfold Sm at this;omega
  ·cases h
 unfold YA at hx;simp only[List.mem_append]at hx;rcases hx with((hx|hx)|hx)|hx
 ·exact key _ h1 hx
 ·exact key _ h2 hx
 ·exact key _ h3 hx
 ·exact key _ h4 hx
abbrev numT(m:List (LB×Int)):List (List SV):=VV KT intV m
theorem Zbp(m:List (LB×Int)):Zn (numT m)=true:=Z6Y KT _ (fun _=>rfl) m
instance {m:List (LB×Int)}:Pl (numT m):=⟨Zbp m⟩
theorem Z3M{x:LB}{v:Int}{m:List (LB×Int)}:setM (false,[CK.str]) (flKey (SV.str x)) (SV.int .i64 v) (numT m)=numT (setA x v m):=ZaH KT intV x v m
theorem Z2w{x:LB}{v:Int}{m:List (LB×Int)}:setM (false,[CK.str]) (flKey (SV.str x)) (XX (.int .i64 v)) (numT m)=numT (setA x v m):=ZaH KT intV x v m
def Yn(v:Int)(l:List LB)(m:List (LB×Int)):List (LB×Int):=l.foldl (fun m x=>setA x v m) m
theorem Z0c(v:Int)(z:LB):∀(l:List LB) (m:List (LB×Int)),getA z (Yn v l m)=if z∈l then some v else getA z m
 | [],m=>by simp[Yn]
 |x::l,m=>by
  unfold Yn;rw[List.foldl_cons];have:=Z0c v z l (setA x v m);unfold Yn at this;rw[this,JR];by_cases h:z∈l
  ·simp[h]
  ·by_cases e:z=x
   ·simp[e]
   ·simp[h,e]
theorem Z7l{v:Int}{l:List LB}{m:List (LB×Int)}{i:Nat}(h:i<l.length):Yn v (l.take (i+1)) m=setA l[i] v (Yn v (l.take i) m):=by
 unfold Yn;rw[List.take_succ_eq_append_getElem h,List.foldl_append];rfl
def Z0d(A:List LB)(l:List LB)(m:List (LB×Int)):List (LB×Int):=l.foldl (fun m x=>if x∈A then m else setA x 1 m) m
theorem Z4K(A:List LB)(z:LB):∀(l:List LB) (m:List (LB×Int)),getA z (Z0d A l m)=if z∈l/\z∉A then some 1 else getA z m
 | [],m=>by simp[Z0d]
 |x::l,m=>by
  unfold Z0d;rw[List.foldl_cons];have:=Z4K A z l (if x∈A then m else setA x 1 m);unfold Z0d at this;rw[this];by_cases h:z∈l/\z∉A
  ·simp[h]
  ·rw[if_neg h];by_cases e:z=x
   ·subst e;by_cases hA:z∈A
    ·simp[hA]
    ·simp[hA,JR]
   ·have e2:¬((z∈x::l)/\z∉A):=fun h2=>h ⟨(List.mem_cons.1 h2.1).resolve_left e,h2.2⟩;rw[if_neg e2];split
    ·rfl
    ·rw[JR,if_neg e]
theorem Zbq{A l:List LB}{m:List (LB×Int)}{i:Nat}(h:i<l.length):Z0d A (l.take (i+1)) m=if l[i]∈A then Z0d A (l.take i) m else setA l[i] 1 (Z0d A (l.take i) m):=by
 unfold Z0d;rw[List.take_succ_eq_append_getElem h,List.foldl_append];rfl
theorem Zbr{l z:List LB}{i k:Nat}(h:i<l.length)(e:k=i):((l++z).map Z3)[k]?=some (Z3 l[i]):=by
 subst e;rw[List.getElem?_map,List.getElem?_append_left h,List.getElem?_eq_getElem h];rfl
set_option maxHeartbeats 16000000 in
theorem Z9m(a za b zb:List Qd)(limA limB:Option Nat)(ha:Xf a)(hb:Xf b)(qa:W2 a)(qb:W2 b)(hza:(a++za).length<=1152921504606846976)(hzb:(b++zb).length<=1152921504606846976):Does prog tab 17 2 [.sl (.loc 0) 0 16 a.length limA, .sl (.loc 1) 0 16 b.length limB] [] [(0, .rows 16 ((a++za).map Zl)),(1, .rows 16 ((b++zb).map Zl))] (ApQ a b):=by
 have hv:=VA a za b zb limA limB (by unfold Xf at ha;omega) (by unfold Xf at hb;omega) qa qb;have hA:=Yd a za limA ha hza;have hB:=Yd b zb limB hb hzb;refine Does.enter Z1 call17 func17 rfl 79 rfl rfl [.tmp 4, .tmp 5] rfl ?_;intro w0 F η0 h0;conv=>whnf
 repeat'((first|refine AU ?_|(refine IW ?_ ?_<;>intro h<;>try(exfalso;omega)))<;>conv=>whnf)
 refine CALL.aA [0,1] (hv) ?_;rintro r O nx ⟨rfl,rfl,rfl⟩;conv=>whnf
 repeat'((first|refine AU ?_|(refine IW ?_ ?_<;>intro h<;>try(exfalso;omega)))<;>conv=>whnf)
 ·refine FIN.aA h0 [] (.tup [.val (.slice none 0 0), .int .i64 (X6 a b)]) [] ?_;exact .inl ⟨h,rfl,rfl,rfl⟩
 have hv0:=h;refine CALL.aA [0] (hA) ?_;rintro r O nx ⟨j,hj,rfl,rfl,rfl⟩;conv=>whnf
 have hAl:=JA (c:=cmpL) (ZD a);have hBl:=JA (c:=cmpL) (ZD b);have hAl2:(ZD a).length<=a.length*4:=Xz _ Ys _;have hBl2:(ZD b).length<=b.length*4:=Xz _ Ys _;unfold Xf at ha hb;obtain⟨A,hAd⟩:∃A,A=Z0 a:=⟨_,rfl⟩;obtain⟨B,hBd⟩:∃B,B=Z0 b:=⟨_,rfl⟩;unfold Z0 at hAd hBd;rw[<-hAd]at hAl;rw[<-hBd]at hB hBl;rw[<-hAd];repeat'((first|refine AU ?_|(refine IW ?_ ?_<;>intro h<;>try(exfalso;omega)))<;>conv=>whnf)
 refine LOOP.gok Z1 [1,7,8,25,26] [] (X:=Nat) (fun i=>i<=A.length) (fun i=>[(27, .int .i64 (i:Int))]) (fun i=>[(2, .mp (numT (Yn 2 (A.take i) []))),(3, .rows 1 ((A++List.replicate j []).map Z3))]) 4 (fun i=>A.length-i) 0 (by omega) ?_;conv=>whnf
 refine⟨by exact GOES.kA h0 [2,3],?_⟩;intro i hi;conv=>whnf
 by_cases hil:i<A.length
 ·have hs:=Z7l (v:=2) (m:=[]) hil;repeat'((first|(refine GET.at (row:=Z3 A[i]) (Zbr hil (by omega)) ?_;conv=>whnf)|(refine NEED.mk ⟨KT.ok _,YK KT _ _⟩ ?_;conv=>whnf)|refine AU ?_|(refine IW ?_ ?_<;>intro h<;>try(exfalso;omega)))<;>conv=>whnf)
  first|rw[Z3M,<-hs]|rw[Z2w,<-hs]
  refine⟨i+1,by omega,by omega,?_⟩;conv=>whnf
  exact GOES.kA h0 [2,3]
 have hie:i=A.length:=by omega
 subst hie;rw[List.take_length];repeat'((first|refine AU ?_|(refine IW ?_ ?_<;>intro h<;>try(exfalso;omega)))<;>conv=>whnf)
 refine CALL.aA [1] (hB) ?_;rintro r O nx ⟨j2,hj2,rfl,rfl,rfl⟩;conv=>whnf
 repeat'((first|refine AU ?_|(refine IW ?_ ?_<;>intro h<;>try(exfalso;omega)))<;>conv=>whnf)
 refine LOOP.nil 8 1 rfl ?_;have hol:∀i,(ownB A (B.take i)).length<=(B.take i).length:=fun i=>List.length_filter_le _ _;refine LOOP.gok Z1 [7,35,36] [] (X:=Nat) (fun i=>i<=B.length) (fun i=>[(37, .int .i64 (i:Int)),(8, .sl (.loc 5) 0 1 (ownB A (B.take i)).length none)]) (fun i=>[(2, .mp (numT (Z0d A (B.take i) (Yn 2 A [])))),(4, .rows 1 ((B++List.replicate j2 []).map Z3)),(5, .rows 1 ((ownB A (B.take i)).map Z3))]) 6 (fun i=>B.length-i) 0 (by omega) ?_;conv=>whnf
 refine⟨by rw[List.take_zero,show ownB A []=[]from rfl,show Z0d A [] (Yn 2 A [])=Yn 2 A []from rfl];exact GOES.kA h0 [2,3,4,5],?_⟩;intro i hi;have hoi:=hol i;rw[List.length_take]at hoi;conv=>whnf
 by_cases hil:i<B.length
 ·have hs:=Zbq (A:=A) (m:=Yn 2 A []) hil;have ho:=Z5G (A:=A) hil;have hg:getA B[i] (Z0d A (B.take i) (Yn 2 A []))=if B[i]∈B.take i/\B[i]∉A then some 1 else if B[i]∈A then some 2 else none:=by rw[Z4K,Z0c];rfl
  repeat'((first|(refine GET.at (row:=Z3 B[i]) (Zbr hil (by omega)) ?_;conv=>whnf)|(refine NEED.mk ⟨KT.ok _,YK KT _ _⟩ ?_;conv=>whnf)|(refine FIND.A KT intV B[i] _ (fun _ _ hf=>?_) (fun hf=>?_);conv=>whnf)|(refine NEED.mk (Yc 16 rfl rfl (by simp) (by simp) (by omega)) ?_;conv=>whnf)|refine AU ?_|(refine IW ?_ ?_<;>intro h<;>try(exfalso;omega)))<;>conv=>whnf)
  ·have hm:B[i]∈A:=by
    have:=(Ji hf).symm.trans hg;by_cases e:B[i]∈A
    ·exact e
    · (repeat' split at this)<;>simp_all
   rw[if_pos hm]at hs ho;refine⟨i+1,by omega,by omega,?_⟩;rw[hs,ho];conv=>whnf
   exact GOES.kA h0 [2,3,4,7]
  all_goals
   have hm:B[i]∉A:=fun e=>by
    first
     |(have:=(Ji hf).symm.trans hg;simp[e]at this;exact h this)
     |(have:=(Z16 hf).symm.trans hg;simp[e]at this)
   rw[if_neg hm]at hs ho
   first|rw[Z3M,<-hs]|rw[Z2w,<-hs]
   refine⟨i+1,by omega,by omega,?_⟩;rw[ho];conv=>whnf
   exact GOES.kA h0 [2,3,4,5]
 have hie:i=B.length:=by omega
 subst hie;rw[List.take_length]at hoi⊢;repeat'((first|refine AU ?_|(refine IW ?_ ?_<;>intro h<;>try(exfalso;omega)))<;>conv=>whnf)
 refine LOOP.nil 13 2 rfl ?_;have hgA:∀z,getA z (Z0d A B (Yn 2 A []))=if z∈B/\z∉A then some 1 else if z∈A then some 2 else none:=fun z=>by rw[Z4K,Z0c];rfl
 have hap:Z5F A B=Ww (ownB A B) (A++B) []:=rfl;have hsm:∀x∈ownB A B,x.length<=1152921504606846976:=fun x hx=>Zfi qb x (by unfold Z0;rw[<-hBd];exact(List.mem_filter.1 hx).1);generalize Z0d A B (Yn 2 A [])=M0 at*;generalize ownB A B=own at*;refine LOOP.gok Z1 [7,52,53] [] (X:=Nat×(List LB×(List Pr×List (LB×Int)))) (fun x=>x.1<=own.length/\Ww (own.drop x.1) x.2.1 x.2.2.1=Z5F A B/\(∀z,z∈x.2.1<->∃v,getA z x.2.2.2=some v)/\(∀z v,getA z x.2.2.2=some v->0<v)/\x.2.1.length=A.length+B.length+x.1/\x.2.2.1.length=x.1) (fun x=>[(54, .int .i64 (x.1:Int)),(13, .sl (.loc 6) 0 2 x.2.2.1.length none)]) (fun x=>[(2, .mp (numT x.2.2.2)),(5, .rows 1 (own.map Z3)),(6, .rows 2 (x.2.2.1.map XC))]) 7 (fun x=>own.length-x.1) (0,(A++B,([],M0))) ⟨by simp,hap.symm,fun z=>?_,fun z v hz=>?_,by simp,rfl⟩ ?_
 ·dsimp only;rw[hgA,List.mem_append];by_cases e:z∈A<;>by_cases e2:z∈B<;>simp[e,e2]
 ·dsimp only at hz;rw[hgA]at hz
  (repeat' split at hz)<;>first|(injection hz with hz;omega)|cases hz
 conv=>whnf
 refine⟨by exact GOES.kA h0 [2,3,4,5,6],?_⟩;rintro⟨i,U,ps,m⟩ ⟨hi,hp,hU,hpos,hUl,hpl⟩;dsimp only at hi hp hU hpos hUl hpl⊢;conv=>whnf
 by_cases hil:i<own.length
 ·have gi:(own.map Z3)[0+(i:Int).toNat]?=some (Z3 own[i]):=by
   rw[show 0+(i:Int).toNat=i by omega,List.getElem?_map,List.getElem?_eq_getElem hil];rfl
  have hst:=Z8X (U:=U) (ps:=ps) hil;rw[hp]at hst;have hsl:=hsm own[i] (List.getElem_mem _);repeat'((first|(refine GET.at gi ?_;conv=>whnf)|(refine NEED.mk (by show _+1<=_;omega) ?_;conv=>whnf)|refine AU ?_|(refine IW ?_ ?_<;>intro h<;>try(exfalso;omega)))<;>conv=>whnf)
  refine LOOP.gok Z1 [7,13,15,52,53,54] [2,5,6] (X:=Nat) (fun j=> ∀k,k<j->xsL (own[i]++ [120]) k∈U) (fun j=>[(16, .str (xsL (own[i]++ [120]) j))]) (fun j=>[]) 7 (fun j=>U.length-j) 0 (fun k hk=>by omega) ?_;conv=>whnf
  refine⟨by rw[Z71];exact GOES.kA h0 [2,3,4,5,6],?_⟩;intro j hj;have hjl:=Z4m hj;have hxl:=ZaI (own[i]++ [120]) j;rw[List.length_append]at hxl;simp only[List.length_cons,List.length_nil]at hxl;conv=>whnf
  repeat'((first|(refine NEED.mk ⟨KT.ok _,YK KT _ _⟩ ?_;conv=>whnf)|(refine NEED.mk (by show _+1<=_;omega) ?_;conv=>whnf)|(refine FIND.A KT intV (xsL (own[i]++ [120]) j) _ (fun _ _ hf=>?_) (fun hf=>?_);conv=>whnf)|(refine NEED.mk (Yc 32 rfl rfl (by simp) (by simp) (by omega)) ?_;conv=>whnf)|refine AU ?_|(refine IW ?_ ?_<;>intro h<;>try(exfalso;omega)))<;>conv=>whnf)
  ·have hj2:∀k,k<j+1->xsL (own[i]++ [120]) k∈U:=fun k hk=>by
    rcases Nat.lt_or_eq_of_le (Nat.le_of_lt_succ hk)with h1|rfl
    ·exact hj k h1
    ·exact(hU _).2 ⟨_,Ji hf⟩
   have:=Z4m hj2;refine⟨j+1,hj2,by omega,?_⟩;rw[Z72];conv=>whnf
   exact GOES.kA h0 [2,3,4,5,6]
  ·have:=hpos _ _ (Ji hf);omega
  ·have:=hpos _ _ (Ji hf);omega
  all_goals
   have hnU:xsL (own[i]++ [120]) j∉U:=fun hm=>by
    obtain⟨v,hv⟩:=(hU _).1 hm;rw[Z16 hf]at hv;cases hv
   rw[ZaK hj hnU]at hst
  ·rw[if_pos (by omega)]at hst;refine FIN.aA h0 [] (.tup [.val (.slice none 0 0), .int .i64 2]) [] ?_;exact .inr ⟨hv0, .inl ⟨by unfold Z0;rw[<-hAd,<-hBd];exact hst,rfl,rfl,rfl⟩⟩
  ·rw[if_neg (by omega)]at hst;rw[Z2w];refine⟨(i+1,(U++ [xsL (own[i]++ [120]) j],(ps++ [(own[i],xsL (own[i]++ [120]) j)],setA (xsL (own[i]++ [120]) j) 1 m))),⟨by dsimp only;omega,hst.symm,fun z=>?_,fun z v hz=>?_,by simp;omega,by simp;omega⟩,by dsimp only;omega,?_⟩
   ·dsimp only;rw[List.mem_append,List.mem_singleton,hU,JR];by_cases e:z=xsL (own[i]++ [120]) j
    ·rw[if_pos e];simp[e]
    ·rw[if_neg e];simp[e]
   ·dsimp only at hz;rw[JR]at hz;split at hz
    ·injection hz with hz;omega
    ·exact hpos z v hz
   ·dsimp only;conv=>whnf
    exact GOES.kA h0 [2,3,4,5,8]
 ·have hie:i=own.length:=by omega
  subst hie;rw[ZaL]at hp;repeat'((first|refine AU ?_|(refine IW ?_ ?_<;>intro h<;>try(exfalso;omega)))<;>conv=>whnf)
  refine FIN.aA h0 [6] (.tup [.sl (.loc 2) 0 2 ps.length none, .int .i64 0]) [(2, .rows 2 (ps.map XC))] ?_;exact .inr ⟨hv0, .inr ⟨ps,by unfold Z0;rw[<-hAd,<-hBd];exact hp.symm,rfl,rfl,rfl⟩⟩
end Go.Proofs.YtbfbokdccdagkaaGreatDoor
namespace Go.Proofs.YtbfbokdccdagkaaGreatDoor
open Go.Sx Go.Our
open Tryz
def Zbs:Plan:=(.take 0 1 (.take 1 1 (.take 2 1 (.take 4 1 (.take 5 1 (.take 6 1 (.take 7 1 (.take 9 1 (.take 8 2 (.take 10 1 (.take 11 2 (.take 12 2 (.fork 3 3 13 3 (ZU [(13,3),(14,0),(15,1),(16,0)]) (.fork 3 3 14 0 (ZU [(14,0),(15,1),(16,0)]) (ZU [(3,2),(15,1),(16,0)])))))))))))))))
theorem Z9n{η:Env}{es:Nat}{rs:List (List SV)}{v:Value}(h:Den η (.arr es rs) v):Den η (.agg rs.flatten) v:=by
 simp only[Den]at h⊢;obtain⟨vs,h1,h2,h3⟩:=h;exact⟨vs,h1,Xj h2,h3⟩
theorem Z6d(q:Qd):Does prog tab 53 0 [.agg (Zl q)] [] [] (Val (.agg (Zl q))):=by
 refine Does.enter Z1 call53 func53 rfl 12 rfl rfl [.cell 2 93] rfl ?_;intro w0 F η0 h0;conv=>whnf
 repeat'((first|refine AU ?_|(refine IW ?_ ?_<;>intro h<;>try(exfalso;omega)))<;>conv=>whnf)
 exact FIN.weak (fun η w v H hd=>⟨η,List.prefix_rfl,H,Z9n hd⟩) (FIN.value h0 rfl rfl)
def Zo(n:Int):List SV:=[.int .i64 n]
instance :PlF Zo:=⟨fun _=>rfl⟩
theorem Jj{l:List Int}{i:Nat}(h:i<l.length):(l.map Zo)[i]?=some (Zo l[i]):=by rw[List.getElem?_map,List.getElem?_eq_getElem h];rfl
theorem Y8(l:List Int)(x:Int)(hl:l.length<=1152921504606846976):Does prog tab 92 1 [.sl (.loc 0) 0 1 l.length none, .int .i64 x] [] [(0, .rows 1 (l.map Zo))] (ValK 1 (.bool (decide (x∈l)))):=by
 have hix:Does prog tab 124 1 [.sl (.loc 0) 0 1 l.length none, .int .i64 x] [] [(0, .rows 1 (l.map Zo))] (fun r O nx=>O=[]/\nx=1/\∃k:Int,r= .int .i64 k/\(0<=k<->x∈l)):=by
  refine Does.enter Z1 call124 func124 rfl 19 rfl rfl [.tmp 4] rfl ?_;intro w0 F η0 h0;conv=>whnf
  repeat'((first|refine AU ?_|(refine IW ?_ ?_<;>intro h<;>try(exfalso;omega)))<;>conv=>whnf)
  refine LOOP.go Z1 [0,1,7] (X:=Nat) (fun c=>c<=l.length/\x∉l.take c) (fun c=>[(8, .int .i64 (c:Int))]) (fun c=>[]) 1 (fun c=>l.length-c) 0 ⟨by omega,by simp⟩ ?_;conv=>whnf
  refine⟨by exact GOES.cA h0,?_⟩;rintro c ⟨hc,hn⟩;conv=>whnf
  refine IF.mk (fun h=>?_) (fun h=>?_)
  ·have hlt:c<l.length:=by simp at h;omega
   conv=>whnf
   repeat'((first|(refine GET.at (row:=Zo l[c]) (by rw[Int.toNat_natCast,Nat.zero_add];exact Jj hlt) ?_;conv=>whnf)|refine AU ?_|(refine IW ?_ ?_<;>intro h<;>try(exfalso;omega)))<;>conv=>whnf)
   ·exact FIN.val h0 rfl ⟨rfl,rfl,_,rfl,by simp;rw[h];exact List.getElem_mem _⟩
   ·refine⟨c+1,⟨by omega,fun hm=>?_⟩,by omega,?_⟩
    ·rw[List.take_succ_eq_append_getElem hlt]at hm;rcases List.mem_append.1 hm with hm|hm
     ·exact hn hm
     ·exact h (List.mem_singleton.1 hm)
    conv=>whnf
    exact GOES.cA h0
  ·have h:c=l.length:=by simp at h;omega
   subst h;rw[List.take_length]at hn;repeat'((first|refine AU ?_|(refine IW ?_ ?_<;>intro h<;>try(exfalso;omega)))<;>conv=>whnf)
   exact FIN.val h0 rfl ⟨rfl,rfl,_,rfl,by simp[hn]⟩
 refine Does.enter Z1 call92 func92 rfl 9 rfl rfl [.tmp 4] rfl ?_;intro w0 F η0 h0;conv=>whnf
 repeat'((first|refine AU ?_|(refine IW ?_ ?_<;>intro h<;>try(exfalso;omega)))<;>conv=>whnf)
 refine CALL.aA [0] (hix) ?_;rintro r O nx ⟨rfl,rfl,k,rfl,hk⟩;conv=>whnf
 repeat'((first|refine AU ?_|(refine IW ?_ ?_<;>intro h<;>try(exfalso;omega)))<;>conv=>whnf)
 refine FIN.valueK h0 rfl (congrArg SV.bool ?_);by_cases hm:x∈l
 ·rw[decide_eq_true hm,decide_eq_true (hk.2 hm)]
 ·rw[decide_eq_false hm,decide_eq_false fun h=>hm (hk.1 h)]
def fA(m:List (LB×Int))(x:LB):Int:=(getA x m).getD 0
def Zhk(q:Qd)(a b c d:Int):List SV:=[.int .i64 q.s.k, .str q.s.t, .str q.s.y, .str q.s.l, .int .i64 q.p.k, .str q.p.t, .str q.p.y, .str q.p.l, .int .i64 q.o.k, .str q.o.t, .str q.o.y, .str q.o.l, .int .i64 q.g.k, .str q.g.t, .str q.g.y, .str q.g.l, .int .i64 a, .int .i64 b, .int .i64 c, .int .i64 d]
def ownK(f:LB->Int)(q:Qd)(k:Nat):List Int:=((Zw q).take k).foldl (ownT f) []
def wBox(nl n ng:Nat):Hp:= .box [.sl (.loc 3) 0 1 nl none, .val (.slice none 0 0), .sl (.loc 1) 0 1 n none, .sl (.loc 4) 0 1 ng none, .int .i64 0]
theorem Z1d(f:LB->Int)(q:Qd){k:Nat}(t:Tm)(h:(Zw q)[k]?=some t):ownK f q (k+1)=ownT f (ownK f q k) t:=by
 have hl:=(List.getElem?_eq_some_iff.1 h).1;unfold ownK;rw[Jp _ _ _ hl];congr 1;exact(List.getElem?_eq_some_iff.1 h).2
theorem Zdk(f:LB->Int)(q:Qd){k:Nat}(h:k<=4):(ownK f q k).length<=4:=by
 have step:∀acc t,(ownT f acc t).length<=acc.length+1:=fun acc t=>by
  unfold ownT;split
  ·split<;>simp
  ·simp
 have:∀(l:List Tm) (acc:List Int),(l.foldl (ownT f) acc).length<=acc.length+l.length:=by
  intro l
  induction l with
  |nil=>intro acc;simp
  |cons t l ih=>intro acc;have:=ih (ownT f acc t);have:=step acc t;simp only[List.foldl_cons,List.length_cons];omega
 have h2:=this ((Zw q).take k) [];rw[List.length_take]at h2;simp only[List.length_nil]at h2;unfold ownK;omega
structure PX where
 k:Nat
 a:Int
 b:Int
 c:Int
 d:Int
 own:List Int
structure PInv(f:LB->Int)(q:Qd)(x:PX):Prop where
 k:x.k<=4
 a:0<x.k->x.a=numM f q.s
 b:1<x.k->x.b=numM f q.p
 c:2<x.k->x.c=numM f q.o
 d:3<x.k->x.d=numM f q.g
 own:x.own=ownK f q x.k
theorem Z8j{f:LB->Int}{acc:List Int}{t:Tm}(h:¬t.k=2):ownT f acc t=acc:=by unfold ownT;rw[if_neg h]
theorem Z0L{f:LB->Int}{acc:List Int}{t:Tm}(h:t.k=2)(hm:f t.t∈acc):ownT f acc t=acc:=by unfold ownT;rw[if_pos h,if_pos hm]
theorem Z0M{f:LB->Int}{acc:List Int}{t:Tm}(h:t.k=2)(hm:f t.t∉acc):ownT f acc t=acc++ [f t.t]:=by unfold ownT;rw[if_pos h,if_neg hm]
theorem Z0N{f:LB->Int}{t:Tm}(h:t.k=2):numM f t=f t.t:=by unfold numM;rw[if_pos h]
theorem Z8k{f:LB->Int}{t:Tm}(h:¬t.k=2):numM f t= -1:=by unfold numM;rw[if_neg h]
theorem Z4L{m:List (LB×Int)}{x:LB}{i:Nat}{v:Int}(h:ixA x m=some (i,v)):fA m x=v:=by unfold fA;rw[Ji h];rfl
theorem Z4M{m:List (LB×Int)}{x:LB}(h:ixA x m=none):fA m x=0:=by unfold fA;rw[Z16 h];rfl
theorem Z0O(l:List Int)(v:Int){n:Nat}(hn:n=l.length):List.take n (l.map Zo)++List.take 1 (List.drop 0 [[SV.int .i64 v]])=(l++ [v]).map Zo:=by
 subst hn;rw[List.take_of_length_le (by simp)];simp[Zo]
theorem Z9o{N:Nat}{s:Sd}{I:List (List Sd)}{n:Int}(h:∀l∈I,l.length<=N):∀l∈putN s I n,l.length<=N+1:=by
 intro l hl;unfold putN at hl;obtain⟨i,hi,rfl⟩:=List.mem_iff_getElem.1 hl;rw[List.getElem_modify];have hi':i<I.length:=by simpa using hi
 have:=h _ (List.getElem_mem hi');split
 ·simp only[List.length_append,List.length_singleton];omega
 ·omega
theorem Z0e{s:Sd}:∀{L:List Int} {N:Nat} {I:List (List Sd)},(∀l∈I,l.length<=N)->∀l∈L.foldl (putN s) I,l.length<=N+L.length
 | [],N,I,h=>h
 |n::L,N,I,h=>fun l hl=>by
  have:=Z0e (L:=L) (Z9o (s:=s) (n:=n) h) l hl;simp only[List.length_cons];omega
theorem Z6e{rs:List (List DC)}{r:Nat}{d:DC}{sv:SV}(h:rs[r]?=some [d]):Z2O (setC rs r 0 (.v sv)) r 0=some (r, .v sv):=by
 unfold Z2O;rw[ZR,if_pos rfl,h];rfl
theorem Zdl{I:List (List Sd)}{n:Int}{s:Sd}{sv:SV}{rows:List (List SV)}{k i:Nat}(hn:n.toNat<I.length)(hi:i=n.toNat)(hr:rows.take k=(I[n.toNat]++ [s]).map VW):
 ((setC (inD I) n.toNat 0 (.v sv)).modify i fun row=>row.set 0 (.kid 20 (rows.take k)))=inD (putN s I n):=by
 subst hi;show setC _ _ _ _=_
 rw[setC_setC,hr];apply List.ext_getElem?;intro a;rw[ZR];unfold inD putN;simp only[List.getElem?_map,List.getElem?_modify];by_cases ha:a=n.toNat
 ·subst ha;rw[if_pos rfl,List.getElem?_eq_getElem hn];simp[ZaM]
 ·rw[if_neg ha];cases I[a]?<;>simp[Ne.symm ha]
theorem Z4N(q:Qd)(m:List (LB×Int))(ins:List (List Sd))(nl ng n:Nat)(hn:n=ins.length)(hin:Wx ins.length (ownM (fA m) q))(hl:∀l∈ins,l.length<=67108864)(hil:ins.length<=67108864):
 Does prog tab 67 5 [.ptr (.loc 0) 0 0 0, .agg (Zl q), .mp (.loc 2)] [(0,wBox nl n ng),(1, .deep false 1 (inD ins))] [(2, .mp (numT m))]
 (fun r O nx=>r= .bool (decide (0< (ownM (fA m) q).length))/\O=[(0,wBox nl n ng),(1, .deep false 1 (inD (putS (fA m) ins q)))]/\nx=5):=by
 subst hn;refine Does.enter Z1 call67 func67 rfl 76 rfl rfl [.tmp 6] rfl ?_;intro w0 F η0 h0;conv=>whnf
 repeat'((first|refine CALL.value (Z6d q) rfl rfl ?_|refine AU ?_|(refine IW ?_ ?_<;>intro h<;>try(exfalso;omega)))<;>conv=>whnf)
 refine LOOP.nil 8 1 rfl ?_;refine LOOP.gok Z1 [0,2,7,17] [0,1,5] (X:=PX) (PInv (fA m) q) (fun x=>[(18, .int .i64 (x.k:Int)),(8, .sl (.loc 7) 0 1 x.own.length none)]) (fun x=>[(6, .box (Zhk q x.a x.b x.c x.d)),(7, .rows 1 (x.own.map Zo))]) 8 (fun x=>4-x.k) ⟨0,0,0,0,0,[]⟩ ⟨by simp,by simp,by simp,by simp,by simp,rfl⟩ ?_;conv=>whnf
 refine⟨by exact GOES.cA h0,?_⟩;rintro⟨k,a,b,c,d,own⟩ ⟨hk4,ha,hb,hc,hd,ho⟩;dsimp only at hk4 ha hb hc hd ho⊢;conv=>whnf
 refine IF.mk (fun h=>?_) (fun h=>?_)
 ·have hlt:k<4:=by simp at h;omega
  have hol:=Zdk (fA m) q hk4;rw[<-ho]at hol;have hkk:k=0\/k=1\/k=2\/k=3:=by omega
  rcases hkk with rfl|rfl|rfl|rfl
  ·have hst:=Z1d (fA m) q (k:=0) q.s rfl;conv=>whnf
   repeat'((first|refine AU ?_|(refine IW ?_ ?_<;>intro h<;>try(exfalso;omega)))<;>conv=>whnf)
   ·have h2:=h;refine NEED.mk ⟨KT.ok _,YK KT intV _⟩ ?_;refine FIND.A KT intV q.s.t m (fun i v hf=>?_) (fun hf=>?_)
    ·have hv:=Z4L hf;have hn:v=numM (fA m) q.s:=by rw[Z0N h2,hv]
     conv=>whnf
     repeat'((first|refine AU ?_|(refine IW ?_ ?_<;>intro h<;>try(exfalso;omega)))<;>conv=>whnf)
     refine CALL.aA [7] (Y8 own v (by omega)) ?_;rintro r O nx ⟨rfl,rfl,rfl⟩;conv=>whnf
     repeat'((first|refine AU ?_|(refine IW ?_ ?_<;>intro h<;>try(exfalso;omega)))<;>conv=>whnf)
     ·rw[Z0O own _ rfl];refine⟨⟨0+1,v,b,c,d,own++ [v]⟩,⟨by dsimp only;omega,fun _=>hn,fun h=>by simp at h,fun h=>by simp at h,fun h=>by simp at h,by dsimp only;rw[hst,Z0M h2 (by rw[hv,<-ho];exact h),ho,hv]⟩,by dsimp only;omega,?_⟩;conv=>whnf
      exact GOES.kA h0 [5,6,10]
     ·refine⟨⟨0+1,v,b,c,d,own⟩,⟨by dsimp only;omega,fun _=>hn,fun h=>by simp at h,fun h=>by simp at h,fun h=>by simp at h,by dsimp only;rw[hst,Z0L h2 (by rw[hv,<-ho];exact h),ho]⟩,by dsimp only;omega,?_⟩;conv=>whnf
      exact GOES.cA h0
    ·have hv:=Z4M hf;have hn:0=numM (fA m) q.s:=by rw[Z0N h2,hv]
     conv=>whnf
     repeat'((first|refine AU ?_|(refine IW ?_ ?_<;>intro h<;>try(exfalso;omega)))<;>conv=>whnf)
     refine CALL.aA [7] (Y8 own 0 (by omega)) ?_;rintro r O nx ⟨rfl,rfl,rfl⟩;conv=>whnf
     repeat'((first|refine AU ?_|(refine IW ?_ ?_<;>intro h<;>try(exfalso;omega)))<;>conv=>whnf)
     ·rw[Z0O own _ rfl];refine⟨⟨0+1,0,b,c,d,own++ [0]⟩,⟨by dsimp only;omega,fun _=>hn,fun h=>by simp at h,fun h=>by simp at h,fun h=>by simp at h,by dsimp only;rw[hst,Z0M h2 (by rw[hv,<-ho];exact h),ho,hv]⟩,by dsimp only;omega,?_⟩;conv=>whnf
      exact GOES.kA h0 [5,6,10]
     ·refine⟨⟨0+1,0,b,c,d,own⟩,⟨by dsimp only;omega,fun _=>hn,fun h=>by simp at h,fun h=>by simp at h,fun h=>by simp at h,by dsimp only;rw[hst,Z0L h2 (by rw[hv,<-ho];exact h),ho]⟩,by dsimp only;omega,?_⟩;conv=>whnf
      exact GOES.cA h0
   ·refine⟨⟨0+1,-1,b,c,d,own⟩,⟨by dsimp only;omega,fun _=>(Z8k h).symm,fun h=>by simp at h,fun h=>by simp at h,fun h=>by simp at h,by dsimp only;rw[hst,Z8j h];exact ho⟩,by dsimp only;omega,?_⟩;conv=>whnf
    exact GOES.cA h0
  ·have hst:=Z1d (fA m) q (k:=1) q.p rfl;conv=>whnf
   repeat'((first|refine AU ?_|(refine IW ?_ ?_<;>intro h<;>try(exfalso;omega)))<;>conv=>whnf)
   ·have h2:=h;refine NEED.mk ⟨KT.ok _,YK KT intV _⟩ ?_;refine FIND.A KT intV q.p.t m (fun i v hf=>?_) (fun hf=>?_)
    ·have hv:=Z4L hf;have hn:v=numM (fA m) q.p:=by rw[Z0N h2,hv]
     conv=>whnf
     repeat'((first|refine AU ?_|(refine IW ?_ ?_<;>intro h<;>try(exfalso;omega)))<;>conv=>whnf)
     refine CALL.aA [7] (Y8 own v (by omega)) ?_;rintro r O nx ⟨rfl,rfl,rfl⟩;conv=>whnf
     repeat'((first|refine AU ?_|(refine IW ?_ ?_<;>intro h<;>try(exfalso;omega)))<;>conv=>whnf)
     ·rw[Z0O own _ rfl];refine⟨⟨1+1,a,v,c,d,own++ [v]⟩,⟨by dsimp only;omega,fun _=>ha (by omega),fun _=>hn,fun h=>by simp at h,fun h=>by simp at h,by dsimp only;rw[hst,Z0M h2 (by rw[hv,<-ho];exact h),ho,hv]⟩,by dsimp only;omega,?_⟩;conv=>whnf
      exact GOES.kA h0 [5,6,10]
     ·refine⟨⟨1+1,a,v,c,d,own⟩,⟨by dsimp only;omega,fun _=>ha (by omega),fun _=>hn,fun h=>by simp at h,fun h=>by simp at h,by dsimp only;rw[hst,Z0L h2 (by rw[hv,<-ho];exact h),ho]⟩,by dsimp only;omega,?_⟩;conv=>whnf
      exact GOES.cA h0
    ·have hv:=Z4M hf;have hn:0=numM (fA m) q.p:=by rw[Z0N h2,hv]
     conv=>whnf
     repeat'((first|refine AU ?_|(refine IW ?_ ?_<;>intro h<;>try(exfalso;omega)))<;>conv=>whnf)
     refine CALL.aA [7] (Y8 own 0 (by omega)) ?_;rintro r O nx ⟨rfl,rfl,rfl⟩;conv=>whnf
     repeat'((first|refine AU ?_|(refine IW ?_ ?_<;>intro h<;>try(exfalso;omega)))<;>conv=>whnf)
     ·rw[Z0O own _ rfl];refine⟨⟨1+1,a,0,c,d,own++ [0]⟩,⟨by dsimp only;omega,fun _=>ha (by omega),fun _=>hn,fun h=>by simp at h,fun h=>by simp at h,by dsimp only;rw[hst,Z0M h2 (by rw[hv,<-ho];exact h),ho,hv]⟩,by dsimp only;omega,?_⟩;conv=>whnf
      exact GOES.kA h0 [5,6,10]
     ·refine⟨⟨1+1,a,0,c,d,own⟩,⟨by dsimp only;omega,fun _=>ha (by omega),fun _=>hn,fun h=>by simp at h,fun h=>by simp at h,by dsimp only;rw[hst,Z0L h2 (by rw[hv,<-ho];exact h),ho]⟩,by dsimp only;omega,?_⟩;conv=>whnf
      exact GOES.cA h0
   ·refine⟨⟨1+1,a,-1,c,d,own⟩,⟨by dsimp only;omega,fun _=>ha (by omega),fun _=>(Z8k h).symm,fun h=>by simp at h,fun h=>by simp at h,by dsimp only;rw[hst,Z8j h];exact ho⟩,by dsimp only;omega,?_⟩;conv=>whnf
    exact GOES.cA h0
  ·have hst:=Z1d (fA m) q (k:=2) q.o rfl;conv=>whnf
   repeat'((first|refine AU ?_|(refine IW ?_ ?_<;>intro h<;>try(exfalso;omega)))<;>conv=>whnf)
   ·have h2:=h;refine NEED.mk ⟨KT.ok _,YK KT intV _⟩ ?_;refine FIND.A KT intV q.o.t m (fun i v hf=>?_) (fun hf=>?_)
    ·have hv:=Z4L hf;have hn:v=numM (fA m) q.o:=by rw[Z0N h2,hv]
     conv=>whnf
     repeat'((first|refine AU ?_|(refine IW ?_ ?_<;>intro h<;>try(exfalso;omega)))<;>conv=>whnf)
     refine CALL.aA [7] (Y8 own v (by omega)) ?_;rintro r O nx ⟨rfl,rfl,rfl⟩;conv=>whnf
     repeat'((first|refine AU ?_|(refine IW ?_ ?_<;>intro h<;>try(exfalso;omega)))<;>conv=>whnf)
     ·rw[Z0O own _ rfl];refine⟨⟨2+1,a,b,v,d,own++ [v]⟩,⟨by dsimp only;omega,fun _=>ha (by omega),fun _=>hb (by omega),fun _=>hn,fun h=>by simp at h,by dsimp only;rw[hst,Z0M h2 (by rw[hv,<-ho];exact h),ho,hv]⟩,by dsimp only;omega,?_⟩;conv=>whnf
      exact GOES.kA h0 [5,6,10]
     ·refine⟨⟨2+1,a,b,v,d,own⟩,⟨by dsimp only;omega,fun _=>ha (by omega),fun _=>hb (by omega),fun _=>hn,fun h=>by simp at h,by dsimp only;rw[hst,Z0L h2 (by rw[hv,<-ho];exact h),ho]⟩,by dsimp only;omega,?_⟩;conv=>whnf
      exact GOES.cA h0
    ·have hv:=Z4M hf;have hn:0=numM (fA m) q.o:=by rw[Z0N h2,hv]
     conv=>whnf
     repeat'((first|refine AU ?_|(refine IW ?_ ?_<;>intro h<;>try(exfalso;omega)))<;>conv=>whnf)
     refine CALL.aA [7] (Y8 own 0 (by omega)) ?_;rintro r O nx ⟨rfl,rfl,rfl⟩;conv=>whnf
     repeat'((first|refine AU ?_|(refine IW ?_ ?_<;>intro h<;>try(exfalso;omega)))<;>conv=>whnf)
     ·rw[Z0O own _ rfl];refine⟨⟨2+1,a,b,0,d,own++ [0]⟩,⟨by dsimp only;omega,fun _=>ha (by omega),fun _=>hb (by omega),fun _=>hn,fun h=>by simp at h,by dsimp only;rw[hst,Z0M h2 (by rw[hv,<-ho];exact h),ho,hv]⟩,by dsimp only;omega,?_⟩;conv=>whnf
      exact GOES.kA h0 [5,6,10]
     ·refine⟨⟨2+1,a,b,0,d,own⟩,⟨by dsimp only;omega,fun _=>ha (by omega),fun _=>hb (by omega),fun _=>hn,fun h=>by simp at h,by dsimp only;rw[hst,Z0L h2 (by rw[hv,<-ho];exact h),ho]⟩,by dsimp only;omega,?_⟩;conv=>whnf
      exact GOES.cA h0
   ·refine⟨⟨2+1,a,b,-1,d,own⟩,⟨by dsimp only;omega,fun _=>ha (by omega),fun _=>hb (by omega),fun _=>(Z8k h).symm,fun h=>by simp at h,by dsimp only;rw[hst,Z8j h];exact ho⟩,by dsimp only;omega,?_⟩;conv=>whnf
    exact GOES.cA h0
  ·have hst:=Z1d (fA m) q (k:=3) q.g rfl;conv=>whnf
   repeat'((first|refine AU ?_|(refine IW ?_ ?_<;>intro h<;>try(exfalso;omega)))<;>conv=>whnf)
   ·have h2:=h;refine NEED.mk ⟨KT.ok _,YK KT intV _⟩ ?_;refine FIND.A KT intV q.g.t m (fun i v hf=>?_) (fun hf=>?_)
    ·have hv:=Z4L hf;have hn:v=numM (fA m) q.g:=by rw[Z0N h2,hv]
     conv=>whnf
     repeat'((first|refine AU ?_|(refine IW ?_ ?_<;>intro h<;>try(exfalso;omega)))<;>conv=>whnf)
     refine CALL.aA [7] (Y8 own v (by omega)) ?_;rintro r O nx ⟨rfl,rfl,rfl⟩;conv=>whnf
     repeat'((first|refine AU ?_|(refine IW ?_ ?_<;>intro h<;>try(exfalso;omega)))<;>conv=>whnf)
     ·rw[Z0O own _ rfl];refine⟨⟨3+1,a,b,c,v,own++ [v]⟩,⟨by dsimp only;omega,fun _=>ha (by omega),fun _=>hb (by omega),fun _=>hc (by omega),fun _=>hn,by dsimp only;rw[hst,Z0M h2 (by rw[hv,<-ho];exact h),ho,hv]⟩,by dsimp only;omega,?_⟩;conv=>whnf
      exact GOES.kA h0 [5,6,10]
     ·refine⟨⟨3+1,a,b,c,v,own⟩,⟨by dsimp only;omega,fun _=>ha (by omega),fun _=>hb (by omega),fun _=>hc (by omega),fun _=>hn,by dsimp only;rw[hst,Z0L h2 (by rw[hv,<-ho];exact h),ho]⟩,by dsimp only;omega,?_⟩;conv=>whnf
      exact GOES.cA h0
    ·have hv:=Z4M hf;have hn:0=numM (fA m) q.g:=by rw[Z0N h2,hv]
     conv=>whnf
     repeat'((first|refine AU ?_|(refine IW ?_ ?_<;>intro h<;>try(exfalso;omega)))<;>conv=>whnf)
     refine CALL.aA [7] (Y8 own 0 (by omega)) ?_;rintro r O nx ⟨rfl,rfl,rfl⟩;conv=>whnf
     repeat'((first|refine AU ?_|(refine IW ?_ ?_<;>intro h<;>try(exfalso;omega)))<;>conv=>whnf)
     ·rw[Z0O own _ rfl];refine⟨⟨3+1,a,b,c,0,own++ [0]⟩,⟨by dsimp only;omega,fun _=>ha (by omega),fun _=>hb (by omega),fun _=>hc (by omega),fun _=>hn,by dsimp only;rw[hst,Z0M h2 (by rw[hv,<-ho];exact h),ho,hv]⟩,by dsimp only;omega,?_⟩;conv=>whnf
      exact GOES.kA h0 [5,6,10]
     ·refine⟨⟨3+1,a,b,c,0,own⟩,⟨by dsimp only;omega,fun _=>ha (by omega),fun _=>hb (by omega),fun _=>hc (by omega),fun _=>hn,by dsimp only;rw[hst,Z0L h2 (by rw[hv,<-ho];exact h),ho]⟩,by dsimp only;omega,?_⟩;conv=>whnf
      exact GOES.cA h0
   ·refine⟨⟨3+1,a,b,c,-1,own⟩,⟨by dsimp only;omega,fun _=>ha (by omega),fun _=>hb (by omega),fun _=>hc (by omega),fun _=>(Z8k h).symm,by dsimp only;rw[hst,Z8j h];exact ho⟩,by dsimp only;omega,?_⟩;conv=>whnf
    exact GOES.cA h0
 ·have hk:k=4:=by simp at h;omega
  subst hk;have ha:=ha (by omega);have hb:=hb (by omega);have hc:=hc (by omega);have hd:=hd (by omega);subst ha hb hc hd;have hol:=ZaO (fA m) q;have hoe:own=ownM (fA m) q:=ho;rw[show putS (fA m) ins q=own.foldl (putN (sdM (fA m) q)) ins by rw[hoe];rfl,<-hoe];rw[<-hoe]at hin hol;clear hoe ho hk4 h;conv=>whnf
  repeat'((first|refine AU ?_|(refine IW ?_ ?_<;>intro h<;>try(exfalso;omega)))<;>conv=>whnf)
  refine LOOP.gok Z1 [0,7,8,50,51] [0,6,7] (X:=Nat) (fun j=>j<=own.length) (fun j=>[(52, .int .i64 (j:Int))]) (fun j=>[(1, .deep false 1 (inD ((own.take j).foldl (putN (sdM (fA m) q)) ins)))]) 8 (fun j=>own.length-j) 0 (by omega) ?_;conv=>whnf
  refine⟨by exact GOES.cA h0,?_⟩;rintro j hj;conv=>whnf
  refine IF.mk (fun h=>?_) (fun h=>?_)
  ·have hlt:j<own.length:=by simp at h;omega
   obtain⟨hn0,hn1⟩:=hin _ (List.getElem_mem hlt);have hlen:=Z17 (sdM (fA m) q) (own.take j) ins;have hbd:=Z0e (s:=sdM (fA m) q) (L:=own.take j) hl;rw[List.length_take]at hbd;have hto:=Jp (putN (sdM (fA m) q)) ins own hlt;generalize(own.take j).foldl (putN (sdM (fA m) q)) ins=I at hlen hto hbd;have hg:=Jj hlt;generalize own[j]=n at hn0 hn1 hto hg;conv=>whnf
   repeat'((first|(refine GET.at (row:=Zo n) (by rw[Int.toNat_natCast,Nat.zero_add];exact hg) ?_;conv=>whnf)|refine AU ?_|(refine IW ?_ ?_<;>intro h<;>try(exfalso;omega)))<;>conv=>whnf)
   have hnl:n.toNat<I.length:=by omega
   have hIn:(List.map VW I[n.toNat]).length<=67108868:=by
    rw[List.length_map];have:=hbd _ (List.getElem_mem hnl);omega
   refine GHO.drawn (GHO.take 1 n.toNat 0 rfl (Z3z hnl) rfl) ?_;repeat'((first|(show DRAWN _ _ _ _ _ _ _;first|refine DRAWN.of (id:=15) Z1 mixed Zbs (by kernel_rfl) ?_)|refine ADD.mk (fun _ _=>?_)|refine AD ?_|refine FORK.mk ?_ ?_|(refine GET.at (by rw[Nat.zero_add];exact Z6c (Z3z hnl)) ?_;conv=>whnf)|(refine FINDD.at (by rw[Nat.zero_add];exact Z6e (Z3z hnl)) ?_;conv=>whnf)|refine AU ?_|(refine IW ?_ ?_<;>intro h<;>try(exfalso;omega)))<;>conv=>whnf)
   all_goals rw[Zdl hnl (Nat.zero_add _) (s:=sdM (fA m) q) (by rw[List.take_of_length_le (by simp),List.take_of_length_le (by simp)];simp[VW,sdM])]
   all_goals refine⟨j+1,by omega,by omega,?_⟩
   all_goals rw[hto]
   all_goals (conv=>whnf)
   all_goals exact GOES.cA h0
  ·have hj:j=own.length:=by simp at h;omega
   subst hj;rw[List.take_length];conv=>whnf
   repeat'((first|refine AU ?_|(refine IW ?_ ?_<;>intro h<;>try(exfalso;omega)))<;>conv=>whnf)
   refine FIN.aA h0 [] (.bool (decide ((0:Int)< (own.length:Int)))) [(0,wBox nl ins.length ng),(1, .deep false 1 (inD (own.foldl (putN (sdM (fA m) q)) ins)))] ⟨?_,rfl,rfl⟩;exact congrArg SV.bool (by simp)
open Tryz
def Jk(b:Int)(A:List LB):Nat->List (LB×Int)
 |0=>[]
 |i+1=>match A[i]? with
  |some x=>setA x (b+i) (Jk b A i)
  |none=>Jk b A i
theorem JW{b:Int}{A:List LB}{i:Nat}(h:i<A.length):Jk b A (i+1)=setA A[i] (b+i) (Jk b A i):=by
 rw[Jk,List.getElem?_eq_getElem h]
theorem Z4T{b:Int}{A:List LB}(hn:A.Nodup):∀(n:Nat) (x:LB),n<=A.length->getA x (Jk b A n)=if h:A.idxOf x<n then some (b+(A.idxOf x:Nat))else none
 |0,x,_=>by simp[Jk,getA]
 |n+1,x,h=>by
  rw[JW (by omega),JR,Z4T hn n x (by omega)];have hidx:A.idxOf A[n]=n:=hn.idxOf_getElem n (by omega);by_cases e:x=A[n]
  ·subst e;rw[if_pos rfl,dif_pos (by omega),hidx]
  ·rw[if_neg e]
   have hne:A.idxOf x≠n:=fun h2=>e (by
    have hlt:A.idxOf x<A.length:=by omega
    have:=List.getElem_idxOf hlt
    rw[<-this];congr 1)
   by_cases h3:A.idxOf x<n
   ·rw[dif_pos h3,dif_pos (by omega)]
   ·rw[dif_neg h3,dif_neg (by omega)]
def ixF(b:Int)(A:List LB)(x:LB):Int:=if x∈A then b+(A.idxOf x:Nat)else 0
theorem ZbG{b:Int}{A:List LB}(hn:A.Nodup):fA (Jk b A A.length)=ixF b A:=by
 funext x;unfold fA ixF;rw[Z4T hn _ x (Nat.le_refl _)];by_cases h:x∈A
 ·rw[dif_pos (List.idxOf_lt_length_of_mem h),if_pos h];rfl
 ·rw[dif_neg (by rw[List.idxOf_lt_length_iff];exact h),if_neg h];rfl
theorem ZbH(I:List (List Sd)){n:Nat}(hn:n=I.length){T:Tab}{e:TypeId}(hT:appV T e (.val (.slice none 0 0))= .kid 20 []):(inD I).take n++List.map (fun row=>row.map (appV T e)) (List.take 1 (List.drop 0 [[XX (Value.slice none 0 0)]]))=inD (I++ [[]]):=by
 subst hn;rw[List.take_of_length_le (by simp[inD])];simp only[inD,List.map_append,List.map_cons,List.map_nil,ZaM,List.drop_zero,List.take_succ_cons,List.take_zero,XX,hT]
theorem Z4U(A:List LB){i:Nat}(h:i<A.length):List.take i ((A.take i).map Z3)++List.take 1 (List.drop 0 [[SV.str A[i]]])=(A.take (i+1)).map Z3:=by
 rw[List.take_of_length_le (by rw[List.length_map,List.length_take];omega),List.take_succ_eq_append_getElem h,List.map_append]
 rfl
theorem YU(f:LB->Int):∀(l:List Qd) (I:List (List Sd)),(l.foldl (putS f) I).length=I.length
 | [],_=>rfl
 |q::l,I=>by rw[List.foldl_cons,YU f l,Z8a]
theorem JI{f:LB->Int}:∀{l:List Qd} {N:Nat} {I:List (List Sd)},(∀x∈I,x.length<=N)->∀x∈l.foldl (putS f) I,x.length<=N+l.length*4
 | [],N,I,h=>h
 |q::l,N,I,h=>fun x hx=>by
  have h1:=Z0e (s:=sdM f q) (L:=ownM f q) h;have h2:=ZaO f q;have:=JI (f:=f) (l:=l) (N:=N+4) (I:=putS f I q) (fun y hy=>Nat.le_trans (h1 y hy) (by omega)) x hx;simp only[List.length_cons];omega
def J9(f:LB->Int)(l:List Qd):List Qd:=l.filter fun q=>decide (ownM f q=[])
theorem W3(f:LB->Int){l:List Qd}{j:Nat}(h:j<l.length):J9 f (l.take (j+1))=if ownM f l[j]=[]then J9 f (l.take j)++ [l[j]]else J9 f (l.take j):=by
 unfold J9;rw[List.take_succ_eq_append_getElem h,List.filter_append];by_cases e:ownM f l[j]=[]
 ·rw[if_pos e];simp[e]
 ·rw[if_neg e];simp[e]
theorem Zdx{l z:List Qd}{i k:Nat}(h:i<l.length)(e:k=i):((l++z).map Zl)[k]?=some (Zl l[i]):=by
 subst e;rw[List.getElem?_map,List.getElem?_append_left h,List.getElem?_eq_getElem h];rfl
theorem ZbI(G:List Qd)(q:Qd){n:Nat}(hn:n=G.length):List.take n (G.map Zl)++List.take 1 (List.drop 0 [[.int .i64 q.s.k, .str q.s.t, .str q.s.y, .str q.s.l, .int .i64 q.p.k, .str q.p.t, .str q.p.y, .str q.p.l, .int .i64 q.o.k, .str q.o.t, .str q.o.y, .str q.o.l, .int .i64 q.g.k, .str q.g.t, .str q.g.y, .str q.g.l]])=(G++ [q]).map Zl:=by
 subst hn;rw[List.take_of_length_le (by simp),List.map_append]
 rfl
theorem Z0h{l c:Int}{b:Nat}(B:Nat)(hb:Nat.ble b B=true)(h1:0<=l)(h2:l<=c)(h3:c<=9223372036854775807)(h4:B*c<=281474976710656):0<=l/\l<=c/\c<=9223372036854775807/\(b:Int)*c<=281474976710656:=
 ⟨h1,h2,h3,Int.le_trans (Int.mul_le_mul_of_nonneg_right (by exact_mod_cast Nat.le_of_ble_eq_true hb) (Int.le_trans h1 h2)) h4⟩
def ZK(l:List Qd):List (List Sd):=l.foldl (putS (ixF 0 (Z0 l))) (List.replicate (Z0 l).length [])
def wHp(k:Nat)(labs:List LB)(cls:List Int)(ins:List (List Sd))(ng:Nat)(count:Int):Hps:=
 [(k, .box [.sl (.loc (k+1)) 0 1 labs.length none, .sl (.loc (k+2)) 0 1 cls.length none, .sl (.loc (k+3)) 0 1 ins.length none, .sl (.loc (k+4)) 0 1 ng none, .int .i64 count]),(k+1, .rows 1 (labs.map Z3)),(k+2, .rows 1 (cls.map Zo)),(k+3, .deep false 1 (inD ins))]
theorem Z9t(l z:List Qd)(lim:Option Nat)(hl:Xf l)(hl2:l.length<=1048576)(hz:(l++z).length<=1152921504606846976):
 Does prog tab 36 2 [.sl (.loc 0) 0 1 1 none] [] [(0, .rows 1 [[.sl (.loc 1) 0 16 l.length lim]]),(1, .rows 16 ((l++z).map Zl))]
 (fun r O nx=>r= .ptr (.loc 2) 0 0 0/\O=wHp 2 (Z0 l) (List.replicate (Z0 l).length 0) (ZK l) 1 (if((Z0 l).length:Int)<1 then((Z0 l).length:Int)else 1)/\nx=7):=by
 have hbl:=Yd l z lim hl hz;have hAl:(Z0 l).length<=l.length*4:=Nat.le_trans (JA _) (Xz _ Ys _);have hnd:(Z0 l).Nodup:=Ye triL (Xy triL _);have hmem:∀x∈ZD l,x∈Z0 l:=fun x hx=>(J8 _ _).2 hx;refine Does.enter Z1 call36 func36 rfl 106 rfl rfl [.tmp 2] rfl ?_;intro w0 F η0 h0;conv=>whnf
 repeat'((first|refine AU ?_|(refine IW ?_ ?_<;>intro h<;>try(exfalso;omega)))<;>conv=>whnf)
 refine LOOP.once Z1 ?_;conv=>whnf
 repeat'((first|refine AU ?_|(refine IW ?_ ?_<;>intro h<;>try(exfalso;omega)))<;>conv=>whnf)
 refine CALL.aA [1] (hbl) ?_;rintro r O nx ⟨jj,hjj,rfl,rfl,rfl⟩;have hcn:Zk [1] (2+1+1) 1=4:=rfl;simp only[renO,renH,ren,renB,ZQ _ (Zr _),List.cons_append,List.nil_append,hcn];conv=>whnf
 repeat'((first|refine AU ?_|(refine IW ?_ ?_<;>intro h<;>try(exfalso;omega)))<;>conv=>whnf)
 refine LOOP.nilCell 2 0 1 rfl rfl (LOOP.nilCell 2 2 1 rfl rfl (LOOP.nilCell 2 3 1 rfl rfl (GHO.loop (GHO.deepen 6 [] rfl ⟨rfl,fun a r h=>by simp at h⟩) ?_)));have hset:setL cmpL (ZD l)=Z0 l:=rfl;rw[hset]at hjj⊢;unfold ZK;unfold Xf at hl;generalize Z0 l=A at hAl hnd hmem hjj
 refine LOOP.gok Z1 [3,5,6,7,15,16,17,28,29] [4,7] (X:=Nat) (fun i=>i<=A.length) (fun i=>[(30, .int .i64 (i:Int))])
  (fun i=>[(2, .box [.sl (.loc 5) 0 1 i none, .val (.slice none 0 0), .sl (.loc 6) 0 1 i none, .sl (.loc 7) 0 1 0 none, .int .i64 0]),(3, .mp (numT (Jk 0 A i))),(5, .rows 1 ((A.take i).map Z3)),(6, .deep false 1 (inD (List.replicate i [])))]) 8 (fun i=>A.length-i) 0 (by omega) ?_
 conv=>whnf
 refine⟨by exact GOES.cA h0,?_⟩;intro i hi;have hti:(A.take i).length=i:=by rw[List.length_take];omega
 have hri:(List.replicate i ([]:List Sd)).length=i:=List.length_replicate;conv=>whnf
 refine IF.mk (fun h=>?_) (fun h=>?_)
 ·as_aux_lemma=>
  have hlt:i<A.length:=by simp at h;omega
  have hs:=JW (b:=0) hlt;have hw:IntKind.i64.wrap (((0:Nat):Int)+(i:Int))=0+(i:Int):=by rw[Z6 (by omega) (by omega)];rfl
  conv=>whnf
  repeat'(first|(refine GET.at (row:=Z3 A[i]) (Zbr hlt (by omega)) ?_;conv=>whnf)|(refine NEED.mk ⟨KT.ok _,YK KT _ _⟩ ?_;conv=>whnf)|(rw[hw];conv=>whnf)|(refine NEED.mk (Yc 24 rfl rfl rfl (by rw[Z73,hri];exact Nat.le_refl _) (by omega)) ?_;conv=>whnf)|(refine NEED.mk (Yc 16 rfl rfl rfl (by rw[List.length_map,hti];exact Nat.le_refl _) (by omega)) ?_;conv=>whnf)|(refine AU ?_;conv=>whnf))
  rw[ZbH (List.replicate i []) hri.symm,<-List.replicate_succ',Z4U A hlt]
  rotate_left
  ·rfl
  first|rw[Z3M,<-hs]|rw[Z2w,<-hs]
  refine⟨i+1,by omega,by omega,?_⟩;conv=>whnf
  exact GOES.kA h0 [2,3,4,9,11,7]
 ·as_aux_lemma=>
  have hie:i=A.length:=by simp at h;omega
  subst hie;rw[List.take_length];conv=>whnf
  repeat'((first|refine AU ?_|(refine IW ?_ ?_<;>intro h<;>try(exfalso;omega)))<;>conv=>whnf)
  refine LOOP.nil 10 16 rfl ?_;have hfA:=ZbG (b:=0) hnd;have hins:∀j,((l.take j).foldl (putS (ixF 0 A)) (List.replicate A.length [])).length=A.length:=fun j=>by rw[YU];exact List.length_replicate
  refine LOOP.gok Z1 [3,7,15,16,17,60,61] [2,3,5,7] (X:=Nat×List Qd) (fun x=>x.1<=l.length/\x.2=J9 (ixF 0 A) (l.take x.1)) (fun x=>[(62, .int .i64 (x.1:Int)),(10, .sl (.loc 8) 0 16 x.2.length none)])
   (fun x=>[(6, .deep false 1 (inD ((l.take x.1).foldl (putS (ixF 0 A)) (List.replicate A.length [])))),(8, .rows 16 (x.2.map Zl))]) 9 (fun x=>l.length-x.1) (0,[]) ⟨by simp,rfl⟩ ?_
  conv=>whnf
  refine⟨by exact GOES.cA h0,?_⟩;rintro⟨j,G⟩ ⟨hj,hG⟩;dsimp only at hj hG⊢
  have hgl:G.length<=j:=by
   have:=List.length_filter_le (fun q=>decide (ownM (ixF 0 A) q=[])) (l.take j);rw[List.length_take]at this;rw[hG];unfold J9;omega
  conv=>whnf
  refine IF.mk (fun h=>?_) (fun h=>?_)
  ·as_aux_lemma=>
   have hlt:j<l.length:=by simp at h;omega
   have hto:=Jp (putS (ixF 0 A)) (List.replicate A.length []) l hlt;have hgt:=W3 (ixF 0 A) hlt;have hI:=hins j;have hbd:=JI (f:=ixF 0 A) (l:=l.take j) (N:=0) (I:=List.replicate A.length []) (fun x hx=>by rw[List.eq_of_mem_replicate hx];exact Nat.le_refl _);rw[List.length_take]at hbd
   have hown:Wx A.length (ownM (ixF 0 A) l[j]):=Zgj fun x hx=>by
    have hx:=hmem x (List.mem_flatMap.2 ⟨_,List.getElem_mem hlt,hx⟩);unfold ixF;rw[if_pos hx];have:=List.idxOf_lt_length_of_mem hx;omega
   generalize(l.take j).foldl (putS (ixF 0 A)) (List.replicate A.length [])=I at hto hI hbd;rw[<-hG]at hgt;have hput:=Z4N l[j] (Jk 0 A A.length) I A.length 0 A.length hI.symm (by rw[hfA,hI];exact hown) (fun x hx=>by have:=hbd x hx;omega) (by omega);rw[hfA]at hput;conv=>whnf
   repeat'((first|(refine GET.at (row:=Zl l[j]) (Zdx hlt (by omega)) ?_;conv=>whnf)|refine AU ?_|(refine IW ?_ ?_<;>intro h<;>try(exfalso;omega)))<;>conv=>whnf)
   refine CALL.aA [2,6,3,5,7] (hput) ?_;rintro r O nx ⟨rfl,rfl,rfl⟩;conv=>whnf
   repeat'((first|refine AU ?_|(refine IW ?_ ?_<;>intro h<;>try(exfalso;omega)))<;>conv=>whnf)
   ·have he:ownM (ixF 0 A) l[j]=[]:=List.length_eq_zero_iff.1 (by omega);rw[if_pos he]at hgt;rw[ZbI G l[j] rfl];refine⟨(j+1,G++ [l[j]]),⟨by dsimp only;omega,hgt.symm⟩,by dsimp only;omega,?_⟩;dsimp only;rw[hto];conv=>whnf
    exact GOES.kA h0 [2,3,4,5,6,7,11]
   ·have he:¬ownM (ixF 0 A) l[j]=[]:=fun e=>by rw[e]at h;simp at h
    rw[if_neg he]at hgt;refine⟨(j+1,G),⟨by dsimp only;omega,hgt.symm⟩,by dsimp only;omega,?_⟩;dsimp only;rw[hto];conv=>whnf
    exact GOES.cA h0
  ·as_aux_lemma=>
   have hje:j=l.length:=by simp at h;omega
   subst hje;rw[List.take_length];conv=>whnf
   repeat'((first|refine AU ?_|(refine IW ?_ ?_<;>intro h<;>try(exfalso;omega)))<;>conv=>whnf)
   refine LOOP.once Z1 ?_;conv=>whnf
   repeat'((first|(refine NEED.mk (Z0h 8 rfl (by omega) (by omega) (by omega) (by omega)) ?_;conv=>whnf)|refine AU ?_|(refine IW ?_ ?_<;>intro h<;>try(exfalso;omega)))<;>conv=>whnf)
   have hil:(l.foldl (putS (ixF 0 A)) (List.replicate A.length [])).length=A.length:=by have:=hins l.length;rw[List.take_length]at this;exact this
   rw[show List.replicate (A.length:Int).toNat [SV.int .i64 0]=(List.replicate A.length 0).map Zo by rw[List.map_replicate];rfl];refine FIN.aA h0 [2,5,11,6,10] (.ptr (.loc 2) 0 0 0) [(2, .box [.sl (.loc 3) 0 1 A.length none, .sl (.loc 4) 0 1 A.length none, .sl (.loc 5) 0 1 A.length none, .sl (.loc 6) 0 1 1 none, .int .i64 (if(A.length:Int)<1 then(A.length:Int)else 1)]),(3, .rows 1 (A.map Z3)),(4, .rows 1 ((List.replicate A.length 0).map Zo)),(5, .deep false 1 (inD (l.foldl (putS (ixF 0 A)) (List.replicate A.length []))))] ⟨rfl,?_,rfl⟩;unfold wHp;rw[hil,List.length_replicate]
end Go.Proofs.YtbfbokdccdagkaaGreatDoor
