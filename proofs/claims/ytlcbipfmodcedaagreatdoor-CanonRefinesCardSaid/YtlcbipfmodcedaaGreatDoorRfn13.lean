/- Part 13: Terms7, RTerms7. Conditions: as each part says. -/
import Derived.Test.YtlcbipfmodcedaaGreatDoorRfn12
set_option linter.unusedVariables false
set_option linter.unusedSimpArgs false
set_option maxRecDepth 20000
set_option maxHeartbeats 8000000
namespace Go.Proofs.YtlcbipfmodcedaaGreatDoor
open Go.Sx Go.Our
open Tryz
theorem Uo(q:Qd):(Zv q).length<=4:=by
 have h:∀t,(Zx t).length<=1:=fun t=>by unfold Zx;split<;>simp
 have:=h q.s;have:=h q.p;have:=h q.o;have:=h q.g;unfold Zv;simp only[List.length_append];omega
def Zb9(q:Qd):List Tm:=[q.s,q.p,q.o,q.g]
theorem Zgw(q:Qd):Zv q=(Zb9 q).flatMap Zx:=by simp[Zv,Zb9]
def WA(q:Qd)(j:Nat):List (List UInt8):=((Zb9 q).take j).flatMap Zx
theorem Zd5(q:Qd):WA q 4=Zv q:=by rw[Zgw];rfl
theorem UY(q:Qd):WA q 1=WA q 0++Zx q.s/\WA q 2=WA q 1++Zx q.p/\WA q 3=WA q 2++Zx q.o/\WA q 4=WA q 3++Zx q.g:=by simp[WA,Zb9]
theorem Vv{t:Tm}(h:t.k=2):Zx t=[t.t]:=by unfold Zx;rw[if_pos h]
theorem Vw{t:Tm}(h:¬t.k=2):Zx t=[]:=by unfold Zx;rw[if_neg h]
theorem Z7t(q:Qd)(j:Nat):(WA q j).length<=j:=by
 have h:∀t,(Zx t).length<=1:=fun t=>by unfold Zx;split<;>simp
 unfold WA
 have h2:∀(l:List Tm),(l.flatMap Zx).length<=l.length:=fun l=>by
  induction l with
  |nil=>simp
  |cons t l ih=>have:=h t;simp only[List.flatMap_cons,List.length_append,List.length_cons];omega
 have:=h2 ((Zb9 q).take j);rw[List.length_take]at this;omega
theorem Z8M(l z:List Qd)(lim:Option Nat)(hl:UF l)(hz:(l++z).length<=1152921504606846976):Does prog tab 48 1 [.sl (.loc 0) 0 16 l.length lim] [] [(0, .rows 16 ((l++z).map Zd))]
 (ZhN Z8 1 1 ([]:List UInt8) (ZR l).length (setL cmpL (ZR l))):=by
 unfold UF at hl;have hlen:∀i,((l.take i).flatMap Zv).length<=(l.take i).length*4:=fun i=>Z2p _ Uo _;unfold ZR;refine Does.enter Z0 call48 func48 rfl 37 rfl rfl [.tmp 2] rfl ?_;intro w0 F η0 h0;conv=>whnf
 refine LOOP.nil 3 1 rfl ?_;refine LOOP.go Z0 [8,9] (X:=Nat) (fun i=>i<=l.length) (fun i=>[(10, .int .i64 (i:Int)),(3, .sl (.loc 1) 0 1 ((l.take i).flatMap Zv).length none)]) (fun i=>[(1, .rows 1 (((l.take i).flatMap Zv).map Z8))]) 2 (fun i=>l.length-i) 0 (by omega) ?_;conv=>whnf
 refine⟨by exact GOES.cA h0,?_⟩;intro i hi;have hli:=hlen i;rw[List.length_take,Nat.min_eq_left hi]at hli;conv=>whnf
 by_cases hil:i<l.length
 ·have hs:=Z7s Zv hil;generalize(l.take i).flatMap Zv=out at*;repeat'((first|(refine GET.at (row:=Zd (l[i]'(by omega))) (ZfK (by omega) (by omega)) ?_;conv=>whnf)|refine AU ?_|(refine IW ?_ ?_<;>intro h<;>try(exfalso;omega)))<;>conv=>whnf)
  refine CALL.aA [2] (Zd4 (l[i]'(by omega))) ?_;rintro r O nx ⟨rfl,rfl,rfl⟩;conv=>whnf
  refine LOOP.go Z0 [8,9,10,14] (X:=Nat×List (List UInt8)) (fun x=>x.1<=4/\x.2=out++WA l[i] x.1) (fun x=>[(15, .int .i64 (x.1:Int)),(3, .sl (.loc 1) 0 1 x.2.length none)]) (fun x=>[(1, .rows 1 (x.2.map Z8)),(2, .box (Zd l[i]))]) 3 (fun x=>4-x.1) (0,out) ⟨by simp,by simp[WA]⟩ ?_;conv=>whnf
  refine⟨by exact GOES.cA h0,?_⟩;rintro⟨j,o2⟩ ⟨hj,ho2⟩;dsimp only at hj ho2⊢;have hfl:=Z7t l[i] j;have ho2l:o2.length<=i*4+j:=by rw[ho2,List.length_append];omega
  by_cases hj4:j<4
  ·obtain rfl|rfl|rfl|rfl:j=0\/j=1\/j=2\/j=3:=by omega
   ·have hst:=(UY l[i]).1;conv=>whnf
    repeat'((first|(refine NEED.mk ⟨by decide,by decide,rfl⟩ ?_;conv=>whnf)|(refine NEED.mk (Zj 16 rfl rfl rfl (by simp) (by omega)) ?_;conv=>whnf)|refine AU ?_|(refine IW ?_ ?_<;>intro h<;>try(exfalso;omega)))<;>conv=>whnf)
    ·refine⟨(1,o2++ [l[i].s.t]),⟨by simp,by dsimp only;rw[hst,Vv h,ho2,List.append_assoc]⟩,by simp,?_⟩;dsimp only;conv=>whnf
     (refine GOES.keeping h0 [4,2] rfl rfl rfl (by first|rfl|(simp only[Zl,Zg,Z2 _ (Zm _),Bool.and_self,Bool.and_true]<;>rfl)) ?_ ?_<;>(repeat'(first|(with_reducible rfl)|(exact Zp (Zm _) (Zf _ (Zm _)))|(exact Zp (Zm _) (by(simp[List.take_of_length_le,X4,Z8])))|(exact X6 rfl (by first|(simp;done)|omega|(simp;omega)))|(exact congrArg (SV.int _) (by first|omega|(simp(disch:=omega) only[lnB,Z9,Zo]<;>omega)|(simp;done)|(simp<;>omega)))|((conv=>whnf);refine⟨?_,?_⟩)|exact trivial|(simp only[ren,renB];done)|rfl)))
    ·refine⟨(1,o2),⟨by simp,by dsimp only;rw[hst,Vw h,ho2,List.append_nil]⟩,by simp,?_⟩;dsimp only;conv=>whnf
     exact GOES.cA h0
   ·have hst:=(UY l[i]).2.1;conv=>whnf
    repeat'((first|(refine NEED.mk ⟨by decide,by decide,rfl⟩ ?_;conv=>whnf)|(refine NEED.mk (Zj 16 rfl rfl rfl (by simp) (by omega)) ?_;conv=>whnf)|refine AU ?_|(refine IW ?_ ?_<;>intro h<;>try(exfalso;omega)))<;>conv=>whnf)
    ·refine⟨(2,o2++ [l[i].p.t]),⟨by simp,by dsimp only;rw[hst,Vv h,ho2,List.append_assoc]⟩,by simp,?_⟩;dsimp only;conv=>whnf
     (refine GOES.keeping h0 [4,2] rfl rfl rfl (by first|rfl|(simp only[Zl,Zg,Z2 _ (Zm _),Bool.and_self,Bool.and_true]<;>rfl)) ?_ ?_<;>(repeat'(first|(with_reducible rfl)|(exact Zp (Zm _) (Zf _ (Zm _)))|(exact Zp (Zm _) (by(simp[List.take_of_length_le,X4,Z8])))|(exact X6 rfl (by first|(simp;done)|omega|(simp;omega)))|(exact congrArg (SV.int _) (by first|omega|(simp(disch:=omega) only[lnB,Z9,Zo]<;>omega)|(simp;done)|(simp<;>omega)))|((conv=>whnf);refine⟨?_,?_⟩)|exact trivial|(simp only[ren,renB];done)|rfl)))
    ·refine⟨(2,o2),⟨by simp,by dsimp only;rw[hst,Vw h,ho2,List.append_nil]⟩,by simp,?_⟩;dsimp only;conv=>whnf
     exact GOES.cA h0
   ·have hst:=(UY l[i]).2.2.1;conv=>whnf
    repeat'((first|(refine NEED.mk ⟨by decide,by decide,rfl⟩ ?_;conv=>whnf)|(refine NEED.mk (Zj 16 rfl rfl rfl (by simp) (by omega)) ?_;conv=>whnf)|refine AU ?_|(refine IW ?_ ?_<;>intro h<;>try(exfalso;omega)))<;>conv=>whnf)
    ·refine⟨(3,o2++ [l[i].o.t]),⟨by simp,by dsimp only;rw[hst,Vv h,ho2,List.append_assoc]⟩,by simp,?_⟩;dsimp only;conv=>whnf
     (refine GOES.keeping h0 [4,2] rfl rfl rfl (by first|rfl|(simp only[Zl,Zg,Z2 _ (Zm _),Bool.and_self,Bool.and_true]<;>rfl)) ?_ ?_<;>(repeat'(first|(with_reducible rfl)|(exact Zp (Zm _) (Zf _ (Zm _)))|(exact Zp (Zm _) (by(simp[List.take_of_length_le,X4,Z8])))|(exact X6 rfl (by first|(simp;done)|omega|(simp;omega)))|(exact congrArg (SV.int _) (by first|omega|(simp(disch:=omega) only[lnB,Z9,Zo]<;>omega)|(simp;done)|(simp<;>omega)))|((conv=>whnf);refine⟨?_,?_⟩)|exact trivial|(simp only[ren,renB];done)|rfl)))
    ·refine⟨(3,o2),⟨by simp,by dsimp only;rw[hst,Vw h,ho2,List.append_nil]⟩,by simp,?_⟩;dsimp only;conv=>whnf
     exact GOES.cA h0
   ·have hst:=(UY l[i]).2.2.2;conv=>whnf
    repeat'((first|(refine NEED.mk ⟨by decide,by decide,rfl⟩ ?_;conv=>whnf)|(refine NEED.mk (Zj 16 rfl rfl rfl (by simp) (by omega)) ?_;conv=>whnf)|refine AU ?_|(refine IW ?_ ?_<;>intro h<;>try(exfalso;omega)))<;>conv=>whnf)
    ·refine⟨(4,o2++ [l[i].g.t]),⟨by simp,by dsimp only;rw[hst,Vv h,ho2,List.append_assoc]⟩,by simp,?_⟩;dsimp only;conv=>whnf
     (refine GOES.keeping h0 [4,2] rfl rfl rfl (by first|rfl|(simp only[Zl,Zg,Z2 _ (Zm _),Bool.and_self,Bool.and_true]<;>rfl)) ?_ ?_<;>(repeat'(first|(with_reducible rfl)|(exact Zp (Zm _) (Zf _ (Zm _)))|(exact Zp (Zm _) (by(simp[List.take_of_length_le,X4,Z8])))|(exact X6 rfl (by first|(simp;done)|omega|(simp;omega)))|(exact congrArg (SV.int _) (by first|omega|(simp(disch:=omega) only[lnB,Z9,Zo]<;>omega)|(simp;done)|(simp<;>omega)))|((conv=>whnf);refine⟨?_,?_⟩)|exact trivial|(simp only[ren,renB];done)|rfl)))
    ·refine⟨(4,o2),⟨by simp,by dsimp only;rw[hst,Vw h,ho2,List.append_nil]⟩,by simp,?_⟩;dsimp only;conv=>whnf
     exact GOES.cA h0
  ·obtain rfl:j=4:=by omega
   rw[Zd5]at ho2;conv=>whnf
   repeat'((first|refine AU ?_|(refine IW ?_ ?_<;>intro h<;>try(exfalso;omega)))<;>conv=>whnf)
   refine⟨i+1,by omega,by omega,?_⟩;rw[hs,<-ho2];conv=>whnf
   exact GOES.cA h0
 ·have hie:i=l.length:=by omega
  subst hie;rw[List.take_length]at hli⊢;generalize l.flatMap Zv=out at*;have hm:(out.mergeSort (leC cmpL)).length=out.length:=List.length_mergeSort out;have hcl:=Z07 (out.mergeSort (leC cmpL));have hcc:(Z5 (out.mergeSort (leC cmpL))++List.replicate ((out.mergeSort (leC cmpL)).length-(Z5 (out.mergeSort (leC cmpL))).length) ([]:List UInt8)).length*16<=140741783322624:=by rw[List.length_append,List.length_replicate];omega
  repeat'((first|refine AU ?_|(refine IW ?_ ?_<;>intro h<;>try(exfalso;omega)))<;>conv=>whnf)
  refine CALL.aA [1] (Zb7 out (by omega)) ?_;rintro r O nx ⟨rfl,rfl,rfl⟩;conv=>whnf
  rw[<-hm];refine CALL.aA [1] (Z5S (out.mergeSort (leC cmpL)) (by omega)) ?_;rintro r O nx ⟨rfl,rfl,rfl⟩;conv=>whnf
  refine CALL.aA [1] (Zb5 (Z5 (out.mergeSort (leC cmpL))++List.replicate ((out.mergeSort (leC cmpL)).length-(Z5 (out.mergeSort (leC cmpL))).length) ([]:List UInt8)) (Z5 (out.mergeSort (leC cmpL))).length (by simp) hcc) ?_;rintro r O nx ⟨rfl,rfl,rfl⟩;conv=>whnf
  refine FIN.aA h0 [1] (.sl (.loc 1) 0 1 (setL cmpL out).length (some (setL cmpL out).length)) [(1, .rows 1 ((setL cmpL out++List.replicate ((out.mergeSort (leC cmpL)).length-(Z5 (out.mergeSort (leC cmpL))).length) ([]:List UInt8)).map Z8))] ?_;exact⟨_,by unfold setL;omega,rfl,rfl,rfl⟩
end Go.Proofs.YtlcbipfmodcedaaGreatDoor
namespace Go.Proofs.YtlcbipfmodcedaaGreatDoor
open Go.Sx Go.Our
open Tryz
def YQ:Plan:=(Zu [(0,1),(1,1),(2,1),(3,1),(4,1),(6,1),(7,1),(8,1),(9,1),(10,1),(5,3),(11,3),(12,1),(13,1)])
def YR:Plan:=(Zu [(0,1),(1,1),(2,1),(3,1),(4,1),(5,1),(6,1),(7,1),(8,1),(9,1),(11,1),(12,1),(10,2),(13,2),(14,3),(15,1),(16,1),(17,1)])
def YS:Plan:=(Zu [(0,1),(1,1),(2,1),(3,1),(4,1),(5,1),(6,1),(7,1),(8,1),(9,2),(10,2),(11,1),(12,1)])
theorem Z0Q{α:Type}[DecidableEq α]{out:List α}{q:α}(h:out.length=0\/∃h0:0<out.length,out[out.length-1]'(by omega)≠q):Z24 out q=out++ [q]:=by
 unfold Z24;rcases h with h|⟨h0,h⟩
 ·have:=List.length_eq_zero_iff.1 h;subst this;rfl
 ·have hne:out≠ []:=fun e=>by subst e;simp at h0
  rw[List.getLast?_eq_some_getLast hne,List.getLast_eq_getElem];simp only;rw[if_pos h]
theorem Z2w{α:Type}[DecidableEq α]{out:List α}{q:α}(h:∃h0:0<out.length,out[out.length-1]'(by omega)=q):Z24 out q=out:=by
 obtain⟨h0,h⟩:=h;unfold Z24;have hne:out≠ []:=fun e=>by subst e;simp at h0
 rw[List.getLast?_eq_some_getLast hne,List.getLast_eq_getElem];simp only;rw[if_neg (by simpa using h)]
theorem ZbB{α:Type}[DecidableEq α]{c:α->α->Int}(out:List α):Yr c out [] []=out:=by unfold Yr;rfl
theorem Z41{α:Type}[DecidableEq α]{c:α->α->Int}{out a b:List α}(x:α)(h:b=[]\/∃y t,b=y::t/\c x y<=0):Yr c out (x::a) b=Yr c (Z24 out x) a b:=by
 rcases h with rfl|⟨y,t,rfl,h⟩
 ·conv=>lhs;unfold Yr
 ·conv=>lhs;unfold Yr
  rw[if_pos h]
theorem Z1W{α:Type}[DecidableEq α]{c:α->α->Int}{out a b:List α}(y:α)(h:a=[]\/∃x t,a=x::t/\¬c x y<=0):Yr c out a (y::b)=Yr c (Z24 out y) a b:=by
 rcases h with rfl|⟨x,t,rfl,h⟩
 ·conv=>lhs;unfold Yr
 ·conv=>lhs;unfold Yr
  rw[if_neg h]
theorem Z83{l:List Tm}:(Wy YI l).length<=l.length:=by
 rw[Z0x triT _ l (Nat.le_refl _)];exact Z5H l
theorem Y5{l:List Tm}{i k:Nat}(h:i<l.length)(e:k=i):(l.map ZA)[k]?=some (ZA l[i]):=by subst e;rw[List.getElem?_map,List.getElem?_eq_getElem h];rfl
abbrev Zf3(out:List Tm)(q:Tm):Prop:=out.length=0\/∃h0:0<out.length,out[out.length-1]'(by omega)≠q
theorem Z0d(A:List Tm)(hA:A.length*56<=140737488351232):∀(k n i:Nat) (hk:n<=k) (hi:i+n<=A.length),Does prog tab 80 1 [.sl (.loc 0) i 4 n none] [] [(0, .rows 4 (A.map ZA))] (Z8L ZA 4 1 (Wy YI ((A.drop i).take n)))
 |k,n,i,hk,hi=>by
  obtain⟨l,hl⟩:∃l,l=(A.drop i).take n:=⟨_,rfl⟩;have hln:l.length=n:=by rw[hl];simp;omega
  have hrows:((A.map ZA).drop i).take n=l.map ZA:=by rw[hl,List.map_take,List.map_drop]
  rw[<-hl];refine Does.enter Z0 call80 func80 rfl 79 rfl rfl [.tmp 2] rfl ?_;intro w0 F η0 h0;conv=>whnf
  repeat'((first|(rw[hrows];conv=>whnf)|(refine NEED.mk (Zj 56 rfl rfl (by rw[List.length_map];exact hln) (by simp) (by omega)) ?_;conv=>whnf)|refine AU ?_|(refine IW ?_ ?_<;>intro h<;>try(exfalso;omega)))<;>conv=>whnf)
  ·have hs:Wy YI l=l:=by unfold Wy;rw[if_pos (by omega)]
   rw[hs];rw[Nat.zero_add];exact FIN.rows h0 2 4 n rfl rfl rfl (Z7 _) ⟨by rw[hln],rfl,rfl⟩
  ·have hs:Wy YI l=Yr YI [] (Wy YI (l.take (n/2))) (Wy YI (l.drop (n/2))):=by
    conv=>lhs;unfold Wy
    rw[if_neg (by omega),hln]
   have e1:l.take (n/2)=(A.drop i).take (n/2):=by rw[hl,List.take_take,Nat.min_eq_left (by omega)]
   have e2:l.drop (n/2)=(A.drop (i+n/2)).take (n-n/2):=by rw[hl,List.drop_take,List.drop_drop]
   have hn2:2<=n:=by omega
   obtain⟨k',rfl⟩:∃k',k=k'+1:=⟨k-1,by omega⟩;have r1:=Z0d A hA k' (n/2) i (by omega) (by omega);have r2:=Z0d A hA k' (n-n/2) (i+n/2) (by omega) (by omega);rw[<-e1]at r1;rw[<-e2]at r2;have l1:=Z83 (l:=l.take (n/2));have l2:=Z83 (l:=l.drop (n/2));generalize Wy YI (l.take (n/2))=X at r1 hs l1;generalize Wy YI (l.drop (n/2))=Y at r2 hs l2;have hw:IntKind.i64.wrap (Int.tdiv (n:Int) 2)=((n/2:Nat):Int):=by rw[Int.tdiv_eq_ediv_of_nonneg (by omega),Z9 (by omega) (by omega)];omega
   repeat'((first|refine DRAWN.of (id:=3) Z0 mixed YQ (by kernel_rfl) ?_|refine DRAWN.of (id:=7) Z0 mixed YR (by kernel_rfl) ?_|refine DRAWN.of (id:=12) Z0 mixed YS (by kernel_rfl) ?_|refine ADD.mk (fun _ _=>?_)|refine AD ?_|refine FORK.mk ?_ ?_|(rw[hw];conv=>whnf)|(rw[Int.toNat_natCast];conv=>whnf)|refine AU ?_|(refine IW ?_ ?_<;>intro h<;>try(exfalso;omega)))<;>conv=>whnf)
   refine CALL.aA [0] (r1) ?_;rintro r O nx ⟨rfl,rfl,rfl⟩;conv=>whnf
   repeat'((first|refine DRAWN.of (id:=3) Z0 mixed YQ (by kernel_rfl) ?_|refine DRAWN.of (id:=7) Z0 mixed YR (by kernel_rfl) ?_|refine DRAWN.of (id:=12) Z0 mixed YS (by kernel_rfl) ?_|refine ADD.mk (fun _ _=>?_)|refine AD ?_|refine FORK.mk ?_ ?_|(rw[hw];conv=>whnf)|(rw[Int.toNat_natCast];conv=>whnf)|refine AU ?_|(refine IW ?_ ?_<;>intro h<;>try(exfalso;omega)))<;>conv=>whnf)
   refine CALL.aA [0] (r2) ?_;rintro r O nx ⟨rfl,rfl,rfl⟩;conv=>whnf
   repeat'((first|refine DRAWN.of (id:=3) Z0 mixed YQ (by kernel_rfl) ?_|refine DRAWN.of (id:=7) Z0 mixed YR (by kernel_rfl) ?_|refine DRAWN.of (id:=12) Z0 mixed YS (by kernel_rfl) ?_|refine ADD.mk (fun _ _=>?_)|refine AD ?_|refine FORK.mk ?_ ?_|refine AU ?_|(refine IW ?_ ?_<;>intro h<;>try(exfalso;omega)))<;>conv=>whnf)
   refine LOOP.nil 5 4 rfl ?_
   refine LOOP.go Z0 [] (X:=List Tm×Nat×Nat) (fun x=>x.2.1<=X.length/\x.2.2<=Y.length/\x.1.length<=x.2.1+x.2.2/\Wy YI l=Yr YI x.1 (X.drop x.2.1) (Y.drop x.2.2))
    (fun x=>[(3, .sl (.loc 1) x.2.1 4 (X.length-x.2.1) none),(4, .sl (.loc 2) x.2.2 4 (Y.length-x.2.2) none),(5, .sl (.loc 3) 0 4 x.1.length none)]) (fun x=>[(1, .rows 4 (X.map ZA)),(2, .rows 4 (Y.map ZA)),(3, .rows 4 (x.1.map ZA))]) 4 (fun x=>(X.length-x.2.1)+(Y.length-x.2.2)) ([],0,0) ⟨by simp,by simp,by simp,hs⟩ ?_
   conv=>whnf
   refine⟨by exact GOES.cA h0,?_⟩;rintro⟨out,p,q⟩ ⟨hp,hq,ho,hr⟩;dsimp only at hp hq ho hr⊢;have hl1:X.length+Y.length<=A.length:=by simp at l1 l2;omega
   have hlast:∀(h:0<out.length),IntKind.i64.wrap ((out.length:Int)-1)=((out.length-1:Nat):Int):=fun h=>by rw[Z9 (by omega) (by omega)];omega
   by_cases hpn:p<X.length<;>by_cases hqm:q<Y.length
   ·have ha:X.drop p=X[p]::X.drop (p+1):=List.drop_eq_getElem_cons hpn;have hb:Y.drop q=Y[q]::Y.drop (q+1):=List.drop_eq_getElem_cons hqm;rw[ha,hb]at hr;by_cases hc:YI X[p] Y[q]<=0
    ·rw[Z41 _ (.inr ⟨_,_,rfl,hc⟩),<-hb]at hr
     have hN2:Zf3 out X[p]\/∃h0:0<out.length,out[out.length-1]'(by omega)=X[p]:=by
      by_cases h0:out.length=0
      ·exact .inl (.inl h0)
      ·by_cases he:out[out.length-1]'(by omega)=X[p]
       ·exact .inr ⟨by omega,he⟩
       ·exact .inl (.inr ⟨by omega,he⟩)
     rcases hN2 with hN|hN
     ·have hr:=hr.trans (congrArg (fun z=>Yr YI z (X.drop (p+1)) (Y.drop q)) (Z0Q hN));conv=>whnf
      repeat'((first|refine DRAWN.of (id:=3) Z0 mixed YQ (by kernel_rfl) ?_|refine DRAWN.of (id:=7) Z0 mixed YR (by kernel_rfl) ?_|refine DRAWN.of (id:=12) Z0 mixed YS (by kernel_rfl) ?_|refine ADD.mk (fun _ _=>?_)|refine AD ?_|refine FORK.mk ?_ ?_|refine CALL.value (Y4 _ _) rfl rfl ?_|(refine NEED.mk (Zj 56 rfl rfl rfl (by simp) (by omega)) ?_;conv=>whnf)|(refine GET.at (row:=ZA (X[p]'(by omega))) (Y5 (by omega) (by omega)) ?_;conv=>whnf)|(refine GET.at (row:=ZA (Y[q]'(by omega))) (Y5 (by omega) (by omega)) ?_;conv=>whnf)|(refine GET.at (row:=ZA (out[out.length-1]'(by omega))) (Y5 (by omega) (by rw[hlast (by omega)];omega)) ?_;conv=>whnf)|refine AU ?_|(refine IW ?_ ?_<;>intro h<;>try(exfalso;omega)))<;>conv=>whnf)
      all_goals first
       |(exfalso;omega)
       |(exfalso;rcases hN with h1|⟨h1,h2⟩;omega;exact h2 (Tm.ext' (by simp only[ZA,List.cons.injEq,SV.int.injEq,SV.str.injEq,true_and,and_true];exact h)))
       |(refine⟨(out++ [X[p]],p+1,q),⟨by dsimp only;omega,by dsimp only;omega,by simp only[List.length_append,List.length_cons,List.length_nil];omega,hr⟩,by dsimp only;omega,?_⟩;dsimp only;(conv=>whnf);(refine GOES.keeping h0 [1,2,6] rfl rfl rfl (by first|rfl|(simp only[Zl,Zg,Z2 _ (Z7 _),Bool.and_self,Bool.and_true]<;>rfl)) ?_ ?_<;>(repeat'(first|(with_reducible rfl)|(exact Zp (Z7 _) (Zf _ (Z7 _)))|(exact Zp (Z7 _) (by(simp[List.take_of_length_le,X4,ZA])))|(exact X6 rfl (by first|(simp;done)|omega|(simp;omega)))|(exact congrArg (SV.int _) (by first|omega|(simp(disch:=omega) only[lnB,Z9,Zo]<;>omega)|(simp;done)|(simp<;>omega)))|((conv=>whnf);refine⟨?_,?_⟩)|exact trivial|(simp only[ren,renB];done)|rfl)));done)
       |(refine⟨(out++ [X[p]],p+1,q),⟨by dsimp only;omega,by dsimp only;omega,by simp only[List.length_append,List.length_cons,List.length_nil];omega,hr⟩,by dsimp only;omega,?_⟩;dsimp only;(conv=>whnf);(refine GOES.keeping h0 [1,2,5] rfl rfl rfl (by first|rfl|(simp only[Zl,Zg,Z2 _ (Z7 _),Bool.and_self,Bool.and_true]<;>rfl)) ?_ ?_<;>(repeat'(first|(with_reducible rfl)|(exact Zp (Z7 _) (Zf _ (Z7 _)))|(exact Zp (Z7 _) (by(simp[List.take_of_length_le,X4,ZA])))|(exact X6 rfl (by first|(simp;done)|omega|(simp;omega)))|(exact congrArg (SV.int _) (by first|omega|(simp(disch:=omega) only[lnB,Z9,Zo]<;>omega)|(simp;done)|(simp<;>omega)))|((conv=>whnf);refine⟨?_,?_⟩)|exact trivial|(simp only[ren,renB];done)|rfl)));done)
       |(refine⟨(out++ [X[p]],p+1,q),⟨by dsimp only;omega,by dsimp only;omega,by simp only[List.length_append,List.length_cons,List.length_nil];omega,hr⟩,by dsimp only;omega,?_⟩;dsimp only;(conv=>whnf);(refine GOES.keeping h0 [1,2,7] rfl rfl rfl (by first|rfl|(simp only[Zl,Zg,Z2 _ (Z7 _),Bool.and_self,Bool.and_true]<;>rfl)) ?_ ?_<;>(repeat'(first|(with_reducible rfl)|(exact Zp (Z7 _) (Zf _ (Z7 _)))|(exact Zp (Z7 _) (by(simp[List.take_of_length_le,X4,ZA])))|(exact X6 rfl (by first|(simp;done)|omega|(simp;omega)))|(exact congrArg (SV.int _) (by first|omega|(simp(disch:=omega) only[lnB,Z9,Zo]<;>omega)|(simp;done)|(simp<;>omega)))|((conv=>whnf);refine⟨?_,?_⟩)|exact trivial|(simp only[ren,renB];done)|rfl)));done)
       |trace_state
     ·have hr:=hr.trans (congrArg (fun z=>Yr YI z (X.drop (p+1)) (Y.drop q)) (Z2w hN));conv=>whnf
      repeat'((first|refine DRAWN.of (id:=3) Z0 mixed YQ (by kernel_rfl) ?_|refine DRAWN.of (id:=7) Z0 mixed YR (by kernel_rfl) ?_|refine DRAWN.of (id:=12) Z0 mixed YS (by kernel_rfl) ?_|refine ADD.mk (fun _ _=>?_)|refine AD ?_|refine FORK.mk ?_ ?_|refine CALL.value (Y4 _ _) rfl rfl ?_|(refine NEED.mk (Zj 56 rfl rfl rfl (by simp) (by omega)) ?_;conv=>whnf)|(refine GET.at (row:=ZA (X[p]'(by omega))) (Y5 (by omega) (by omega)) ?_;conv=>whnf)|(refine GET.at (row:=ZA (Y[q]'(by omega))) (Y5 (by omega) (by omega)) ?_;conv=>whnf)|(refine GET.at (row:=ZA (out[out.length-1]'(by omega))) (Y5 (by omega) (by rw[hlast (by omega)];omega)) ?_;conv=>whnf)|refine AU ?_|(refine IW ?_ ?_<;>intro h<;>try(exfalso;omega)))<;>conv=>whnf)
      all_goals first
       |(exfalso;omega)
       |(exfalso;have h2:=hN.2;rw[h2]at h;simp at h;done)
       |(exfalso;have h2:=hN.1;omega)
       |(refine⟨(out,p+1,q),⟨by dsimp only;omega,by dsimp only;omega,by dsimp only;omega,hr⟩,by dsimp only;omega,?_⟩;dsimp only;(conv=>whnf);exact GOES.cA h0;done)
       |trace_state
    ·rw[Z1W _ (.inr ⟨_,_,rfl,hc⟩),<-ha]at hr
     have hN2:Zf3 out Y[q]\/∃h0:0<out.length,out[out.length-1]'(by omega)=Y[q]:=by
      by_cases h0:out.length=0
      ·exact .inl (.inl h0)
      ·by_cases he:out[out.length-1]'(by omega)=Y[q]
       ·exact .inr ⟨by omega,he⟩
       ·exact .inl (.inr ⟨by omega,he⟩)
     rcases hN2 with hN|hN
     ·have hr:=hr.trans (congrArg (fun z=>Yr YI z (X.drop p) (Y.drop (q+1))) (Z0Q hN));conv=>whnf
      repeat'((first|refine DRAWN.of (id:=3) Z0 mixed YQ (by kernel_rfl) ?_|refine DRAWN.of (id:=7) Z0 mixed YR (by kernel_rfl) ?_|refine DRAWN.of (id:=12) Z0 mixed YS (by kernel_rfl) ?_|refine ADD.mk (fun _ _=>?_)|refine AD ?_|refine FORK.mk ?_ ?_|refine CALL.value (Y4 _ _) rfl rfl ?_|(refine NEED.mk (Zj 56 rfl rfl rfl (by simp) (by omega)) ?_;conv=>whnf)|(refine GET.at (row:=ZA (X[p]'(by omega))) (Y5 (by omega) (by omega)) ?_;conv=>whnf)|(refine GET.at (row:=ZA (Y[q]'(by omega))) (Y5 (by omega) (by omega)) ?_;conv=>whnf)|(refine GET.at (row:=ZA (out[out.length-1]'(by omega))) (Y5 (by omega) (by rw[hlast (by omega)];omega)) ?_;conv=>whnf)|refine AU ?_|(refine IW ?_ ?_<;>intro h<;>try(exfalso;omega)))<;>conv=>whnf)
      all_goals first
       |(exfalso;omega)
       |(exfalso;rcases hN with h1|⟨h1,h2⟩;omega;exact h2 (Tm.ext' (by simp only[ZA,List.cons.injEq,SV.int.injEq,SV.str.injEq,true_and,and_true];exact h)))
       |(refine⟨(out++ [Y[q]],p,q+1),⟨by dsimp only;omega,by dsimp only;omega,by simp only[List.length_append,List.length_cons,List.length_nil];omega,hr⟩,by dsimp only;omega,?_⟩;dsimp only;(conv=>whnf);(refine GOES.keeping h0 [1,2,6] rfl rfl rfl (by first|rfl|(simp only[Zl,Zg,Z2 _ (Z7 _),Bool.and_self,Bool.and_true]<;>rfl)) ?_ ?_<;>(repeat'(first|(with_reducible rfl)|(exact Zp (Z7 _) (Zf _ (Z7 _)))|(exact Zp (Z7 _) (by(simp[List.take_of_length_le,X4,ZA])))|(exact X6 rfl (by first|(simp;done)|omega|(simp;omega)))|(exact congrArg (SV.int _) (by first|omega|(simp(disch:=omega) only[lnB,Z9,Zo]<;>omega)|(simp;done)|(simp<;>omega)))|((conv=>whnf);refine⟨?_,?_⟩)|exact trivial|(simp only[ren,renB];done)|rfl)));done)
       |(refine⟨(out++ [Y[q]],p,q+1),⟨by dsimp only;omega,by dsimp only;omega,by simp only[List.length_append,List.length_cons,List.length_nil];omega,hr⟩,by dsimp only;omega,?_⟩;dsimp only;(conv=>whnf);(refine GOES.keeping h0 [1,2,5] rfl rfl rfl (by first|rfl|(simp only[Zl,Zg,Z2 _ (Z7 _),Bool.and_self,Bool.and_true]<;>rfl)) ?_ ?_<;>(repeat'(first|(with_reducible rfl)|(exact Zp (Z7 _) (Zf _ (Z7 _)))|(exact Zp (Z7 _) (by(simp[List.take_of_length_le,X4,ZA])))|(exact X6 rfl (by first|(simp;done)|omega|(simp;omega)))|(exact congrArg (SV.int _) (by first|omega|(simp(disch:=omega) only[lnB,Z9,Zo]<;>omega)|(simp;done)|(simp<;>omega)))|((conv=>whnf);refine⟨?_,?_⟩)|exact trivial|(simp only[ren,renB];done)|rfl)));done)
       |(refine⟨(out++ [Y[q]],p,q+1),⟨by dsimp only;omega,by dsimp only;omega,by simp only[List.length_append,List.length_cons,List.length_nil];omega,hr⟩,by dsimp only;omega,?_⟩;dsimp only;(conv=>whnf);(refine GOES.keeping h0 [1,2,7] rfl rfl rfl (by first|rfl|(simp only[Zl,Zg,Z2 _ (Z7 _),Bool.and_self,Bool.and_true]<;>rfl)) ?_ ?_<;>(repeat'(first|(with_reducible rfl)|(exact Zp (Z7 _) (Zf _ (Z7 _)))|(exact Zp (Z7 _) (by(simp[List.take_of_length_le,X4,ZA])))|(exact X6 rfl (by first|(simp;done)|omega|(simp;omega)))|(exact congrArg (SV.int _) (by first|omega|(simp(disch:=omega) only[lnB,Z9,Zo]<;>omega)|(simp;done)|(simp<;>omega)))|((conv=>whnf);refine⟨?_,?_⟩)|exact trivial|(simp only[ren,renB];done)|rfl)));done)
       |trace_state
     ·have hr:=hr.trans (congrArg (fun z=>Yr YI z (X.drop p) (Y.drop (q+1))) (Z2w hN));conv=>whnf
      repeat'((first|refine DRAWN.of (id:=3) Z0 mixed YQ (by kernel_rfl) ?_|refine DRAWN.of (id:=7) Z0 mixed YR (by kernel_rfl) ?_|refine DRAWN.of (id:=12) Z0 mixed YS (by kernel_rfl) ?_|refine ADD.mk (fun _ _=>?_)|refine AD ?_|refine FORK.mk ?_ ?_|refine CALL.value (Y4 _ _) rfl rfl ?_|(refine NEED.mk (Zj 56 rfl rfl rfl (by simp) (by omega)) ?_;conv=>whnf)|(refine GET.at (row:=ZA (X[p]'(by omega))) (Y5 (by omega) (by omega)) ?_;conv=>whnf)|(refine GET.at (row:=ZA (Y[q]'(by omega))) (Y5 (by omega) (by omega)) ?_;conv=>whnf)|(refine GET.at (row:=ZA (out[out.length-1]'(by omega))) (Y5 (by omega) (by rw[hlast (by omega)];omega)) ?_;conv=>whnf)|refine AU ?_|(refine IW ?_ ?_<;>intro h<;>try(exfalso;omega)))<;>conv=>whnf)
      all_goals first
       |(exfalso;omega)
       |(exfalso;have h2:=hN.2;rw[h2]at h;simp at h;done)
       |(exfalso;have h2:=hN.1;omega)
       |(refine⟨(out,p,q+1),⟨by dsimp only;omega,by dsimp only;omega,by dsimp only;omega,hr⟩,by dsimp only;omega,?_⟩;dsimp only;(conv=>whnf);exact GOES.cA h0;done)
       |trace_state
   ·have ha:X.drop p=X[p]::X.drop (p+1):=List.drop_eq_getElem_cons hpn;have hb:Y.drop q=[]:=List.drop_eq_nil_of_le (by omega);rw[ha,hb,Z41 _ (.inl rfl),<-hb]at hr
    have hN2:Zf3 out X[p]\/∃h0:0<out.length,out[out.length-1]'(by omega)=X[p]:=by
     by_cases h0:out.length=0
     ·exact .inl (.inl h0)
     ·by_cases he:out[out.length-1]'(by omega)=X[p]
      ·exact .inr ⟨by omega,he⟩
      ·exact .inl (.inr ⟨by omega,he⟩)
    rcases hN2 with hN|hN
    ·have hr:=hr.trans (congrArg (fun z=>Yr YI z (X.drop (p+1)) (Y.drop q)) (Z0Q hN));conv=>whnf
     repeat'((first|refine DRAWN.of (id:=3) Z0 mixed YQ (by kernel_rfl) ?_|refine DRAWN.of (id:=7) Z0 mixed YR (by kernel_rfl) ?_|refine DRAWN.of (id:=12) Z0 mixed YS (by kernel_rfl) ?_|refine ADD.mk (fun _ _=>?_)|refine AD ?_|refine FORK.mk ?_ ?_|refine CALL.value (Y4 _ _) rfl rfl ?_|(refine NEED.mk (Zj 56 rfl rfl rfl (by simp) (by omega)) ?_;conv=>whnf)|(refine GET.at (row:=ZA (X[p]'(by omega))) (Y5 (by omega) (by omega)) ?_;conv=>whnf)|(refine GET.at (row:=ZA (Y[q]'(by omega))) (Y5 (by omega) (by omega)) ?_;conv=>whnf)|(refine GET.at (row:=ZA (out[out.length-1]'(by omega))) (Y5 (by omega) (by rw[hlast (by omega)];omega)) ?_;conv=>whnf)|refine AU ?_|(refine IW ?_ ?_<;>intro h<;>try(exfalso;omega)))<;>conv=>whnf)
     all_goals first
      |(exfalso;omega)
      |(exfalso;rcases hN with h1|⟨h1,h2⟩;omega;exact h2 (Tm.ext' (by simp only[ZA,List.cons.injEq,SV.int.injEq,SV.str.injEq,true_and,and_true];exact h)))
      |(refine⟨(out++ [X[p]],p+1,q),⟨by dsimp only;omega,by dsimp only;omega,by simp only[List.length_append,List.length_cons,List.length_nil];omega,hr⟩,by dsimp only;omega,?_⟩;dsimp only;(conv=>whnf);(refine GOES.keeping h0 [1,2,6] rfl rfl rfl (by first|rfl|(simp only[Zl,Zg,Z2 _ (Z7 _),Bool.and_self,Bool.and_true]<;>rfl)) ?_ ?_<;>(repeat'(first|(with_reducible rfl)|(exact Zp (Z7 _) (Zf _ (Z7 _)))|(exact Zp (Z7 _) (by(simp[List.take_of_length_le,X4,ZA])))|(exact X6 rfl (by first|(simp;done)|omega|(simp;omega)))|(exact congrArg (SV.int _) (by first|omega|(simp(disch:=omega) only[lnB,Z9,Zo]<;>omega)|(simp;done)|(simp<;>omega)))|((conv=>whnf);refine⟨?_,?_⟩)|exact trivial|(simp only[ren,renB];done)|rfl)));done)
      |(refine⟨(out++ [X[p]],p+1,q),⟨by dsimp only;omega,by dsimp only;omega,by simp only[List.length_append,List.length_cons,List.length_nil];omega,hr⟩,by dsimp only;omega,?_⟩;dsimp only;(conv=>whnf);(refine GOES.keeping h0 [1,2,5] rfl rfl rfl (by first|rfl|(simp only[Zl,Zg,Z2 _ (Z7 _),Bool.and_self,Bool.and_true]<;>rfl)) ?_ ?_<;>(repeat'(first|(with_reducible rfl)|(exact Zp (Z7 _) (Zf _ (Z7 _)))|(exact Zp (Z7 _) (by(simp[List.take_of_length_le,X4,ZA])))|(exact X6 rfl (by first|(simp;done)|omega|(simp;omega)))|(exact congrArg (SV.int _) (by first|omega|(simp(disch:=omega) only[lnB,Z9,Zo]<;>omega)|(simp;done)|(simp<;>omega)))|((conv=>whnf);refine⟨?_,?_⟩)|exact trivial|(simp only[ren,renB];done)|rfl)));done)
      |(refine⟨(out++ [X[p]],p+1,q),⟨by dsimp only;omega,by dsimp only;omega,by simp only[List.length_append,List.length_cons,List.length_nil];omega,hr⟩,by dsimp only;omega,?_⟩;dsimp only;(conv=>whnf);(refine GOES.keeping h0 [1,2,7] rfl rfl rfl (by first|rfl|(simp only[Zl,Zg,Z2 _ (Z7 _),Bool.and_self,Bool.and_true]<;>rfl)) ?_ ?_<;>(repeat'(first|(with_reducible rfl)|(exact Zp (Z7 _) (Zf _ (Z7 _)))|(exact Zp (Z7 _) (by(simp[List.take_of_length_le,X4,ZA])))|(exact X6 rfl (by first|(simp;done)|omega|(simp;omega)))|(exact congrArg (SV.int _) (by first|omega|(simp(disch:=omega) only[lnB,Z9,Zo]<;>omega)|(simp;done)|(simp<;>omega)))|((conv=>whnf);refine⟨?_,?_⟩)|exact trivial|(simp only[ren,renB];done)|rfl)));done)
      |trace_state
    ·have hr:=hr.trans (congrArg (fun z=>Yr YI z (X.drop (p+1)) (Y.drop q)) (Z2w hN));conv=>whnf
     repeat'((first|refine DRAWN.of (id:=3) Z0 mixed YQ (by kernel_rfl) ?_|refine DRAWN.of (id:=7) Z0 mixed YR (by kernel_rfl) ?_|refine DRAWN.of (id:=12) Z0 mixed YS (by kernel_rfl) ?_|refine ADD.mk (fun _ _=>?_)|refine AD ?_|refine FORK.mk ?_ ?_|refine CALL.value (Y4 _ _) rfl rfl ?_|(refine NEED.mk (Zj 56 rfl rfl rfl (by simp) (by omega)) ?_;conv=>whnf)|(refine GET.at (row:=ZA (X[p]'(by omega))) (Y5 (by omega) (by omega)) ?_;conv=>whnf)|(refine GET.at (row:=ZA (Y[q]'(by omega))) (Y5 (by omega) (by omega)) ?_;conv=>whnf)|(refine GET.at (row:=ZA (out[out.length-1]'(by omega))) (Y5 (by omega) (by rw[hlast (by omega)];omega)) ?_;conv=>whnf)|refine AU ?_|(refine IW ?_ ?_<;>intro h<;>try(exfalso;omega)))<;>conv=>whnf)
     all_goals first
      |(exfalso;omega)
      |(exfalso;have h2:=hN.2;rw[h2]at h;simp at h;done)
      |(exfalso;have h2:=hN.1;omega)
      |(refine⟨(out,p+1,q),⟨by dsimp only;omega,by dsimp only;omega,by dsimp only;omega,hr⟩,by dsimp only;omega,?_⟩;dsimp only;(conv=>whnf);exact GOES.cA h0;done)
      |trace_state
   ·have hb:Y.drop q=Y[q]::Y.drop (q+1):=List.drop_eq_getElem_cons hqm;have ha:X.drop p=[]:=List.drop_eq_nil_of_le (by omega);rw[ha,hb,Z1W _ (.inl rfl),<-ha]at hr
    have hN2:Zf3 out Y[q]\/∃h0:0<out.length,out[out.length-1]'(by omega)=Y[q]:=by
     by_cases h0:out.length=0
     ·exact .inl (.inl h0)
     ·by_cases he:out[out.length-1]'(by omega)=Y[q]
      ·exact .inr ⟨by omega,he⟩
      ·exact .inl (.inr ⟨by omega,he⟩)
    rcases hN2 with hN|hN
    ·have hr:=hr.trans (congrArg (fun z=>Yr YI z (X.drop p) (Y.drop (q+1))) (Z0Q hN));conv=>whnf
     repeat'((first|refine DRAWN.of (id:=3) Z0 mixed YQ (by kernel_rfl) ?_|refine DRAWN.of (id:=7) Z0 mixed YR (by kernel_rfl) ?_|refine DRAWN.of (id:=12) Z0 mixed YS (by kernel_rfl) ?_|refine ADD.mk (fun _ _=>?_)|refine AD ?_|refine FORK.mk ?_ ?_|refine CALL.value (Y4 _ _) rfl rfl ?_|(refine NEED.mk (Zj 56 rfl rfl rfl (by simp) (by omega)) ?_;conv=>whnf)|(refine GET.at (row:=ZA (X[p]'(by omega))) (Y5 (by omega) (by omega)) ?_;conv=>whnf)|(refine GET.at (row:=ZA (Y[q]'(by omega))) (Y5 (by omega) (by omega)) ?_;conv=>whnf)|(refine GET.at (row:=ZA (out[out.length-1]'(by omega))) (Y5 (by omega) (by rw[hlast (by omega)];omega)) ?_;conv=>whnf)|refine AU ?_|(refine IW ?_ ?_<;>intro h<;>try(exfalso;omega)))<;>conv=>whnf)
     all_goals first
      |(exfalso;omega)
      |(exfalso;rcases hN with h1|⟨h1,h2⟩;omega;exact h2 (Tm.ext' (by simp only[ZA,List.cons.injEq,SV.int.injEq,SV.str.injEq,true_and,and_true];exact h)))
      |(refine⟨(out++ [Y[q]],p,q+1),⟨by dsimp only;omega,by dsimp only;omega,by simp only[List.length_append,List.length_cons,List.length_nil];omega,hr⟩,by dsimp only;omega,?_⟩;dsimp only;(conv=>whnf);(refine GOES.keeping h0 [1,2,6] rfl rfl rfl (by first|rfl|(simp only[Zl,Zg,Z2 _ (Z7 _),Bool.and_self,Bool.and_true]<;>rfl)) ?_ ?_<;>(repeat'(first|(with_reducible rfl)|(exact Zp (Z7 _) (Zf _ (Z7 _)))|(exact Zp (Z7 _) (by(simp[List.take_of_length_le,X4,ZA])))|(exact X6 rfl (by first|(simp;done)|omega|(simp;omega)))|(exact congrArg (SV.int _) (by first|omega|(simp(disch:=omega) only[lnB,Z9,Zo]<;>omega)|(simp;done)|(simp<;>omega)))|((conv=>whnf);refine⟨?_,?_⟩)|exact trivial|(simp only[ren,renB];done)|rfl)));done)
      |(refine⟨(out++ [Y[q]],p,q+1),⟨by dsimp only;omega,by dsimp only;omega,by simp only[List.length_append,List.length_cons,List.length_nil];omega,hr⟩,by dsimp only;omega,?_⟩;dsimp only;(conv=>whnf);(refine GOES.keeping h0 [1,2,5] rfl rfl rfl (by first|rfl|(simp only[Zl,Zg,Z2 _ (Z7 _),Bool.and_self,Bool.and_true]<;>rfl)) ?_ ?_<;>(repeat'(first|(with_reducible rfl)|(exact Zp (Z7 _) (Zf _ (Z7 _)))|(exact Zp (Z7 _) (by(simp[List.take_of_length_le,X4,ZA])))|(exact X6 rfl (by first|(simp;done)|omega|(simp;omega)))|(exact congrArg (SV.int _) (by first|omega|(simp(disch:=omega) only[lnB,Z9,Zo]<;>omega)|(simp;done)|(simp<;>omega)))|((conv=>whnf);refine⟨?_,?_⟩)|exact trivial|(simp only[ren,renB];done)|rfl)));done)
      |(refine⟨(out++ [Y[q]],p,q+1),⟨by dsimp only;omega,by dsimp only;omega,by simp only[List.length_append,List.length_cons,List.length_nil];omega,hr⟩,by dsimp only;omega,?_⟩;dsimp only;(conv=>whnf);(refine GOES.keeping h0 [1,2,7] rfl rfl rfl (by first|rfl|(simp only[Zl,Zg,Z2 _ (Z7 _),Bool.and_self,Bool.and_true]<;>rfl)) ?_ ?_<;>(repeat'(first|(with_reducible rfl)|(exact Zp (Z7 _) (Zf _ (Z7 _)))|(exact Zp (Z7 _) (by(simp[List.take_of_length_le,X4,ZA])))|(exact X6 rfl (by first|(simp;done)|omega|(simp;omega)))|(exact congrArg (SV.int _) (by first|omega|(simp(disch:=omega) only[lnB,Z9,Zo]<;>omega)|(simp;done)|(simp<;>omega)))|((conv=>whnf);refine⟨?_,?_⟩)|exact trivial|(simp only[ren,renB];done)|rfl)));done)
      |trace_state
    ·have hr:=hr.trans (congrArg (fun z=>Yr YI z (X.drop p) (Y.drop (q+1))) (Z2w hN));conv=>whnf
     repeat'((first|refine DRAWN.of (id:=3) Z0 mixed YQ (by kernel_rfl) ?_|refine DRAWN.of (id:=7) Z0 mixed YR (by kernel_rfl) ?_|refine DRAWN.of (id:=12) Z0 mixed YS (by kernel_rfl) ?_|refine ADD.mk (fun _ _=>?_)|refine AD ?_|refine FORK.mk ?_ ?_|refine CALL.value (Y4 _ _) rfl rfl ?_|(refine NEED.mk (Zj 56 rfl rfl rfl (by simp) (by omega)) ?_;conv=>whnf)|(refine GET.at (row:=ZA (X[p]'(by omega))) (Y5 (by omega) (by omega)) ?_;conv=>whnf)|(refine GET.at (row:=ZA (Y[q]'(by omega))) (Y5 (by omega) (by omega)) ?_;conv=>whnf)|(refine GET.at (row:=ZA (out[out.length-1]'(by omega))) (Y5 (by omega) (by rw[hlast (by omega)];omega)) ?_;conv=>whnf)|refine AU ?_|(refine IW ?_ ?_<;>intro h<;>try(exfalso;omega)))<;>conv=>whnf)
     all_goals first
      |(exfalso;omega)
      |(exfalso;have h2:=hN.2;rw[h2]at h;simp at h;done)
      |(exfalso;have h2:=hN.1;omega)
      |(refine⟨(out,p,q+1),⟨by dsimp only;omega,by dsimp only;omega,by dsimp only;omega,hr⟩,by dsimp only;omega,?_⟩;dsimp only;(conv=>whnf);exact GOES.cA h0;done)
      |trace_state
   ·have ha:X.drop p=[]:=List.drop_eq_nil_of_le (by omega);have hb:Y.drop q=[]:=List.drop_eq_nil_of_le (by omega);rw[ha,hb,ZbB]at hr;conv=>whnf
    repeat'((first|refine AU ?_|(refine IW ?_ ?_<;>intro h<;>try(exfalso;omega)))<;>conv=>whnf)
    rw[hr];exact FIN.rows h0 3 4 out.length rfl rfl rfl (Z7 _) ⟨rfl,rfl,rfl⟩
end Go.Proofs.YtlcbipfmodcedaaGreatDoor
