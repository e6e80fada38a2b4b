/- Part 12: Sets6, TermsG, Terms7, RTerms7. Conditions: as each part says. -/
import Derived.Test.YtbfbokdccdagkaaGreatDoorFnd11
set_option linter.unusedVariables false
set_option linter.unusedSimpArgs false
set_option maxRecDepth 20000
set_option maxHeartbeats 8000000
namespace Go.Proofs.YtbfbokdccdagkaaGreatDoor
open Go.Sx Go.Our
end Go.Proofs.YtbfbokdccdagkaaGreatDoor
namespace Go.Proofs.YtbfbokdccdagkaaGreatDoor
open Go.Sx Go.Our
theorem Z7b{α:Type}(f:Qd->List α){l:List Qd}{i:Nat}(h:i<l.length):(l.take (i+1)).flatMap f=(l.take i).flatMap f++f l[i]:=by
 rw[List.take_succ_eq_append_getElem h,List.flatMap_append];simp
theorem Z21{α:Type}(f:Qd->List α){k:Nat}(hk:∀q,(f q).length<=k):∀(l:List Qd),(l.flatMap f).length<=l.length*k
 | []=>by simp
 |q::l=>by
  have:=Z21 f hk l;have:=hk q;simp only[List.flatMap_cons,List.length_append,List.length_cons,Nat.succ_mul];omega
open Tryz
theorem WJ(q:Qd):(Yx q).length<=4:=by
 have h:∀t,(X3 t).length<=1:=fun t=>by unfold X3;split<;>simp
 have:=h q.s;have:=h q.p;have:=h q.o;have:=h q.g;unfold Yx;simp only[List.length_append];omega
def ZaV(q:Qd):List Tm:=[q.s,q.p,q.o,q.g]
theorem Zh0(q:Qd):Yx q=(ZaV q).flatMap X3:=by simp[Yx,ZaV]
def We(q:Qd)(j:Nat):List (List UInt8):=((ZaV q).take j).flatMap X3
theorem ZcR(q:Qd):We q 4=Yx q:=by rw[Zh0];rfl
theorem UD(q:Qd):We q 1=We q 0++X3 q.s/\We q 2=We q 1++X3 q.p/\We q 3=We q 2++X3 q.o/\We q 4=We q 3++X3 q.g:=by simp[We,ZaV]
theorem Vi{t:Tm}(h:t.k=2):X3 t=[t.t]:=by unfold X3;rw[if_pos h]
theorem Vj{t:Tm}(h:¬t.k=2):X3 t=[]:=by unfold X3;rw[if_neg h]
theorem Z7c(q:Qd)(j:Nat):(We q j).length<=j:=by
 have h:∀t,(X3 t).length<=1:=fun t=>by unfold X3;split<;>simp
 unfold We
 have h2:∀(l:List Tm),(l.flatMap X3).length<=l.length:=fun l=>by
  induction l with
  |nil=>simp
  |cons t l ih=>have:=h t;simp only[List.flatMap_cons,List.length_append,List.length_cons];omega
 have:=h2 ((ZaV q).take j);rw[List.length_take]at this;omega
theorem WK(l z:List Qd)(lim:Option Nat)(hl:V6 l)(hz:(l++z).length<=1152921504606846976):Does prog tab 30 1 [.sl (.loc 0) 0 16 l.length lim] [] [(0, .rows 16 ((l++z).map Zj))]
 (Zi9 Zb 1 1 ([]:List UInt8) (X4 l).length (setL cmpL (X4 l))):=by
 unfold V6 at hl;have hlen:∀i,((l.take i).flatMap Yx).length<=(l.take i).length*4:=fun i=>Z21 _ WJ _;unfold X4;refine Does.enter Z1 call30 func30 rfl 37 rfl rfl [.tmp 2] rfl ?_;intro w0 F η0 h0;conv=>whnf
 refine LOOP.nil 3 1 rfl ?_;refine LOOP.go Z1 [8,9] (X:=Nat) (fun i=>i<=l.length) (fun i=>[(10, .int .i64 (i:Int)),(3, .sl (.loc 1) 0 1 ((l.take i).flatMap Yx).length none)]) (fun i=>[(1, .rows 1 (((l.take i).flatMap Yx).map Zb))]) 2 (fun i=>l.length-i) 0 (by omega) ?_;conv=>whnf
 refine⟨by exact GOES.cA h0,?_⟩;intro i hi;have hli:=hlen i;rw[List.length_take,Nat.min_eq_left hi]at hli;conv=>whnf
 by_cases hil:i<l.length
 ·have hs:=Z7b Yx hil;generalize(l.take i).flatMap Yx=out at*;repeat'((first|(refine GET.at (row:=Zj (l[i]'(by omega))) (Z78 (by omega) (by omega)) ?_;conv=>whnf)|refine AU ?_|(refine IW ?_ ?_<;>intro h<;>try(exfalso;omega)))<;>conv=>whnf)
  refine CALL.aA [2] (ZcQ (l[i]'(by omega))) ?_;rintro r O nx ⟨rfl,rfl,rfl⟩;conv=>whnf
  refine LOOP.go Z1 [8,9,10,14] (X:=Nat×List (List UInt8)) (fun x=>x.1<=4/\x.2=out++We l[i] x.1) (fun x=>[(15, .int .i64 (x.1:Int)),(3, .sl (.loc 1) 0 1 x.2.length none)]) (fun x=>[(1, .rows 1 (x.2.map Zb)),(2, .box (Zj l[i]))]) 3 (fun x=>4-x.1) (0,out) ⟨by simp,by simp[We]⟩ ?_;conv=>whnf
  refine⟨by exact GOES.cA h0,?_⟩;rintro⟨j,o2⟩ ⟨hj,ho2⟩;dsimp only at hj ho2⊢;have hfl:=Z7c l[i] j;have ho2l:o2.length<=i*4+j:=by rw[ho2,List.length_append];omega
  by_cases hj4:j<4
  ·obtain rfl|rfl|rfl|rfl:j=0\/j=1\/j=2\/j=3:=by omega
   ·have hst:=(UD l[i]).1;conv=>whnf
    repeat'((first|(refine NEED.mk ⟨by decide,by decide,rfl⟩ ?_;conv=>whnf)|(refine NEED.mk (ZC 16 rfl rfl rfl (by simp) (by omega)) ?_;conv=>whnf)|refine AU ?_|(refine IW ?_ ?_<;>intro h<;>try(exfalso;omega)))<;>conv=>whnf)
    ·refine⟨(1,o2++ [l[i].s.t]),⟨by simp,by dsimp only;rw[hst,Vi h,ho2,List.append_assoc]⟩,by simp,?_⟩;dsimp only;conv=>whnf
     (refine GOES.keeping h0 [4,2] rfl rfl rfl (by first|rfl|(simp only[Zn,Zm,Z4 _ (Zl _),Bool.and_self,Bool.and_true]<;>rfl)) ?_ ?_<;>(repeat'(first|(with_reducible rfl)|(exact Zo (Zl _) (Ze _ (Zl _)))|(exact Zo (Zl _) (by(simp[List.take_of_length_le,Yj,Zb])))|(exact X2 rfl (by first|(simp;done)|omega|(simp;omega)))|(exact congrArg (SV.int _) (by first|omega|(simp(disch:=omega) only[lnB,Z9,Zq]<;>omega)|(simp;done)|(simp<;>omega)))|((conv=>whnf);refine⟨?_,?_⟩)|exact trivial|(simp only[ren,renB];done)|rfl)))
    ·refine⟨(1,o2),⟨by simp,by dsimp only;rw[hst,Vj h,ho2,List.append_nil]⟩,by simp,?_⟩;dsimp only;conv=>whnf
     exact GOES.cA h0
   ·have hst:=(UD l[i]).2.1;conv=>whnf
    repeat'((first|(refine NEED.mk ⟨by decide,by decide,rfl⟩ ?_;conv=>whnf)|(refine NEED.mk (ZC 16 rfl rfl rfl (by simp) (by omega)) ?_;conv=>whnf)|refine AU ?_|(refine IW ?_ ?_<;>intro h<;>try(exfalso;omega)))<;>conv=>whnf)
    ·refine⟨(2,o2++ [l[i].p.t]),⟨by simp,by dsimp only;rw[hst,Vi h,ho2,List.append_assoc]⟩,by simp,?_⟩;dsimp only;conv=>whnf
     (refine GOES.keeping h0 [4,2] rfl rfl rfl (by first|rfl|(simp only[Zn,Zm,Z4 _ (Zl _),Bool.and_self,Bool.and_true]<;>rfl)) ?_ ?_<;>(repeat'(first|(with_reducible rfl)|(exact Zo (Zl _) (Ze _ (Zl _)))|(exact Zo (Zl _) (by(simp[List.take_of_length_le,Yj,Zb])))|(exact X2 rfl (by first|(simp;done)|omega|(simp;omega)))|(exact congrArg (SV.int _) (by first|omega|(simp(disch:=omega) only[lnB,Z9,Zq]<;>omega)|(simp;done)|(simp<;>omega)))|((conv=>whnf);refine⟨?_,?_⟩)|exact trivial|(simp only[ren,renB];done)|rfl)))
    ·refine⟨(2,o2),⟨by simp,by dsimp only;rw[hst,Vj h,ho2,List.append_nil]⟩,by simp,?_⟩;dsimp only;conv=>whnf
     exact GOES.cA h0
   ·have hst:=(UD l[i]).2.2.1;conv=>whnf
    repeat'((first|(refine NEED.mk ⟨by decide,by decide,rfl⟩ ?_;conv=>whnf)|(refine NEED.mk (ZC 16 rfl rfl rfl (by simp) (by omega)) ?_;conv=>whnf)|refine AU ?_|(refine IW ?_ ?_<;>intro h<;>try(exfalso;omega)))<;>conv=>whnf)
    ·refine⟨(3,o2++ [l[i].o.t]),⟨by simp,by dsimp only;rw[hst,Vi h,ho2,List.append_assoc]⟩,by simp,?_⟩;dsimp only;conv=>whnf
     (refine GOES.keeping h0 [4,2] rfl rfl rfl (by first|rfl|(simp only[Zn,Zm,Z4 _ (Zl _),Bool.and_self,Bool.and_true]<;>rfl)) ?_ ?_<;>(repeat'(first|(with_reducible rfl)|(exact Zo (Zl _) (Ze _ (Zl _)))|(exact Zo (Zl _) (by(simp[List.take_of_length_le,Yj,Zb])))|(exact X2 rfl (by first|(simp;done)|omega|(simp;omega)))|(exact congrArg (SV.int _) (by first|omega|(simp(disch:=omega) only[lnB,Z9,Zq]<;>omega)|(simp;done)|(simp<;>omega)))|((conv=>whnf);refine⟨?_,?_⟩)|exact trivial|(simp only[ren,renB];done)|rfl)))
    ·refine⟨(3,o2),⟨by simp,by dsimp only;rw[hst,Vj h,ho2,List.append_nil]⟩,by simp,?_⟩;dsimp only;conv=>whnf
     exact GOES.cA h0
   ·have hst:=(UD l[i]).2.2.2;conv=>whnf
    repeat'((first|(refine NEED.mk ⟨by decide,by decide,rfl⟩ ?_;conv=>whnf)|(refine NEED.mk (ZC 16 rfl rfl rfl (by simp) (by omega)) ?_;conv=>whnf)|refine AU ?_|(refine IW ?_ ?_<;>intro h<;>try(exfalso;omega)))<;>conv=>whnf)
    ·refine⟨(4,o2++ [l[i].g.t]),⟨by simp,by dsimp only;rw[hst,Vi h,ho2,List.append_assoc]⟩,by simp,?_⟩;dsimp only;conv=>whnf
     (refine GOES.keeping h0 [4,2] rfl rfl rfl (by first|rfl|(simp only[Zn,Zm,Z4 _ (Zl _),Bool.and_self,Bool.and_true]<;>rfl)) ?_ ?_<;>(repeat'(first|(with_reducible rfl)|(exact Zo (Zl _) (Ze _ (Zl _)))|(exact Zo (Zl _) (by(simp[List.take_of_length_le,Yj,Zb])))|(exact X2 rfl (by first|(simp;done)|omega|(simp;omega)))|(exact congrArg (SV.int _) (by first|omega|(simp(disch:=omega) only[lnB,Z9,Zq]<;>omega)|(simp;done)|(simp<;>omega)))|((conv=>whnf);refine⟨?_,?_⟩)|exact trivial|(simp only[ren,renB];done)|rfl)))
    ·refine⟨(4,o2),⟨by simp,by dsimp only;rw[hst,Vj h,ho2,List.append_nil]⟩,by simp,?_⟩;dsimp only;conv=>whnf
     exact GOES.cA h0
  ·obtain rfl:j=4:=by omega
   rw[ZcR]at ho2;conv=>whnf
   repeat'((first|refine AU ?_|(refine IW ?_ ?_<;>intro h<;>try(exfalso;omega)))<;>conv=>whnf)
   refine⟨i+1,by omega,by omega,?_⟩;rw[hs,<-ho2];conv=>whnf
   exact GOES.cA h0
 ·have hie:i=l.length:=by omega
  subst hie;rw[List.take_length]at hli⊢;generalize l.flatMap Yx=out at*;have hm:(out.mergeSort (leC cmpL)).length=out.length:=List.length_mergeSort out;have hcl:=WG (out.mergeSort (leC cmpL));have hcc:(Zf (out.mergeSort (leC cmpL))++List.replicate ((out.mergeSort (leC cmpL)).length-(Zf (out.mergeSort (leC cmpL))).length) ([]:List UInt8)).length*16<=140741783322624:=by rw[List.length_append,List.length_replicate];omega
  repeat'((first|refine AU ?_|(refine IW ?_ ?_<;>intro h<;>try(exfalso;omega)))<;>conv=>whnf)
  refine CALL.aA [1] (Z4V out (by omega)) ?_;rintro r O nx ⟨rfl,rfl,rfl⟩;conv=>whnf
  rw[<-hm];refine CALL.aA [1] (Z5M (out.mergeSort (leC cmpL)) (by omega)) ?_;rintro r O nx ⟨rfl,rfl,rfl⟩;conv=>whnf
  refine CALL.aA [1] (ZaS (Zf (out.mergeSort (leC cmpL))++List.replicate ((out.mergeSort (leC cmpL)).length-(Zf (out.mergeSort (leC cmpL))).length) ([]:List UInt8)) (Zf (out.mergeSort (leC cmpL))).length (by simp) hcc) ?_;rintro r O nx ⟨rfl,rfl,rfl⟩;conv=>whnf
  refine FIN.aA h0 [1] (.sl (.loc 1) 0 1 (setL cmpL out).length (some (setL cmpL out).length)) [(1, .rows 1 ((setL cmpL out++List.replicate ((out.mergeSort (leC cmpL)).length-(Zf (out.mergeSort (leC cmpL))).length) ([]:List UInt8)).map Zb))] ?_;exact⟨_,by unfold setL;omega,rfl,rfl,rfl⟩
open Tryz
def YG:Plan:=(Zv [(0,1),(1,1),(2,1),(3,1),(4,1),(6,1),(7,1),(8,1),(9,1),(10,1),(5,3),(11,3),(12,1),(13,1)])
def YH:Plan:=(Zv [(0,1),(1,1),(2,1),(3,1),(4,1),(5,1),(6,1),(7,1),(8,1),(9,1),(11,1),(12,1),(10,2),(13,2),(14,3),(15,1),(16,1),(17,1)])
def YI:Plan:=(Zv [(0,1),(1,1),(2,1),(3,1),(4,1),(5,1),(6,1),(7,1),(8,1),(9,2),(10,2),(11,1),(12,1)])
theorem Z0v{α:Type}[DecidableEq α]{out:List α}{q:α}(h:out.length=0\/∃h0:0<out.length,out[out.length-1]'(by omega)≠q):Z1K out q=out++ [q]:=by
 unfold Z1K;rcases h with h|⟨h0,h⟩
 ·have:=List.length_eq_zero_iff.1 h;subst this;rfl
 ·have hne:out≠ []:=fun e=>by subst e;simp at h0
  rw[List.getLast?_eq_some_getLast hne,List.getLast_eq_getElem];simp only;rw[if_pos h]
theorem Z2k{α:Type}[DecidableEq α]{out:List α}{q:α}(h:∃h0:0<out.length,out[out.length-1]'(by omega)=q):Z1K out q=out:=by
 obtain⟨h0,h⟩:=h;unfold Z1K;have hne:out≠ []:=fun e=>by subst e;simp at h0
 rw[List.getLast?_eq_some_getLast hne,List.getLast_eq_getElem];simp only;rw[if_neg (by simpa using h)]
theorem Zbn{α:Type}[DecidableEq α]{c:α->α->Int}(out:List α):Yi c out [] []=out:=by unfold Yi;rfl
theorem Z3Y{α:Type}[DecidableEq α]{c:α->α->Int}{out a b:List α}(x:α)(h:b=[]\/∃y t,b=y::t/\c x y<=0):Yi c out (x::a) b=Yi c (Z1K out x) a b:=by
 rcases h with rfl|⟨y,t,rfl,h⟩
 ·conv=>lhs;unfold Yi
 ·conv=>lhs;unfold Yi
  rw[if_pos h]
theorem Z1y{α:Type}[DecidableEq α]{c:α->α->Int}{out a b:List α}(y:α)(h:a=[]\/∃x t,a=x::t/\¬c x y<=0):Yi c out a (y::b)=Yi c (Z1K out y) a b:=by
 rcases h with rfl|⟨x,t,rfl,h⟩
 ·conv=>lhs;unfold Yi
 ·conv=>lhs;unfold Yi
  rw[if_neg h]
theorem Z7J{l:List Tm}:(Wc Yw l).length<=l.length:=by
 rw[Z0d triT _ l (Nat.le_refl _)];exact Z8n l
theorem Y6{l:List Tm}{i k:Nat}(h:i<l.length)(e:k=i):(l.map Zu)[k]?=some (Zu l[i]):=by subst e;rw[List.getElem?_map,List.getElem?_eq_getElem h];rfl
abbrev Zfu(out:List Tm)(q:Tm):Prop:=out.length=0\/∃h0:0<out.length,out[out.length-1]'(by omega)≠q
theorem WO(A:List Tm)(hA:A.length*56<=140737488351232):∀(k n i:Nat) (hk:n<=k) (hi:i+n<=A.length),Does prog tab 74 1 [.sl (.loc 0) i 4 n none] [] [(0, .rows 4 (A.map Zu))] (Z8v Zu 4 1 (Wc Yw ((A.drop i).take n)))
 |k,n,i,hk,hi=>by
  obtain⟨l,hl⟩:∃l,l=(A.drop i).take n:=⟨_,rfl⟩;have hln:l.length=n:=by rw[hl];simp;omega
  have hrows:((A.map Zu).drop i).take n=l.map Zu:=by rw[hl,List.map_take,List.map_drop]
  rw[<-hl];refine Does.enter Z1 call74 func74 rfl 79 rfl rfl [.tmp 2] rfl ?_;intro w0 F η0 h0;conv=>whnf
  repeat'((first|(rw[hrows];conv=>whnf)|(refine NEED.mk (ZC 56 rfl rfl (by rw[List.length_map];exact hln) (by simp) (by omega)) ?_;conv=>whnf)|refine AU ?_|(refine IW ?_ ?_<;>intro h<;>try(exfalso;omega)))<;>conv=>whnf)
  ·have hs:Wc Yw l=l:=by unfold Wc;rw[if_pos (by omega)]
   rw[hs];rw[Nat.zero_add];exact FIN.rows h0 2 4 n rfl rfl rfl (Z7 _) ⟨by rw[hln],rfl,rfl⟩
  ·have hs:Wc Yw l=Yi Yw [] (Wc Yw (l.take (n/2))) (Wc Yw (l.drop (n/2))):=by
    conv=>lhs;unfold Wc
    rw[if_neg (by omega),hln]
   have e1:l.take (n/2)=(A.drop i).take (n/2):=by rw[hl,List.take_take,Nat.min_eq_left (by omega)]
   have e2:l.drop (n/2)=(A.drop (i+n/2)).take (n-n/2):=by rw[hl,List.drop_take,List.drop_drop]
   have hn2:2<=n:=by omega
   obtain⟨k',rfl⟩:∃k',k=k'+1:=⟨k-1,by omega⟩;have r1:=WO A hA k' (n/2) i (by omega) (by omega);have r2:=WO A hA k' (n-n/2) (i+n/2) (by omega) (by omega);rw[<-e1]at r1;rw[<-e2]at r2;have l1:=Z7J (l:=l.take (n/2));have l2:=Z7J (l:=l.drop (n/2));generalize Wc Yw (l.take (n/2))=X at r1 hs l1;generalize Wc Yw (l.drop (n/2))=Y at r2 hs l2;have hw:IntKind.i64.wrap (Int.tdiv (n:Int) 2)=((n/2:Nat):Int):=by rw[Int.tdiv_eq_ediv_of_nonneg (by omega),Z9 (by omega) (by omega)];omega
   repeat'((first|refine DRAWN.of (id:=3) Z1 mixed YG (by kernel_rfl) ?_|refine DRAWN.of (id:=7) Z1 mixed YH (by kernel_rfl) ?_|refine DRAWN.of (id:=12) Z1 mixed YI (by kernel_rfl) ?_|refine ADD.mk (fun _ _=>?_)|refine AD ?_|refine FORK.mk ?_ ?_|(rw[hw];conv=>whnf)|(rw[Int.toNat_natCast];conv=>whnf)|refine AU ?_|(refine IW ?_ ?_<;>intro h<;>try(exfalso;omega)))<;>conv=>whnf)
   refine CALL.aA [0] (r1) ?_;rintro r O nx ⟨rfl,rfl,rfl⟩;conv=>whnf
   repeat'((first|refine DRAWN.of (id:=3) Z1 mixed YG (by kernel_rfl) ?_|refine DRAWN.of (id:=7) Z1 mixed YH (by kernel_rfl) ?_|refine DRAWN.of (id:=12) Z1 mixed YI (by kernel_rfl) ?_|refine ADD.mk (fun _ _=>?_)|refine AD ?_|refine FORK.mk ?_ ?_|(rw[hw];conv=>whnf)|(rw[Int.toNat_natCast];conv=>whnf)|refine AU ?_|(refine IW ?_ ?_<;>intro h<;>try(exfalso;omega)))<;>conv=>whnf)
   refine CALL.aA [0] (r2) ?_;rintro r O nx ⟨rfl,rfl,rfl⟩;conv=>whnf
   repeat'((first|refine DRAWN.of (id:=3) Z1 mixed YG (by kernel_rfl) ?_|refine DRAWN.of (id:=7) Z1 mixed YH (by kernel_rfl) ?_|refine DRAWN.of (id:=12) Z1 mixed YI (by kernel_rfl) ?_|refine ADD.mk (fun _ _=>?_)|refine AD ?_|refine FORK.mk ?_ ?_|refine AU ?_|(refine IW ?_ ?_<;>intro h<;>try(exfalso;omega)))<;>conv=>whnf)
   refine LOOP.nil 5 4 rfl ?_
   refine LOOP.go Z1 [] (X:=List Tm×Nat×Nat) (fun x=>x.2.1<=X.length/\x.2.2<=Y.length/\x.1.length<=x.2.1+x.2.2/\Wc Yw l=Yi Yw x.1 (X.drop x.2.1) (Y.drop x.2.2))
    (fun x=>[(3, .sl (.loc 1) x.2.1 4 (X.length-x.2.1) none),(4, .sl (.loc 2) x.2.2 4 (Y.length-x.2.2) none),(5, .sl (.loc 3) 0 4 x.1.length none)]) (fun x=>[(1, .rows 4 (X.map Zu)),(2, .rows 4 (Y.map Zu)),(3, .rows 4 (x.1.map Zu))]) 4 (fun x=>(X.length-x.2.1)+(Y.length-x.2.2)) ([],0,0) ⟨by simp,by simp,by simp,hs⟩ ?_
   conv=>whnf
   refine⟨by exact GOES.cA h0,?_⟩;rintro⟨out,p,q⟩ ⟨hp,hq,ho,hr⟩;dsimp only at hp hq ho hr⊢;have hl1:X.length+Y.length<=A.length:=by simp at l1 l2;omega
   have hlast:∀(h:0<out.length),IntKind.i64.wrap ((out.length:Int)-1)=((out.length-1:Nat):Int):=fun h=>by rw[Z9 (by omega) (by omega)];omega
   by_cases hpn:p<X.length<;>by_cases hqm:q<Y.length
   ·have ha:X.drop p=X[p]::X.drop (p+1):=List.drop_eq_getElem_cons hpn;have hb:Y.drop q=Y[q]::Y.drop (q+1):=List.drop_eq_getElem_cons hqm;rw[ha,hb]at hr;by_cases hc:Yw X[p] Y[q]<=0
    ·rw[Z3Y _ (.inr ⟨_,_,rfl,hc⟩),<-hb]at hr
     have hN2:Zfu out X[p]\/∃h0:0<out.length,out[out.length-1]'(by omega)=X[p]:=by
      by_cases h0:out.length=0
      ·exact .inl (.inl h0)
      ·by_cases he:out[out.length-1]'(by omega)=X[p]
       ·exact .inr ⟨by omega,he⟩
       ·exact .inl (.inr ⟨by omega,he⟩)
     rcases hN2 with hN|hN
     ·have hr:=hr.trans (congrArg (fun z=>Yi Yw z (X.drop (p+1)) (Y.drop q)) (Z0v hN));conv=>whnf
      repeat'((first|refine DRAWN.of (id:=3) Z1 mixed YG (by kernel_rfl) ?_|refine DRAWN.of (id:=7) Z1 mixed YH (by kernel_rfl) ?_|refine DRAWN.of (id:=12) Z1 mixed YI (by kernel_rfl) ?_|refine ADD.mk (fun _ _=>?_)|refine AD ?_|refine FORK.mk ?_ ?_|refine CALL.value (Y5 _ _) rfl rfl ?_|(refine NEED.mk (ZC 56 rfl rfl rfl (by simp) (by omega)) ?_;conv=>whnf)|(refine GET.at (row:=Zu (X[p]'(by omega))) (Y6 (by omega) (by omega)) ?_;conv=>whnf)|(refine GET.at (row:=Zu (Y[q]'(by omega))) (Y6 (by omega) (by omega)) ?_;conv=>whnf)|(refine GET.at (row:=Zu (out[out.length-1]'(by omega))) (Y6 (by omega) (by rw[hlast (by omega)];omega)) ?_;conv=>whnf)|refine AU ?_|(refine IW ?_ ?_<;>intro h<;>try(exfalso;omega)))<;>conv=>whnf)
      all_goals first
       |(exfalso;omega)
       |(exfalso;rcases hN with h1|⟨h1,h2⟩;omega;exact h2 (Tm.ext' (by simp only[Zu,List.cons.injEq,SV.int.injEq,SV.str.injEq,true_and,and_true];exact h)))
       |(refine⟨(out++ [X[p]],p+1,q),⟨by dsimp only;omega,by dsimp only;omega,by simp only[List.length_append,List.length_cons,List.length_nil];omega,hr⟩,by dsimp only;omega,?_⟩;dsimp only;(conv=>whnf);(refine GOES.keeping h0 [1,2,6] rfl rfl rfl (by first|rfl|(simp only[Zn,Zm,Z4 _ (Z7 _),Bool.and_self,Bool.and_true]<;>rfl)) ?_ ?_<;>(repeat'(first|(with_reducible rfl)|(exact Zo (Z7 _) (Ze _ (Z7 _)))|(exact Zo (Z7 _) (by(simp[List.take_of_length_le,Yj,Zu])))|(exact X2 rfl (by first|(simp;done)|omega|(simp;omega)))|(exact congrArg (SV.int _) (by first|omega|(simp(disch:=omega) only[lnB,Z9,Zq]<;>omega)|(simp;done)|(simp<;>omega)))|((conv=>whnf);refine⟨?_,?_⟩)|exact trivial|(simp only[ren,renB];done)|rfl)));done)
       |(refine⟨(out++ [X[p]],p+1,q),⟨by dsimp only;omega,by dsimp only;omega,by simp only[List.length_append,List.length_cons,List.length_nil];omega,hr⟩,by dsimp only;omega,?_⟩;dsimp only;(conv=>whnf);(refine GOES.keeping h0 [1,2,5] rfl rfl rfl (by first|rfl|(simp only[Zn,Zm,Z4 _ (Z7 _),Bool.and_self,Bool.and_true]<;>rfl)) ?_ ?_<;>(repeat'(first|(with_reducible rfl)|(exact Zo (Z7 _) (Ze _ (Z7 _)))|(exact Zo (Z7 _) (by(simp[List.take_of_length_le,Yj,Zu])))|(exact X2 rfl (by first|(simp;done)|omega|(simp;omega)))|(exact congrArg (SV.int _) (by first|omega|(simp(disch:=omega) only[lnB,Z9,Zq]<;>omega)|(simp;done)|(simp<;>omega)))|((conv=>whnf);refine⟨?_,?_⟩)|exact trivial|(simp only[ren,renB];done)|rfl)));done)
       |(refine⟨(out++ [X[p]],p+1,q),⟨by dsimp only;omega,by dsimp only;omega,by simp only[List.length_append,List.length_cons,List.length_nil];omega,hr⟩,by dsimp only;omega,?_⟩;dsimp only;(conv=>whnf);(refine GOES.keeping h0 [1,2,7] rfl rfl rfl (by first|rfl|(simp only[Zn,Zm,Z4 _ (Z7 _),Bool.and_self,Bool.and_true]<;>rfl)) ?_ ?_<;>(repeat'(first|(with_reducible rfl)|(exact Zo (Z7 _) (Ze _ (Z7 _)))|(exact Zo (Z7 _) (by(simp[List.take_of_length_le,Yj,Zu])))|(exact X2 rfl (by first|(simp;done)|omega|(simp;omega)))|(exact congrArg (SV.int _) (by first|omega|(simp(disch:=omega) only[lnB,Z9,Zq]<;>omega)|(simp;done)|(simp<;>omega)))|((conv=>whnf);refine⟨?_,?_⟩)|exact trivial|(simp only[ren,renB];done)|rfl)));done)
       |trace_state
     ·have hr:=hr.trans (congrArg (fun z=>Yi Yw z (X.drop (p+1)) (Y.drop q)) (Z2k hN));conv=>whnf
      repeat'((first|refine DRAWN.of (id:=3) Z1 mixed YG (by kernel_rfl) ?_|refine DRAWN.of (id:=7) Z1 mixed YH (by kernel_rfl) ?_|refine DRAWN.of (id:=12) Z1 mixed YI (by kernel_rfl) ?_|refine ADD.mk (fun _ _=>?_)|refine AD ?_|refine FORK.mk ?_ ?_|refine CALL.value (Y5 _ _) rfl rfl ?_|(refine NEED.mk (ZC 56 rfl rfl rfl (by simp) (by omega)) ?_;conv=>whnf)|(refine GET.at (row:=Zu (X[p]'(by omega))) (Y6 (by omega) (by omega)) ?_;conv=>whnf)|(refine GET.at (row:=Zu (Y[q]'(by omega))) (Y6 (by omega) (by omega)) ?_;conv=>whnf)|(refine GET.at (row:=Zu (out[out.length-1]'(by omega))) (Y6 (by omega) (by rw[hlast (by omega)];omega)) ?_;conv=>whnf)|refine AU ?_|(refine IW ?_ ?_<;>intro h<;>try(exfalso;omega)))<;>conv=>whnf)
      all_goals first
       |(exfalso;omega)
       |(exfalso;have h2:=hN.2;rw[h2]at h;simp at h;done)
       |(exfalso;have h2:=hN.1;omega)
       |(refine⟨(out,p+1,q),⟨by dsimp only;omega,by dsimp only;omega,by dsimp only;omega,hr⟩,by dsimp only;omega,?_⟩;dsimp only;(conv=>whnf);exact GOES.cA h0;done)
       |trace_state
    ·rw[Z1y _ (.inr ⟨_,_,rfl,hc⟩),<-ha]at hr
     have hN2:Zfu out Y[q]\/∃h0:0<out.length,out[out.length-1]'(by omega)=Y[q]:=by
      by_cases h0:out.length=0
      ·exact .inl (.inl h0)
      ·by_cases he:out[out.length-1]'(by omega)=Y[q]
       ·exact .inr ⟨by omega,he⟩
       ·exact .inl (.inr ⟨by omega,he⟩)
     rcases hN2 with hN|hN
     ·have hr:=hr.trans (congrArg (fun z=>Yi Yw z (X.drop p) (Y.drop (q+1))) (Z0v hN));conv=>whnf
      repeat'((first|refine DRAWN.of (id:=3) Z1 mixed YG (by kernel_rfl) ?_|refine DRAWN.of (id:=7) Z1 mixed YH (by kernel_rfl) ?_|refine DRAWN.of (id:=12) Z1 mixed YI (by kernel_rfl) ?_|refine ADD.mk (fun _ _=>?_)|refine AD ?_|refine FORK.mk ?_ ?_|refine CALL.value (Y5 _ _) rfl rfl ?_|(refine NEED.mk (ZC 56 rfl rfl rfl (by simp) (by omega)) ?_;conv=>whnf)|(refine GET.at (row:=Zu (X[p]'(by omega))) (Y6 (by omega) (by omega)) ?_;conv=>whnf)|(refine GET.at (row:=Zu (Y[q]'(by omega))) (Y6 (by omega) (by omega)) ?_;conv=>whnf)|(refine GET.at (row:=Zu (out[out.length-1]'(by omega))) (Y6 (by omega) (by rw[hlast (by omega)];omega)) ?_;conv=>whnf)|refine AU ?_|(refine IW ?_ ?_<;>intro h<;>try(exfalso;omega)))<;>conv=>whnf)
      all_goals first
       |(exfalso;omega)
       |(exfalso;rcases hN with h1|⟨h1,h2⟩;omega;exact h2 (Tm.ext' (by simp only[Zu,List.cons.injEq,SV.int.injEq,SV.str.injEq,true_and,and_true];exact h)))
       |(refine⟨(out++ [Y[q]],p,q+1),⟨by dsimp only;omega,by dsimp only;omega,by simp only[List.length_append,List.length_cons,List.length_nil];omega,hr⟩,by dsimp only;omega,?_⟩;dsimp only;(conv=>whnf);(refine GOES.keeping h0 [1,2,6] rfl rfl rfl (by first|rfl|(simp only[Zn,Zm,Z4 _ (Z7 _),Bool.and_self,Bool.and_true]<;>rfl)) ?_ ?_<;>(repeat'(first|(with_reducible rfl)|(exact Zo (Z7 _) (Ze _ (Z7 _)))|(exact Zo (Z7 _) (by(simp[List.take_of_length_le,Yj,Zu])))|(exact X2 rfl (by first|(simp;done)|omega|(simp;omega)))|(exact congrArg (SV.int _) (by first|omega|(simp(disch:=omega) only[lnB,Z9,Zq]<;>omega)|(simp;done)|(simp<;>omega)))|((conv=>whnf);refine⟨?_,?_⟩)|exact trivial|(simp only[ren,renB];done)|rfl)));done)
       |(refine⟨(out++ [Y[q]],p,q+1),⟨by dsimp only;omega,by dsimp only;omega,by simp only[List.length_append,List.length_cons,List.length_nil];omega,hr⟩,by dsimp only;omega,?_⟩;dsimp only;(conv=>whnf);(refine GOES.keeping h0 [1,2,5] rfl rfl rfl (by first|rfl|(simp only[Zn,Zm,Z4 _ (Z7 _),Bool.and_self,Bool.and_true]<;>rfl)) ?_ ?_<;>(repeat'(first|(with_reducible rfl)|(exact Zo (Z7 _) (Ze _ (Z7 _)))|(exact Zo (Z7 _) (by(simp[List.take_of_length_le,Yj,Zu])))|(exact X2 rfl (by first|(simp;done)|omega|(simp;omega)))|(exact congrArg (SV.int _) (by first|omega|(simp(disch:=omega) only[lnB,Z9,Zq]<;>omega)|(simp;done)|(simp<;>omega)))|((conv=>whnf);refine⟨?_,?_⟩)|exact trivial|(simp only[ren,renB];done)|rfl)));done)
       |(refine⟨(out++ [Y[q]],p,q+1),⟨by dsimp only;omega,by dsimp only;omega,by simp only[List.length_append,List.length_cons,List.length_nil];omega,hr⟩,by dsimp only;omega,?_⟩;dsimp only;(conv=>whnf);(refine GOES.keeping h0 [1,2,7] rfl rfl rfl (by first|rfl|(simp only[Zn,Zm,Z4 _ (Z7 _),Bool.and_self,Bool.and_true]<;>rfl)) ?_ ?_<;>(repeat'(first|(with_reducible rfl)|(exact Zo (Z7 _) (Ze _ (Z7 _)))|(exact Zo (Z7 _) (by(simp[List.take_of_length_le,Yj,Zu])))|(exact X2 rfl (by first|(simp;done)|omega|(simp;omega)))|(exact congrArg (SV.int _) (by first|omega|(simp(disch:=omega) only[lnB,Z9,Zq]<;>omega)|(simp;done)|(simp<;>omega)))|((conv=>whnf);refine⟨?_,?_⟩)|exact trivial|(simp only[ren,renB];done)|rfl)));done)
       |trace_state
     ·have hr:=hr.trans (congrArg (fun z=>Yi Yw z (X.drop p) (Y.drop (q+1))) (Z2k hN));conv=>whnf
      repeat'((first|refine DRAWN.of (id:=3) Z1 mixed YG (by kernel_rfl) ?_|refine DRAWN.of (id:=7) Z1 mixed YH (by kernel_rfl) ?_|refine DRAWN.of (id:=12) Z1 mixed YI (by kernel_rfl) ?_|refine ADD.mk (fun _ _=>?_)|refine AD ?_|refine FORK.mk ?_ ?_|refine CALL.value (Y5 _ _) rfl rfl ?_|(refine NEED.mk (ZC 56 rfl rfl rfl (by simp) (by omega)) ?_;conv=>whnf)|(refine GET.at (row:=Zu (X[p]'(by omega))) (Y6 (by omega) (by omega)) ?_;conv=>whnf)|(refine GET.at (row:=Zu (Y[q]'(by omega))) (Y6 (by omega) (by omega)) ?_;conv=>whnf)|(refine GET.at (row:=Zu (out[out.length-1]'(by omega))) (Y6 (by omega) (by rw[hlast (by omega)];omega)) ?_;conv=>whnf)|refine AU ?_|(refine IW ?_ ?_<;>intro h<;>try(exfalso;omega)))<;>conv=>whnf)
      all_goals first
       |(exfalso;omega)
       |(exfalso;have h2:=hN.2;rw[h2]at h;simp at h;done)
       |(exfalso;have h2:=hN.1;omega)
       |(refine⟨(out,p,q+1),⟨by dsimp only;omega,by dsimp only;omega,by dsimp only;omega,hr⟩,by dsimp only;omega,?_⟩;dsimp only;(conv=>whnf);exact GOES.cA h0;done)
       |trace_state
   ·have ha:X.drop p=X[p]::X.drop (p+1):=List.drop_eq_getElem_cons hpn;have hb:Y.drop q=[]:=List.drop_eq_nil_of_le (by omega);rw[ha,hb,Z3Y _ (.inl rfl),<-hb]at hr
    have hN2:Zfu out X[p]\/∃h0:0<out.length,out[out.length-1]'(by omega)=X[p]:=by
     by_cases h0:out.length=0
     ·exact .inl (.inl h0)
     ·by_cases he:out[out.length-1]'(by omega)=X[p]
      ·exact .inr ⟨by omega,he⟩
      ·exact .inl (.inr ⟨by omega,he⟩)
    rcases hN2 with hN|hN
    ·have hr:=hr.trans (congrArg (fun z=>Yi Yw z (X.drop (p+1)) (Y.drop q)) (Z0v hN));conv=>whnf
     repeat'((first|refine DRAWN.of (id:=3) Z1 mixed YG (by kernel_rfl) ?_|refine DRAWN.of (id:=7) Z1 mixed YH (by kernel_rfl) ?_|refine DRAWN.of (id:=12) Z1 mixed YI (by kernel_rfl) ?_|refine ADD.mk (fun _ _=>?_)|refine AD ?_|refine FORK.mk ?_ ?_|refine CALL.value (Y5 _ _) rfl rfl ?_|(refine NEED.mk (ZC 56 rfl rfl rfl (by simp) (by omega)) ?_;conv=>whnf)|(refine GET.at (row:=Zu (X[p]'(by omega))) (Y6 (by omega) (by omega)) ?_;conv=>whnf)|(refine GET.at (row:=Zu (Y[q]'(by omega))) (Y6 (by omega) (by omega)) ?_;conv=>whnf)|(refine GET.at (row:=Zu (out[out.length-1]'(by omega))) (Y6 (by omega) (by rw[hlast (by omega)];omega)) ?_;conv=>whnf)|refine AU ?_|(refine IW ?_ ?_<;>intro h<;>try(exfalso;omega)))<;>conv=>whnf)
     all_goals first
      |(exfalso;omega)
      |(exfalso;rcases hN with h1|⟨h1,h2⟩;omega;exact h2 (Tm.ext' (by simp only[Zu,List.cons.injEq,SV.int.injEq,SV.str.injEq,true_and,and_true];exact h)))
      |(refine⟨(out++ [X[p]],p+1,q),⟨by dsimp only;omega,by dsimp only;omega,by simp only[List.length_append,List.length_cons,List.length_nil];omega,hr⟩,by dsimp only;omega,?_⟩;dsimp only;(conv=>whnf);(refine GOES.keeping h0 [1,2,6] rfl rfl rfl (by first|rfl|(simp only[Zn,Zm,Z4 _ (Z7 _),Bool.and_self,Bool.and_true]<;>rfl)) ?_ ?_<;>(repeat'(first|(with_reducible rfl)|(exact Zo (Z7 _) (Ze _ (Z7 _)))|(exact Zo (Z7 _) (by(simp[List.take_of_length_le,Yj,Zu])))|(exact X2 rfl (by first|(simp;done)|omega|(simp;omega)))|(exact congrArg (SV.int _) (by first|omega|(simp(disch:=omega) only[lnB,Z9,Zq]<;>omega)|(simp;done)|(simp<;>omega)))|((conv=>whnf);refine⟨?_,?_⟩)|exact trivial|(simp only[ren,renB];done)|rfl)));done)
      |(refine⟨(out++ [X[p]],p+1,q),⟨by dsimp only;omega,by dsimp only;omega,by simp only[List.length_append,List.length_cons,List.length_nil];omega,hr⟩,by dsimp only;omega,?_⟩;dsimp only;(conv=>whnf);(refine GOES.keeping h0 [1,2,5] rfl rfl rfl (by first|rfl|(simp only[Zn,Zm,Z4 _ (Z7 _),Bool.and_self,Bool.and_true]<;>rfl)) ?_ ?_<;>(repeat'(first|(with_reducible rfl)|(exact Zo (Z7 _) (Ze _ (Z7 _)))|(exact Zo (Z7 _) (by(simp[List.take_of_length_le,Yj,Zu])))|(exact X2 rfl (by first|(simp;done)|omega|(simp;omega)))|(exact congrArg (SV.int _) (by first|omega|(simp(disch:=omega) only[lnB,Z9,Zq]<;>omega)|(simp;done)|(simp<;>omega)))|((conv=>whnf);refine⟨?_,?_⟩)|exact trivial|(simp only[ren,renB];done)|rfl)));done)
      |(refine⟨(out++ [X[p]],p+1,q),⟨by dsimp only;omega,by dsimp only;omega,by simp only[List.length_append,List.length_cons,List.length_nil];omega,hr⟩,by dsimp only;omega,?_⟩;dsimp only;(conv=>whnf);(refine GOES.keeping h0 [1,2,7] rfl rfl rfl (by first|rfl|(simp only[Zn,Zm,Z4 _ (Z7 _),Bool.and_self,Bool.and_true]<;>rfl)) ?_ ?_<;>(repeat'(first|(with_reducible rfl)|(exact Zo (Z7 _) (Ze _ (Z7 _)))|(exact Zo (Z7 _) (by(simp[List.take_of_length_le,Yj,Zu])))|(exact X2 rfl (by first|(simp;done)|omega|(simp;omega)))|(exact congrArg (SV.int _) (by first|omega|(simp(disch:=omega) only[lnB,Z9,Zq]<;>omega)|(simp;done)|(simp<;>omega)))|((conv=>whnf);refine⟨?_,?_⟩)|exact trivial|(simp only[ren,renB];done)|rfl)));done)
      |trace_state
    ·have hr:=hr.trans (congrArg (fun z=>Yi Yw z (X.drop (p+1)) (Y.drop q)) (Z2k hN));conv=>whnf
     repeat'((first|refine DRAWN.of (id:=3) Z1 mixed YG (by kernel_rfl) ?_|refine DRAWN.of (id:=7) Z1 mixed YH (by kernel_rfl) ?_|refine DRAWN.of (id:=12) Z1 mixed YI (by kernel_rfl) ?_|refine ADD.mk (fun _ _=>?_)|refine AD ?_|refine FORK.mk ?_ ?_|refine CALL.value (Y5 _ _) rfl rfl ?_|(refine NEED.mk (ZC 56 rfl rfl rfl (by simp) (by omega)) ?_;conv=>whnf)|(refine GET.at (row:=Zu (X[p]'(by omega))) (Y6 (by omega) (by omega)) ?_;conv=>whnf)|(refine GET.at (row:=Zu (Y[q]'(by omega))) (Y6 (by omega) (by omega)) ?_;conv=>whnf)|(refine GET.at (row:=Zu (out[out.length-1]'(by omega))) (Y6 (by omega) (by rw[hlast (by omega)];omega)) ?_;conv=>whnf)|refine AU ?_|(refine IW ?_ ?_<;>intro h<;>try(exfalso;omega)))<;>conv=>whnf)
     all_goals first
      |(exfalso;omega)
      |(exfalso;have h2:=hN.2;rw[h2]at h;simp at h;done)
      |(exfalso;have h2:=hN.1;omega)
      |(refine⟨(out,p+1,q),⟨by dsimp only;omega,by dsimp only;omega,by dsimp only;omega,hr⟩,by dsimp only;omega,?_⟩;dsimp only;(conv=>whnf);exact GOES.cA h0;done)
      |trace_state
   ·have hb:Y.drop q=Y[q]::Y.drop (q+1):=List.drop_eq_getElem_cons hqm;have ha:X.drop p=[]:=List.drop_eq_nil_of_le (by omega);rw[ha,hb,Z1y _ (.inl rfl),<-ha]at hr
    have hN2:Zfu out Y[q]\/∃h0:0<out.length,out[out.length-1]'(by omega)=Y[q]:=by
     by_cases h0:out.length=0
     ·exact .inl (.inl h0)
     ·by_cases he:out[out.length-1]'(by omega)=Y[q]
      ·exact .inr ⟨by omega,he⟩
      ·exact .inl (.inr ⟨by omega,he⟩)
    rcases hN2 with hN|hN
    ·have hr:=hr.trans (congrArg (fun z=>Yi Yw z (X.drop p) (Y.drop (q+1))) (Z0v hN));conv=>whnf
     repeat'((first|refine DRAWN.of (id:=3) Z1 mixed YG (by kernel_rfl) ?_|refine DRAWN.of (id:=7) Z1 mixed YH (by kernel_rfl) ?_|refine DRAWN.of (id:=12) Z1 mixed YI (by kernel_rfl) ?_|refine ADD.mk (fun _ _=>?_)|refine AD ?_|refine FORK.mk ?_ ?_|refine CALL.value (Y5 _ _) rfl rfl ?_|(refine NEED.mk (ZC 56 rfl rfl rfl (by simp) (by omega)) ?_;conv=>whnf)|(refine GET.at (row:=Zu (X[p]'(by omega))) (Y6 (by omega) (by omega)) ?_;conv=>whnf)|(refine GET.at (row:=Zu (Y[q]'(by omega))) (Y6 (by omega) (by omega)) ?_;conv=>whnf)|(refine GET.at (row:=Zu (out[out.length-1]'(by omega))) (Y6 (by omega) (by rw[hlast (by omega)];omega)) ?_;conv=>whnf)|refine AU ?_|(refine IW ?_ ?_<;>intro h<;>try(exfalso;omega)))<;>conv=>whnf)
     all_goals first
      |(exfalso;omega)
      |(exfalso;rcases hN with h1|⟨h1,h2⟩;omega;exact h2 (Tm.ext' (by simp only[Zu,List.cons.injEq,SV.int.injEq,SV.str.injEq,true_and,and_true];exact h)))
      |(refine⟨(out++ [Y[q]],p,q+1),⟨by dsimp only;omega,by dsimp only;omega,by simp only[List.length_append,List.length_cons,List.length_nil];omega,hr⟩,by dsimp only;omega,?_⟩;dsimp only;(conv=>whnf);(refine GOES.keeping h0 [1,2,6] rfl rfl rfl (by first|rfl|(simp only[Zn,Zm,Z4 _ (Z7 _),Bool.and_self,Bool.and_true]<;>rfl)) ?_ ?_<;>(repeat'(first|(with_reducible rfl)|(exact Zo (Z7 _) (Ze _ (Z7 _)))|(exact Zo (Z7 _) (by(simp[List.take_of_length_le,Yj,Zu])))|(exact X2 rfl (by first|(simp;done)|omega|(simp;omega)))|(exact congrArg (SV.int _) (by first|omega|(simp(disch:=omega) only[lnB,Z9,Zq]<;>omega)|(simp;done)|(simp<;>omega)))|((conv=>whnf);refine⟨?_,?_⟩)|exact trivial|(simp only[ren,renB];done)|rfl)));done)
      |(refine⟨(out++ [Y[q]],p,q+1),⟨by dsimp only;omega,by dsimp only;omega,by simp only[List.length_append,List.length_cons,List.length_nil];omega,hr⟩,by dsimp only;omega,?_⟩;dsimp only;(conv=>whnf);(refine GOES.keeping h0 [1,2,5] rfl rfl rfl (by first|rfl|(simp only[Zn,Zm,Z4 _ (Z7 _),Bool.and_self,Bool.and_true]<;>rfl)) ?_ ?_<;>(repeat'(first|(with_reducible rfl)|(exact Zo (Z7 _) (Ze _ (Z7 _)))|(exact Zo (Z7 _) (by(simp[List.take_of_length_le,Yj,Zu])))|(exact X2 rfl (by first|(simp;done)|omega|(simp;omega)))|(exact congrArg (SV.int _) (by first|omega|(simp(disch:=omega) only[lnB,Z9,Zq]<;>omega)|(simp;done)|(simp<;>omega)))|((conv=>whnf);refine⟨?_,?_⟩)|exact trivial|(simp only[ren,renB];done)|rfl)));done)
      |(refine⟨(out++ [Y[q]],p,q+1),⟨by dsimp only;omega,by dsimp only;omega,by simp only[List.length_append,List.length_cons,List.length_nil];omega,hr⟩,by dsimp only;omega,?_⟩;dsimp only;(conv=>whnf);(refine GOES.keeping h0 [1,2,7] rfl rfl rfl (by first|rfl|(simp only[Zn,Zm,Z4 _ (Z7 _),Bool.and_self,Bool.and_true]<;>rfl)) ?_ ?_<;>(repeat'(first|(with_reducible rfl)|(exact Zo (Z7 _) (Ze _ (Z7 _)))|(exact Zo (Z7 _) (by(simp[List.take_of_length_le,Yj,Zu])))|(exact X2 rfl (by first|(simp;done)|omega|(simp;omega)))|(exact congrArg (SV.int _) (by first|omega|(simp(disch:=omega) only[lnB,Z9,Zq]<;>omega)|(simp;done)|(simp<;>omega)))|((conv=>whnf);refine⟨?_,?_⟩)|exact trivial|(simp only[ren,renB];done)|rfl)));done)
      |trace_state
    ·have hr:=hr.trans (congrArg (fun z=>Yi Yw z (X.drop p) (Y.drop (q+1))) (Z2k hN));conv=>whnf
     repeat'((first|refine DRAWN.of (id:=3) Z1 mixed YG (by kernel_rfl) ?_|refine DRAWN.of (id:=7) Z1 mixed YH (by kernel_rfl) ?_|refine DRAWN.of (id:=12) Z1 mixed YI (by kernel_rfl) ?_|refine ADD.mk (fun _ _=>?_)|refine AD ?_|refine FORK.mk ?_ ?_|refine CALL.value (Y5 _ _) rfl rfl ?_|(refine NEED.mk (ZC 56 rfl rfl rfl (by simp) (by omega)) ?_;conv=>whnf)|(refine GET.at (row:=Zu (X[p]'(by omega))) (Y6 (by omega) (by omega)) ?_;conv=>whnf)|(refine GET.at (row:=Zu (Y[q]'(by omega))) (Y6 (by omega) (by omega)) ?_;conv=>whnf)|(refine GET.at (row:=Zu (out[out.length-1]'(by omega))) (Y6 (by omega) (by rw[hlast (by omega)];omega)) ?_;conv=>whnf)|refine AU ?_|(refine IW ?_ ?_<;>intro h<;>try(exfalso;omega)))<;>conv=>whnf)
     all_goals first
      |(exfalso;omega)
      |(exfalso;have h2:=hN.2;rw[h2]at h;simp at h;done)
      |(exfalso;have h2:=hN.1;omega)
      |(refine⟨(out,p,q+1),⟨by dsimp only;omega,by dsimp only;omega,by dsimp only;omega,hr⟩,by dsimp only;omega,?_⟩;dsimp only;(conv=>whnf);exact GOES.cA h0;done)
      |trace_state
   ·have ha:X.drop p=[]:=List.drop_eq_nil_of_le (by omega);have hb:Y.drop q=[]:=List.drop_eq_nil_of_le (by omega);rw[ha,hb,Zbn]at hr;conv=>whnf
    repeat'((first|refine AU ?_|(refine IW ?_ ?_<;>intro h<;>try(exfalso;omega)))<;>conv=>whnf)
    rw[hr];exact FIN.rows h0 3 4 out.length rfl rfl rfl (Z7 _) ⟨rfl,rfl,rfl⟩
end Go.Proofs.YtbfbokdccdagkaaGreatDoor
