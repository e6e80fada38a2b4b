/- Part 12: Sets6, TermsG, Terms7, Ren7. Conditions: as each part says. -/
import Derived.Test.YtbfbokdccdagkaaGreatDoorUnm11
set_option linter.unusedVariables false
set_option linter.unusedSimpArgs false
set_option maxRecDepth 20000
set_option maxHeartbeats 8000000
namespace Go.Proofs.YtbfbokdccdagkaaGreatDoor
open Go.Sx Go.Our
end Go.Proofs.YtbfbokdccdagkaaGreatDoor
namespace Go.Proofs.YtbfbokdccdagkaaGreatDoor
open Go.Sx Go.Our
theorem ZaY{α:Type}(f:Qd->List α){l:List Qd}{i:Nat}(h:i<l.length):(l.take (i+1)).flatMap f=(l.take i).flatMap f++f l[i]:=by
 rw[List.take_succ_eq_append_getElem h,List.flatMap_append];simp
theorem Xz{α:Type}(f:Qd->List α){k:Nat}(hk:∀q,(f q).length<=k):∀(l:List Qd),(l.flatMap f).length<=l.length*k
 | []=>by simp
 |q::l=>by
  have:=Xz f hk l;have:=hk q;simp only[List.flatMap_cons,List.length_append,List.length_cons,Nat.succ_mul];omega
open Tryz
theorem Ys(q:Qd):(YA q).length<=4:=by
 have h:∀t,(Ym t).length<=1:=fun t=>by unfold Ym;split<;>simp
 have:=h q.s;have:=h q.p;have:=h q.o;have:=h q.g;unfold YA;simp only[List.length_append];omega
def ZaZ(q:Qd):List Tm:=[q.s,q.p,q.o,q.g]
theorem Zf5(q:Qd):YA q=(ZaZ q).flatMap Ym:=by simp[YA,ZaZ]
def Wy(q:Qd)(j:Nat):List (List UInt8):=((ZaZ q).take j).flatMap Ym
theorem Zf6(q:Qd):Wy q 4=YA q:=by rw[Zf5];rfl
theorem Z4s(q:Qd):Wy q 1=Wy q 0++Ym q.s/\Wy q 2=Wy q 1++Ym q.p/\Wy q 3=Wy q 2++Ym q.o/\Wy q 4=Wy q 3++Ym q.g:=by simp[Wy,ZaZ]
theorem Z1a{t:Tm}(h:t.k=2):Ym t=[t.t]:=by unfold Ym;rw[if_pos h]
theorem Z1b{t:Tm}(h:¬t.k=2):Ym t=[]:=by unfold Ym;rw[if_neg h]
theorem Zb0(q:Qd)(j:Nat):(Wy q j).length<=j:=by
 have h:∀t,(Ym t).length<=1:=fun t=>by unfold Ym;split<;>simp
 unfold Wy
 have h2:∀(l:List Tm),(l.flatMap Ym).length<=l.length:=fun l=>by
  induction l with
  |nil=>simp
  |cons t l ih=>have:=h t;simp only[List.flatMap_cons,List.length_append,List.length_cons];omega
 have:=h2 ((ZaZ q).take j);rw[List.length_take]at this;omega
theorem Yd(l z:List Qd)(lim:Option Nat)(hl:Xf l)(hz:(l++z).length<=1152921504606846976):Does prog tab 30 1 [.sl (.loc 0) 0 16 l.length lim] [] [(0, .rows 16 ((l++z).map Zl))]
 (Z5K Z3 1 1 ([]:List UInt8) (ZD l).length (setL cmpL (ZD l))):=by
 unfold Xf at hl;have hlen:∀i,((l.take i).flatMap YA).length<=(l.take i).length*4:=fun i=>Xz _ Ys _;unfold ZD;refine Does.enter Z1 call30 func30 rfl 37 rfl rfl [.tmp 2] rfl ?_;intro w0 F η0 h0;conv=>whnf
 refine LOOP.nil 3 1 rfl ?_;refine LOOP.go Z1 [8,9] (X:=Nat) (fun i=>i<=l.length) (fun i=>[(10, .int .i64 (i:Int)),(3, .sl (.loc 1) 0 1 ((l.take i).flatMap YA).length none)]) (fun i=>[(1, .rows 1 (((l.take i).flatMap YA).map Z3))]) 2 (fun i=>l.length-i) 0 (by omega) ?_;conv=>whnf
 refine⟨by exact GOES.cA h0,?_⟩;intro i hi;have hli:=hlen i;rw[List.length_take,Nat.min_eq_left hi]at hli;conv=>whnf
 by_cases hil:i<l.length
 ·have hs:=ZaY YA hil;generalize(l.take i).flatMap YA=out at*;repeat'((first|(refine GET.at (row:=Zl (l[i]'(by omega))) (Zem (by omega) (by omega)) ?_;conv=>whnf)|refine AU ?_|(refine IW ?_ ?_<;>intro h<;>try(exfalso;omega)))<;>conv=>whnf)
  refine CALL.aA [2] (Z5Q (l[i]'(by omega))) ?_;rintro r O nx ⟨rfl,rfl,rfl⟩;conv=>whnf
  refine LOOP.go Z1 [8,9,10,14] (X:=Nat×List (List UInt8)) (fun x=>x.1<=4/\x.2=out++Wy l[i] x.1) (fun x=>[(15, .int .i64 (x.1:Int)),(3, .sl (.loc 1) 0 1 x.2.length none)]) (fun x=>[(1, .rows 1 (x.2.map Z3)),(2, .box (Zl l[i]))]) 3 (fun x=>4-x.1) (0,out) ⟨by simp,by simp[Wy]⟩ ?_;conv=>whnf
  refine⟨by exact GOES.cA h0,?_⟩;rintro⟨j,o2⟩ ⟨hj,ho2⟩;dsimp only at hj ho2⊢;have hfl:=Zb0 l[i] j;have ho2l:o2.length<=i*4+j:=by rw[ho2,List.length_append];omega
  by_cases hj4:j<4
  ·obtain rfl|rfl|rfl|rfl:j=0\/j=1\/j=2\/j=3:=by omega
   ·have hst:=(Z4s l[i]).1;conv=>whnf
    repeat'((first|(refine NEED.mk ⟨by decide,by decide,rfl⟩ ?_;conv=>whnf)|(refine NEED.mk (Yc 16 rfl rfl rfl (by simp) (by omega)) ?_;conv=>whnf)|refine AU ?_|(refine IW ?_ ?_<;>intro h<;>try(exfalso;omega)))<;>conv=>whnf)
    ·refine⟨(1,o2++ [l[i].s.t]),⟨by simp,by dsimp only;rw[hst,Z1a h,ho2,List.append_assoc]⟩,by simp,?_⟩;dsimp only;conv=>whnf
     (refine GOES.keeping h0 [4,2] rfl rfl rfl (by first|rfl|(simp only[Zv,Zs,Ze _ (Zr _),Bool.and_self,Bool.and_true]<;>rfl)) ?_ ?_<;>(repeat'(first|(with_reducible rfl)|(exact X7 (Zr _) (ZQ _ (Zr _)))|(exact X7 (Zr _) (by(simp[List.take_of_length_le,XX,Z3])))|(exact YY rfl (by first|(simp;done)|omega|(simp;omega)))|(exact congrArg (SV.int _) (by first|omega|(simp(disch:=omega) only[lnB,Z6,Z9]<;>omega)|(simp;done)|(simp<;>omega)))|((conv=>whnf);refine⟨?_,?_⟩)|exact trivial|(simp only[ren,renB];done)|rfl)))
    ·refine⟨(1,o2),⟨by simp,by dsimp only;rw[hst,Z1b h,ho2,List.append_nil]⟩,by simp,?_⟩;dsimp only;conv=>whnf
     exact GOES.cA h0
   ·have hst:=(Z4s l[i]).2.1;conv=>whnf
    repeat'((first|(refine NEED.mk ⟨by decide,by decide,rfl⟩ ?_;conv=>whnf)|(refine NEED.mk (Yc 16 rfl rfl rfl (by simp) (by omega)) ?_;conv=>whnf)|refine AU ?_|(refine IW ?_ ?_<;>intro h<;>try(exfalso;omega)))<;>conv=>whnf)
    ·refine⟨(2,o2++ [l[i].p.t]),⟨by simp,by dsimp only;rw[hst,Z1a h,ho2,List.append_assoc]⟩,by simp,?_⟩;dsimp only;conv=>whnf
     (refine GOES.keeping h0 [4,2] rfl rfl rfl (by first|rfl|(simp only[Zv,Zs,Ze _ (Zr _),Bool.and_self,Bool.and_true]<;>rfl)) ?_ ?_<;>(repeat'(first|(with_reducible rfl)|(exact X7 (Zr _) (ZQ _ (Zr _)))|(exact X7 (Zr _) (by(simp[List.take_of_length_le,XX,Z3])))|(exact YY rfl (by first|(simp;done)|omega|(simp;omega)))|(exact congrArg (SV.int _) (by first|omega|(simp(disch:=omega) only[lnB,Z6,Z9]<;>omega)|(simp;done)|(simp<;>omega)))|((conv=>whnf);refine⟨?_,?_⟩)|exact trivial|(simp only[ren,renB];done)|rfl)))
    ·refine⟨(2,o2),⟨by simp,by dsimp only;rw[hst,Z1b h,ho2,List.append_nil]⟩,by simp,?_⟩;dsimp only;conv=>whnf
     exact GOES.cA h0
   ·have hst:=(Z4s l[i]).2.2.1;conv=>whnf
    repeat'((first|(refine NEED.mk ⟨by decide,by decide,rfl⟩ ?_;conv=>whnf)|(refine NEED.mk (Yc 16 rfl rfl rfl (by simp) (by omega)) ?_;conv=>whnf)|refine AU ?_|(refine IW ?_ ?_<;>intro h<;>try(exfalso;omega)))<;>conv=>whnf)
    ·refine⟨(3,o2++ [l[i].o.t]),⟨by simp,by dsimp only;rw[hst,Z1a h,ho2,List.append_assoc]⟩,by simp,?_⟩;dsimp only;conv=>whnf
     (refine GOES.keeping h0 [4,2] rfl rfl rfl (by first|rfl|(simp only[Zv,Zs,Ze _ (Zr _),Bool.and_self,Bool.and_true]<;>rfl)) ?_ ?_<;>(repeat'(first|(with_reducible rfl)|(exact X7 (Zr _) (ZQ _ (Zr _)))|(exact X7 (Zr _) (by(simp[List.take_of_length_le,XX,Z3])))|(exact YY rfl (by first|(simp;done)|omega|(simp;omega)))|(exact congrArg (SV.int _) (by first|omega|(simp(disch:=omega) only[lnB,Z6,Z9]<;>omega)|(simp;done)|(simp<;>omega)))|((conv=>whnf);refine⟨?_,?_⟩)|exact trivial|(simp only[ren,renB];done)|rfl)))
    ·refine⟨(3,o2),⟨by simp,by dsimp only;rw[hst,Z1b h,ho2,List.append_nil]⟩,by simp,?_⟩;dsimp only;conv=>whnf
     exact GOES.cA h0
   ·have hst:=(Z4s l[i]).2.2.2;conv=>whnf
    repeat'((first|(refine NEED.mk ⟨by decide,by decide,rfl⟩ ?_;conv=>whnf)|(refine NEED.mk (Yc 16 rfl rfl rfl (by simp) (by omega)) ?_;conv=>whnf)|refine AU ?_|(refine IW ?_ ?_<;>intro h<;>try(exfalso;omega)))<;>conv=>whnf)
    ·refine⟨(4,o2++ [l[i].g.t]),⟨by simp,by dsimp only;rw[hst,Z1a h,ho2,List.append_assoc]⟩,by simp,?_⟩;dsimp only;conv=>whnf
     (refine GOES.keeping h0 [4,2] rfl rfl rfl (by first|rfl|(simp only[Zv,Zs,Ze _ (Zr _),Bool.and_self,Bool.and_true]<;>rfl)) ?_ ?_<;>(repeat'(first|(with_reducible rfl)|(exact X7 (Zr _) (ZQ _ (Zr _)))|(exact X7 (Zr _) (by(simp[List.take_of_length_le,XX,Z3])))|(exact YY rfl (by first|(simp;done)|omega|(simp;omega)))|(exact congrArg (SV.int _) (by first|omega|(simp(disch:=omega) only[lnB,Z6,Z9]<;>omega)|(simp;done)|(simp<;>omega)))|((conv=>whnf);refine⟨?_,?_⟩)|exact trivial|(simp only[ren,renB];done)|rfl)))
    ·refine⟨(4,o2),⟨by simp,by dsimp only;rw[hst,Z1b h,ho2,List.append_nil]⟩,by simp,?_⟩;dsimp only;conv=>whnf
     exact GOES.cA h0
  ·obtain rfl:j=4:=by omega
   rw[Zf6]at ho2;conv=>whnf
   repeat'((first|refine AU ?_|(refine IW ?_ ?_<;>intro h<;>try(exfalso;omega)))<;>conv=>whnf)
   refine⟨i+1,by omega,by omega,?_⟩;rw[hs,<-ho2];conv=>whnf
   exact GOES.cA h0
 ·have hie:i=l.length:=by omega
  subst hie;rw[List.take_length]at hli⊢;generalize l.flatMap YA=out at*;have hm:(out.mergeSort (leC cmpL)).length=out.length:=List.length_mergeSort out;have hcl:=Vv (out.mergeSort (leC cmpL));have hcc:(Z5 (out.mergeSort (leC cmpL))++List.replicate ((out.mergeSort (leC cmpL)).length-(Z5 (out.mergeSort (leC cmpL))).length) ([]:List UInt8)).length*16<=140741783322624:=by rw[List.length_append,List.length_replicate];omega
  repeat'((first|refine AU ?_|(refine IW ?_ ?_<;>intro h<;>try(exfalso;omega)))<;>conv=>whnf)
  refine CALL.aA [1] (Un out (by omega)) ?_;rintro r O nx ⟨rfl,rfl,rfl⟩;conv=>whnf
  rw[<-hm];refine CALL.aA [1] (Z4r (out.mergeSort (leC cmpL)) (by omega)) ?_;rintro r O nx ⟨rfl,rfl,rfl⟩;conv=>whnf
  refine CALL.aA [1] (Z94 (Z5 (out.mergeSort (leC cmpL))++List.replicate ((out.mergeSort (leC cmpL)).length-(Z5 (out.mergeSort (leC cmpL))).length) ([]:List UInt8)) (Z5 (out.mergeSort (leC cmpL))).length (by simp) hcc) ?_;rintro r O nx ⟨rfl,rfl,rfl⟩;conv=>whnf
  refine FIN.aA h0 [1] (.sl (.loc 1) 0 1 (setL cmpL out).length (some (setL cmpL out).length)) [(1, .rows 1 ((setL cmpL out++List.replicate ((out.mergeSort (leC cmpL)).length-(Z5 (out.mergeSort (leC cmpL))).length) ([]:List UInt8)).map Z3))] ?_;exact⟨_,by unfold setL;omega,rfl,rfl,rfl⟩
theorem ZdN{α:Type}(f:Qd->α){l:List Qd}{i:Nat}(h:i<l.length):(l.take (i+1)).map f=(l.take i).map f++ [f l[i]]:=by
 rw[List.take_succ_eq_append_getElem h,List.map_append];rfl
end Go.Proofs.YtbfbokdccdagkaaGreatDoor
