/- Part 20: RList7, RBlanks7. Conditions: as each part says. -/
import Derived.Test.YtbfbokdccdagkaaGreatDoorFnd12
set_option linter.unusedVariables false
set_option linter.unusedSimpArgs false
set_option maxRecDepth 20000
set_option maxHeartbeats 8000000
namespace Go.Proofs.YtbfbokdccdagkaaGreatDoor
open Go.Sx Go.Our
open Tryz
theorem Zbo(out:List Tm)(h:out.length*56<=140737488351232):Does prog tab 74 1 [.sl (.loc 0) 0 4 out.length none] [] [(0, .rows 4 (out.map Zu))] (Z8v Zu 4 1 (setL Yw out)):=by
 have hT:=WO out h out.length out.length 0 (Nat.le_refl _) (by omega);rwa [List.drop_zero,List.take_length,Z0d triT _ out (Nat.le_refl _)]at hT
end Go.Proofs.YtbfbokdccdagkaaGreatDoor
namespace Go.Proofs.YtbfbokdccdagkaaGreatDoor
open Go.Sx Go.Our
open Tryz
def Z90:Plan:=(Zv [(0,1),(1,1),(2,1),(3,1),(5,1),(6,1),(7,1),(8,1),(10,1),(11,1),(12,1),(13,1),(15,1),(16,1),(17,1),(18,1),(4,2),(9,2),(14,2),(19,2),(20,1),(21,3),(22,0)])
theorem Z6l(l:List (List UInt8))(a:List (List UInt8)):(l++a).map Yd=l.map Yd++a.map Yd:=List.map_append
theorem Vq(l z:List Qd)(lim:Option Nat)(hl:V6 l)(hz:(l++z).length<=1152921504606846976):Does prog tab 45 1 [.sl (.loc 0) 0 16 l.length lim] [] [(0, .rows 16 ((l++z).map Zj))]
 (Z8v Zb 1 1 (setL cmpL (X4 l))):=by
 unfold V6 at hl;have hlen:∀i,((l.take i).flatMap Yx).length<=(l.take i).length*4:=fun i=>Z21 _ WJ _;unfold X4;refine Does.enter Z1 call45 func45 rfl 70 rfl rfl [.tmp 2] rfl ?_;intro w0 F η0 h0;conv=>whnf
 refine LOOP.nil 3 4 rfl ?_;refine LOOP.go Z1 [0] (X:=Nat) (fun i=>i<=l.length) (fun i=>[(4, .int .i64 (i:Int)),(3, .sl (.loc 1) 0 4 (((l.take i).flatMap Yx).map Yd).length none)]) (fun i=>[(1, .rows 4 ((((l.take i).flatMap Yx).map Yd).map Zu))]) 2 (fun i=>l.length-i) 0 (by omega) ?_;conv=>whnf
 refine⟨by exact GOES.cA h0,?_⟩;intro i hi;have hli:=hlen i;rw[List.length_take,Nat.min_eq_left hi]at hli;conv=>whnf
 by_cases hil:i<l.length
 ·have hs:=Z7b Yx hil;generalize(l.take i).flatMap Yx=out at*;repeat'((first|refine DRAWN.of (id:=5) Z1 mixed Z90 (by kernel_rfl) ?_|refine ADD.mk (fun _ _=>?_)|refine AD ?_|refine FORK.mk ?_ ?_|(refine GET.at (row:=Zj (l[i]'(by omega))) (Z78 (by omega) (by omega)) ?_;conv=>whnf)|refine AU ?_|(refine IW ?_ ?_<;>intro h<;>try(exfalso;omega)))<;>conv=>whnf)
  refine LOOP.go Z1 [0,4,5] (X:=Nat×List Tm) (fun x=>x.1<=4/\x.2=(out++We l[i] x.1).map Yd) (fun x=>[(6, .int .i64 (x.1:Int)),(3, .sl (.loc 1) 0 4 x.2.length none)]) (fun x=>[(1, .rows 4 (x.2.map Zu)),(2, .rows 4 ((ZaV l[i]).map Zu))]) 3 (fun x=>4-x.1) (0,out.map Yd) ⟨by simp,by simp[We]⟩ ?_;conv=>whnf
  refine⟨by exact GOES.cA h0,?_⟩;rintro⟨j,o2⟩ ⟨hj,ho2⟩;dsimp only at hj ho2⊢;have hfl:=Z7c l[i] j;have ho2l:o2.length<=i*4+j:=by rw[ho2,List.length_map,List.length_append];omega
  by_cases hj4:j<4
  ·obtain rfl|rfl|rfl|rfl:j=0\/j=1\/j=2\/j=3:=by omega
   ·have hst:=(UD l[i]).1;conv=>whnf
    repeat'((first|(refine GET.at (row:=Zu l[i].s) rfl ?_;conv=>whnf)|(refine NEED.mk (ZC 56 rfl rfl rfl (by simp) (by omega)) ?_;conv=>whnf)|refine AU ?_|(refine IW ?_ ?_<;>intro h<;>try(exfalso;omega)))<;>conv=>whnf)
    ·refine⟨(1,o2++ [Yd l[i].s.t]),⟨by simp,by dsimp only;rw[hst,Vi h,ho2,<-List.append_assoc,Z6l _ [l[i].s.t]];rfl⟩,by simp,?_⟩;dsimp only;conv=>whnf
     (refine GOES.keeping h0 [4,2] rfl rfl rfl (by first|rfl|(simp only[Zn,Zm,Z4 _ (Z7 _),Bool.and_self,Bool.and_true]<;>rfl)) ?_ ?_<;>(repeat'(first|(with_reducible rfl)|(exact Zo (Z7 _) (Ze _ (Z7 _)))|(exact Zo (Z7 _) (by(simp[List.take_of_length_le,Yj,Zu,Yd])))|(exact X2 rfl (by first|(simp;done)|omega|(simp;omega)))|(exact congrArg (SV.int _) (by first|omega|(simp(disch:=omega) only[lnB,Z9,Zq]<;>omega)|(simp;done)|(simp<;>omega)))|((conv=>whnf);refine⟨?_,?_⟩)|exact trivial|(simp only[ren,renB];done)|rfl)))
    ·refine⟨(1,o2),⟨by simp,by dsimp only;rw[hst,Vj h,ho2,List.append_nil]⟩,by simp,?_⟩;dsimp only;conv=>whnf
     exact GOES.cA h0
   ·have hst:=(UD l[i]).2.1;conv=>whnf
    repeat'((first|(refine GET.at (row:=Zu l[i].p) rfl ?_;conv=>whnf)|(refine NEED.mk (ZC 56 rfl rfl rfl (by simp) (by omega)) ?_;conv=>whnf)|refine AU ?_|(refine IW ?_ ?_<;>intro h<;>try(exfalso;omega)))<;>conv=>whnf)
    ·refine⟨(2,o2++ [Yd l[i].p.t]),⟨by simp,by dsimp only;rw[hst,Vi h,ho2,<-List.append_assoc,Z6l _ [l[i].p.t]];rfl⟩,by simp,?_⟩;dsimp only;conv=>whnf
     (refine GOES.keeping h0 [4,2] rfl rfl rfl (by first|rfl|(simp only[Zn,Zm,Z4 _ (Z7 _),Bool.and_self,Bool.and_true]<;>rfl)) ?_ ?_<;>(repeat'(first|(with_reducible rfl)|(exact Zo (Z7 _) (Ze _ (Z7 _)))|(exact Zo (Z7 _) (by(simp[List.take_of_length_le,Yj,Zu,Yd])))|(exact X2 rfl (by first|(simp;done)|omega|(simp;omega)))|(exact congrArg (SV.int _) (by first|omega|(simp(disch:=omega) only[lnB,Z9,Zq]<;>omega)|(simp;done)|(simp<;>omega)))|((conv=>whnf);refine⟨?_,?_⟩)|exact trivial|(simp only[ren,renB];done)|rfl)))
    ·refine⟨(2,o2),⟨by simp,by dsimp only;rw[hst,Vj h,ho2,List.append_nil]⟩,by simp,?_⟩;dsimp only;conv=>whnf
     exact GOES.cA h0
   ·have hst:=(UD l[i]).2.2.1;conv=>whnf
    repeat'((first|(refine GET.at (row:=Zu l[i].o) rfl ?_;conv=>whnf)|(refine NEED.mk (ZC 56 rfl rfl rfl (by simp) (by omega)) ?_;conv=>whnf)|refine AU ?_|(refine IW ?_ ?_<;>intro h<;>try(exfalso;omega)))<;>conv=>whnf)
    ·refine⟨(3,o2++ [Yd l[i].o.t]),⟨by simp,by dsimp only;rw[hst,Vi h,ho2,<-List.append_assoc,Z6l _ [l[i].o.t]];rfl⟩,by simp,?_⟩;dsimp only;conv=>whnf
     (refine GOES.keeping h0 [4,2] rfl rfl rfl (by first|rfl|(simp only[Zn,Zm,Z4 _ (Z7 _),Bool.and_self,Bool.and_true]<;>rfl)) ?_ ?_<;>(repeat'(first|(with_reducible rfl)|(exact Zo (Z7 _) (Ze _ (Z7 _)))|(exact Zo (Z7 _) (by(simp[List.take_of_length_le,Yj,Zu,Yd])))|(exact X2 rfl (by first|(simp;done)|omega|(simp;omega)))|(exact congrArg (SV.int _) (by first|omega|(simp(disch:=omega) only[lnB,Z9,Zq]<;>omega)|(simp;done)|(simp<;>omega)))|((conv=>whnf);refine⟨?_,?_⟩)|exact trivial|(simp only[ren,renB];done)|rfl)))
    ·refine⟨(3,o2),⟨by simp,by dsimp only;rw[hst,Vj h,ho2,List.append_nil]⟩,by simp,?_⟩;dsimp only;conv=>whnf
     exact GOES.cA h0
   ·have hst:=(UD l[i]).2.2.2;conv=>whnf
    repeat'((first|(refine GET.at (row:=Zu l[i].g) rfl ?_;conv=>whnf)|(refine NEED.mk (ZC 56 rfl rfl rfl (by simp) (by omega)) ?_;conv=>whnf)|refine AU ?_|(refine IW ?_ ?_<;>intro h<;>try(exfalso;omega)))<;>conv=>whnf)
    ·refine⟨(4,o2++ [Yd l[i].g.t]),⟨by simp,by dsimp only;rw[hst,Vi h,ho2,<-List.append_assoc,Z6l _ [l[i].g.t]];rfl⟩,by simp,?_⟩;dsimp only;conv=>whnf
     (refine GOES.keeping h0 [4,2] rfl rfl rfl (by first|rfl|(simp only[Zn,Zm,Z4 _ (Z7 _),Bool.and_self,Bool.and_true]<;>rfl)) ?_ ?_<;>(repeat'(first|(with_reducible rfl)|(exact Zo (Z7 _) (Ze _ (Z7 _)))|(exact Zo (Z7 _) (by(simp[List.take_of_length_le,Yj,Zu,Yd])))|(exact X2 rfl (by first|(simp;done)|omega|(simp;omega)))|(exact congrArg (SV.int _) (by first|omega|(simp(disch:=omega) only[lnB,Z9,Zq]<;>omega)|(simp;done)|(simp<;>omega)))|((conv=>whnf);refine⟨?_,?_⟩)|exact trivial|(simp only[ren,renB];done)|rfl)))
    ·refine⟨(4,o2),⟨by simp,by dsimp only;rw[hst,Vj h,ho2,List.append_nil]⟩,by simp,?_⟩;dsimp only;conv=>whnf
     exact GOES.cA h0
  ·obtain rfl:j=4:=by omega
   rw[ZcR]at ho2;conv=>whnf
   repeat'((first|refine AU ?_|(refine IW ?_ ?_<;>intro h<;>try(exfalso;omega)))<;>conv=>whnf)
   refine⟨i+1,by omega,by omega,?_⟩;rw[hs,<-ho2];conv=>whnf
   exact GOES.cA h0
 ·have hie:i=l.length:=by omega
  subst hie;rw[List.take_length]at hli⊢;generalize l.flatMap Yx=out at*;have hbs:=ZaN out;have hls:=Z8n (c:=Yw) (out.map Yd);have hr:=Zbo (out.map Yd) (by rw[List.length_map];omega);rw[<-hbs];rw[List.length_map]at hls;repeat'((first|refine AU ?_|(refine IW ?_ ?_<;>intro h<;>try(exfalso;omega)))<;>conv=>whnf)
  refine CALL.aA [1] (hr) ?_;generalize setL Yw (out.map Yd)=all at*;rintro r O nx ⟨rfl,rfl,rfl⟩;conv=>whnf
  refine LOOP.nil 7 1 rfl ?_;refine LOOP.go Z1 [3] (X:=Nat) (fun i=>i<=all.length) (fun i=>[(8, .int .i64 (i:Int)),(7, .sl (.loc 3) 0 1 ((all.take i).map Tm.t).length none)]) (fun i=>[(2, .rows 4 (all.map Zu)),(3, .rows 1 (((all.take i).map Tm.t).map Zb))]) 4 (fun i=>all.length-i) 0 (by omega) ?_;conv=>whnf
  refine⟨by exact GOES.cA h0,?_⟩;intro i hi;conv=>whnf
  by_cases hil:i<all.length
  ·have hs:(all.take (i+1)).map Tm.t=(all.take i).map Tm.t++ [all[i].t]:=by rw[List.take_succ_eq_append_getElem hil,List.map_append];rfl
   have hoi:((all.take i).map Tm.t).length=i:=by simp;omega
   generalize(all.take i).map Tm.t=o3 at*;repeat'((first|(refine GET.at (row:=Zu (all[i]'(by omega))) (Y6 (by omega) (by omega)) ?_;conv=>whnf)|(refine NEED.mk (ZC 16 rfl rfl rfl (by simp) (by omega)) ?_;conv=>whnf)|refine AU ?_|(refine IW ?_ ?_<;>intro h<;>try(exfalso;omega)))<;>conv=>whnf)
   refine⟨i+1,by omega,by omega,?_⟩;rw[hs];conv=>whnf
   (refine GOES.keeping h0 [1,2,5] rfl rfl rfl (by(repeat'(first|(refine Yv rfl ?_ ?_)|exact WI (Z7 _)|exact Wm (Z7 _)|exact WI (Zl _)|exact Wm (Zl _)|rfl))) ?_ ?_<;>(repeat'(first|(with_reducible rfl)|exact trivial|(exact X2 rfl (by first|omega|(simp(disch:=omega) only[lnB,Z9,Zq]<;>omega)|(simp;done)|(simp<;>omega)))|(exact congrArg (SV.int _) (by first|omega|(simp(disch:=omega) only[lnB,Z9,Zq]<;>omega)|(simp;done)|(simp<;>omega)))|(exact Z3n (by first|omega|(simp(disch:=omega) only[lnB,Z9,Zq]<;>omega)|(simp;done)|(simp<;>omega)))|(exact Z71 (by first|omega|(simp(disch:=omega) only[lnB,Z9,Zq]<;>omega)|(simp;done)|(simp<;>omega)))|(exact(Yk _ (h:= .rows _ _) (Z7 _)).symm)|(exact(Yk _ (h:= .rows _ _) (Z7 _)).trans (Yk _ (h:= .rows _ _) (Z7 _)).symm)|(exact Zo (Z7 _) (by(simp[List.take_of_length_le,Yj,Zb])))|(exact(Yk _ (h:= .rows _ _) (Zl _)).symm)|(exact(Yk _ (h:= .rows _ _) (Zl _)).trans (Yk _ (h:= .rows _ _) (Zl _)).symm)|(exact Zo (Zl _) (by(simp[List.take_of_length_le,Yj,Zb])))|((conv=>whnf);refine⟨?_,?_⟩)|(simp only[ren,renB];done)|rfl)))
  ·have hie:i=all.length:=by omega
   subst hie;rw[List.take_length];repeat'((first|refine AU ?_|(refine IW ?_ ?_<;>intro h<;>try(exfalso;omega)))<;>conv=>whnf)
   refine FIN.aA h0 [3] (.sl (.loc 1) 0 1 (all.map Tm.t).length none) [(1, .rows 1 ((all.map Tm.t).map Zb))] ?_;exact⟨rfl,rfl,rfl⟩
end Go.Proofs.YtbfbokdccdagkaaGreatDoor
