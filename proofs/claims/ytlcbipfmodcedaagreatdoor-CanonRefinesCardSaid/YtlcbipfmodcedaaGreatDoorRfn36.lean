/- Part 36: RList7, RBlanks7. Conditions: as each part says. -/
import Derived.Test.YtlcbipfmodcedaaGreatDoorRfn13
set_option linter.unusedVariables false
set_option linter.unusedSimpArgs false
set_option maxRecDepth 20000
set_option maxHeartbeats 8000000
namespace Go.Proofs.YtlcbipfmodcedaaGreatDoor
open Go.Sx Go.Our
open Tryz
theorem ZbC(out:List Tm)(h:out.length*56<=140737488351232):Does prog tab 80 1 [.sl (.loc 0) 0 4 out.length none] [] [(0, .rows 4 (out.map ZA))] (Z8L ZA 4 1 (setL YI out)):=by
 have hT:=Z0d out h out.length out.length 0 (Nat.le_refl _) (by omega);rwa [List.drop_zero,List.take_length,Z0x triT _ out (Nat.le_refl _)]at hT
end Go.Proofs.YtlcbipfmodcedaaGreatDoor
namespace Go.Proofs.YtlcbipfmodcedaaGreatDoor
open Go.Sx Go.Our
open Tryz
def Z9g:Plan:=(Zu [(0,1),(1,1),(2,1),(3,1),(5,1),(6,1),(7,1),(8,1),(10,1),(11,1),(12,1),(13,1),(15,1),(16,1),(17,1),(18,1),(4,2),(9,2),(14,2),(19,2),(20,1),(21,3),(22,0)])
theorem Z6g(l:List (List UInt8))(a:List (List UInt8)):(l++a).map Yf=l.map Yf++a.map Yf:=List.map_append
theorem W5(l z:List Qd)(lim:Option Nat)(hl:UF l)(hz:(l++z).length<=1152921504606846976):Does prog tab 40 1 [.sl (.loc 0) 0 16 l.length lim] [] [(0, .rows 16 ((l++z).map Zd))]
 (Z8L Z8 1 1 (setL cmpL (ZR l))):=by
 unfold UF at hl;have hlen:∀i,((l.take i).flatMap Zv).length<=(l.take i).length*4:=fun i=>Z2p _ Uo _;unfold ZR;refine Does.enter Z0 call40 func40 rfl 70 rfl rfl [.tmp 2] rfl ?_;intro w0 F η0 h0;conv=>whnf
 refine LOOP.nil 3 4 rfl ?_;refine LOOP.go Z0 [0] (X:=Nat) (fun i=>i<=l.length) (fun i=>[(4, .int .i64 (i:Int)),(3, .sl (.loc 1) 0 4 (((l.take i).flatMap Zv).map Yf).length none)]) (fun i=>[(1, .rows 4 ((((l.take i).flatMap Zv).map Yf).map ZA))]) 2 (fun i=>l.length-i) 0 (by omega) ?_;conv=>whnf
 refine⟨by exact GOES.cA h0,?_⟩;intro i hi;have hli:=hlen i;rw[List.length_take,Nat.min_eq_left hi]at hli;conv=>whnf
 by_cases hil:i<l.length
 ·have hs:=Z7s Zv hil;generalize(l.take i).flatMap Zv=out at*;repeat'((first|refine DRAWN.of (id:=5) Z0 mixed Z9g (by kernel_rfl) ?_|refine ADD.mk (fun _ _=>?_)|refine AD ?_|refine FORK.mk ?_ ?_|(refine GET.at (row:=Zd (l[i]'(by omega))) (ZfK (by omega) (by omega)) ?_;conv=>whnf)|refine AU ?_|(refine IW ?_ ?_<;>intro h<;>try(exfalso;omega)))<;>conv=>whnf)
  refine LOOP.go Z0 [0,4,5] (X:=Nat×List Tm) (fun x=>x.1<=4/\x.2=(out++WA l[i] x.1).map Yf) (fun x=>[(6, .int .i64 (x.1:Int)),(3, .sl (.loc 1) 0 4 x.2.length none)]) (fun x=>[(1, .rows 4 (x.2.map ZA)),(2, .rows 4 ((Zb9 l[i]).map ZA))]) 3 (fun x=>4-x.1) (0,out.map Yf) ⟨by simp,by simp[WA]⟩ ?_;conv=>whnf
  refine⟨by exact GOES.cA h0,?_⟩;rintro⟨j,o2⟩ ⟨hj,ho2⟩;dsimp only at hj ho2⊢;have hfl:=Z7t l[i] j;have ho2l:o2.length<=i*4+j:=by rw[ho2,List.length_map,List.length_append];omega
  by_cases hj4:j<4
  ·obtain rfl|rfl|rfl|rfl:j=0\/j=1\/j=2\/j=3:=by omega
   ·have hst:=(UY l[i]).1;conv=>whnf
    repeat'((first|(refine GET.at (row:=ZA l[i].s) rfl ?_;conv=>whnf)|(refine NEED.mk (Zj 56 rfl rfl rfl (by simp) (by omega)) ?_;conv=>whnf)|refine AU ?_|(refine IW ?_ ?_<;>intro h<;>try(exfalso;omega)))<;>conv=>whnf)
    ·refine⟨(1,o2++ [Yf l[i].s.t]),⟨by simp,by dsimp only;rw[hst,Vv h,ho2,<-List.append_assoc,Z6g _ [l[i].s.t]];rfl⟩,by simp,?_⟩;dsimp only;conv=>whnf
     (refine GOES.keeping h0 [4,2] rfl rfl rfl (by first|rfl|(simp only[Zl,Zg,Z2 _ (Z7 _),Bool.and_self,Bool.and_true]<;>rfl)) ?_ ?_<;>(repeat'(first|(with_reducible rfl)|(exact Zp (Z7 _) (Zf _ (Z7 _)))|(exact Zp (Z7 _) (by(simp[List.take_of_length_le,X4,ZA,Yf])))|(exact X6 rfl (by first|(simp;done)|omega|(simp;omega)))|(exact congrArg (SV.int _) (by first|omega|(simp(disch:=omega) only[lnB,Z9,Zo]<;>omega)|(simp;done)|(simp<;>omega)))|((conv=>whnf);refine⟨?_,?_⟩)|exact trivial|(simp only[ren,renB];done)|rfl)))
    ·refine⟨(1,o2),⟨by simp,by dsimp only;rw[hst,Vw h,ho2,List.append_nil]⟩,by simp,?_⟩;dsimp only;conv=>whnf
     exact GOES.cA h0
   ·have hst:=(UY l[i]).2.1;conv=>whnf
    repeat'((first|(refine GET.at (row:=ZA l[i].p) rfl ?_;conv=>whnf)|(refine NEED.mk (Zj 56 rfl rfl rfl (by simp) (by omega)) ?_;conv=>whnf)|refine AU ?_|(refine IW ?_ ?_<;>intro h<;>try(exfalso;omega)))<;>conv=>whnf)
    ·refine⟨(2,o2++ [Yf l[i].p.t]),⟨by simp,by dsimp only;rw[hst,Vv h,ho2,<-List.append_assoc,Z6g _ [l[i].p.t]];rfl⟩,by simp,?_⟩;dsimp only;conv=>whnf
     (refine GOES.keeping h0 [4,2] rfl rfl rfl (by first|rfl|(simp only[Zl,Zg,Z2 _ (Z7 _),Bool.and_self,Bool.and_true]<;>rfl)) ?_ ?_<;>(repeat'(first|(with_reducible rfl)|(exact Zp (Z7 _) (Zf _ (Z7 _)))|(exact Zp (Z7 _) (by(simp[List.take_of_length_le,X4,ZA,Yf])))|(exact X6 rfl (by first|(simp;done)|omega|(simp;omega)))|(exact congrArg (SV.int _) (by first|omega|(simp(disch:=omega) only[lnB,Z9,Zo]<;>omega)|(simp;done)|(simp<;>omega)))|((conv=>whnf);refine⟨?_,?_⟩)|exact trivial|(simp only[ren,renB];done)|rfl)))
    ·refine⟨(2,o2),⟨by simp,by dsimp only;rw[hst,Vw h,ho2,List.append_nil]⟩,by simp,?_⟩;dsimp only;conv=>whnf
     exact GOES.cA h0
   ·have hst:=(UY l[i]).2.2.1;conv=>whnf
    repeat'((first|(refine GET.at (row:=ZA l[i].o) rfl ?_;conv=>whnf)|(refine NEED.mk (Zj 56 rfl rfl rfl (by simp) (by omega)) ?_;conv=>whnf)|refine AU ?_|(refine IW ?_ ?_<;>intro h<;>try(exfalso;omega)))<;>conv=>whnf)
    ·refine⟨(3,o2++ [Yf l[i].o.t]),⟨by simp,by dsimp only;rw[hst,Vv h,ho2,<-List.append_assoc,Z6g _ [l[i].o.t]];rfl⟩,by simp,?_⟩;dsimp only;conv=>whnf
     (refine GOES.keeping h0 [4,2] rfl rfl rfl (by first|rfl|(simp only[Zl,Zg,Z2 _ (Z7 _),Bool.and_self,Bool.and_true]<;>rfl)) ?_ ?_<;>(repeat'(first|(with_reducible rfl)|(exact Zp (Z7 _) (Zf _ (Z7 _)))|(exact Zp (Z7 _) (by(simp[List.take_of_length_le,X4,ZA,Yf])))|(exact X6 rfl (by first|(simp;done)|omega|(simp;omega)))|(exact congrArg (SV.int _) (by first|omega|(simp(disch:=omega) only[lnB,Z9,Zo]<;>omega)|(simp;done)|(simp<;>omega)))|((conv=>whnf);refine⟨?_,?_⟩)|exact trivial|(simp only[ren,renB];done)|rfl)))
    ·refine⟨(3,o2),⟨by simp,by dsimp only;rw[hst,Vw h,ho2,List.append_nil]⟩,by simp,?_⟩;dsimp only;conv=>whnf
     exact GOES.cA h0
   ·have hst:=(UY l[i]).2.2.2;conv=>whnf
    repeat'((first|(refine GET.at (row:=ZA l[i].g) rfl ?_;conv=>whnf)|(refine NEED.mk (Zj 56 rfl rfl rfl (by simp) (by omega)) ?_;conv=>whnf)|refine AU ?_|(refine IW ?_ ?_<;>intro h<;>try(exfalso;omega)))<;>conv=>whnf)
    ·refine⟨(4,o2++ [Yf l[i].g.t]),⟨by simp,by dsimp only;rw[hst,Vv h,ho2,<-List.append_assoc,Z6g _ [l[i].g.t]];rfl⟩,by simp,?_⟩;dsimp only;conv=>whnf
     (refine GOES.keeping h0 [4,2] rfl rfl rfl (by first|rfl|(simp only[Zl,Zg,Z2 _ (Z7 _),Bool.and_self,Bool.and_true]<;>rfl)) ?_ ?_<;>(repeat'(first|(with_reducible rfl)|(exact Zp (Z7 _) (Zf _ (Z7 _)))|(exact Zp (Z7 _) (by(simp[List.take_of_length_le,X4,ZA,Yf])))|(exact X6 rfl (by first|(simp;done)|omega|(simp;omega)))|(exact congrArg (SV.int _) (by first|omega|(simp(disch:=omega) only[lnB,Z9,Zo]<;>omega)|(simp;done)|(simp<;>omega)))|((conv=>whnf);refine⟨?_,?_⟩)|exact trivial|(simp only[ren,renB];done)|rfl)))
    ·refine⟨(4,o2),⟨by simp,by dsimp only;rw[hst,Vw h,ho2,List.append_nil]⟩,by simp,?_⟩;dsimp only;conv=>whnf
     exact GOES.cA h0
  ·obtain rfl:j=4:=by omega
   rw[Zd5]at ho2;conv=>whnf
   repeat'((first|refine AU ?_|(refine IW ?_ ?_<;>intro h<;>try(exfalso;omega)))<;>conv=>whnf)
   refine⟨i+1,by omega,by omega,?_⟩;rw[hs,<-ho2];conv=>whnf
   exact GOES.cA h0
 ·have hie:i=l.length:=by omega
  subst hie;rw[List.take_length]at hli⊢;generalize l.flatMap Zv=out at*;have hbs:=ZaV out;have hls:=Z5H (c:=YI) (out.map Yf);have hr:=ZbC (out.map Yf) (by rw[List.length_map];omega);rw[<-hbs];rw[List.length_map]at hls;repeat'((first|refine AU ?_|(refine IW ?_ ?_<;>intro h<;>try(exfalso;omega)))<;>conv=>whnf)
  refine CALL.aA [1] (hr) ?_;generalize setL YI (out.map Yf)=all at*;rintro r O nx ⟨rfl,rfl,rfl⟩;conv=>whnf
  refine LOOP.nil 7 1 rfl ?_;refine LOOP.go Z0 [3] (X:=Nat) (fun i=>i<=all.length) (fun i=>[(8, .int .i64 (i:Int)),(7, .sl (.loc 3) 0 1 ((all.take i).map Tm.t).length none)]) (fun i=>[(2, .rows 4 (all.map ZA)),(3, .rows 1 (((all.take i).map Tm.t).map Z8))]) 4 (fun i=>all.length-i) 0 (by omega) ?_;conv=>whnf
  refine⟨by exact GOES.cA h0,?_⟩;intro i hi;conv=>whnf
  by_cases hil:i<all.length
  ·have hs:(all.take (i+1)).map Tm.t=(all.take i).map Tm.t++ [all[i].t]:=by rw[List.take_succ_eq_append_getElem hil,List.map_append];rfl
   have hoi:((all.take i).map Tm.t).length=i:=by simp;omega
   generalize(all.take i).map Tm.t=o3 at*;repeat'((first|(refine GET.at (row:=ZA (all[i]'(by omega))) (Y5 (by omega) (by omega)) ?_;conv=>whnf)|(refine NEED.mk (Zj 16 rfl rfl rfl (by simp) (by omega)) ?_;conv=>whnf)|refine AU ?_|(refine IW ?_ ?_<;>intro h<;>try(exfalso;omega)))<;>conv=>whnf)
   refine⟨i+1,by omega,by omega,?_⟩;rw[hs];conv=>whnf
   (refine GOES.keeping h0 [1,2,5] rfl rfl rfl (by(repeat'(first|(refine Ye rfl ?_ ?_)|exact XJ (Z7 _)|exact WI (Z7 _)|exact XJ (Zm _)|exact WI (Zm _)|rfl))) ?_ ?_<;>(repeat'(first|(with_reducible rfl)|exact trivial|(exact X6 rfl (by first|omega|(simp(disch:=omega) only[lnB,Z9,Zo]<;>omega)|(simp;done)|(simp<;>omega)))|(exact congrArg (SV.int _) (by first|omega|(simp(disch:=omega) only[lnB,Z9,Zo]<;>omega)|(simp;done)|(simp<;>omega)))|(exact Z3s (by first|omega|(simp(disch:=omega) only[lnB,Z9,Zo]<;>omega)|(simp;done)|(simp<;>omega)))|(exact Z73 (by first|omega|(simp(disch:=omega) only[lnB,Z9,Zo]<;>omega)|(simp;done)|(simp<;>omega)))|(exact(Zw _ (h:= .rows _ _) (Z7 _)).symm)|(exact(Zw _ (h:= .rows _ _) (Z7 _)).trans (Zw _ (h:= .rows _ _) (Z7 _)).symm)|(exact Zp (Z7 _) (by(simp[List.take_of_length_le,X4,Z8])))|(exact(Zw _ (h:= .rows _ _) (Zm _)).symm)|(exact(Zw _ (h:= .rows _ _) (Zm _)).trans (Zw _ (h:= .rows _ _) (Zm _)).symm)|(exact Zp (Zm _) (by(simp[List.take_of_length_le,X4,Z8])))|((conv=>whnf);refine⟨?_,?_⟩)|(simp only[ren,renB];done)|rfl)))
  ·have hie:i=all.length:=by omega
   subst hie;rw[List.take_length];repeat'((first|refine AU ?_|(refine IW ?_ ?_<;>intro h<;>try(exfalso;omega)))<;>conv=>whnf)
   refine FIN.aA h0 [3] (.sl (.loc 1) 0 1 (all.map Tm.t).length none) [(1, .rows 1 ((all.map Tm.t).map Z8))] ?_;exact⟨rfl,rfl,rfl⟩
end Go.Proofs.YtlcbipfmodcedaaGreatDoor
