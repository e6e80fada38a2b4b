/- Part 10: Sets6, TermsG, Terms7. Conditions: as each part says. -/
import Derived.Test.YtlcbipfmodcedaaGreatDoorCiso9
set_option linter.unusedVariables false
set_option linter.unusedSimpArgs false
set_option maxRecDepth 20000
set_option maxHeartbeats 8000000
namespace Go.Proofs.YtlcbipfmodcedaaGreatDoor
open Go.Sx Go.Our
end Go.Proofs.YtlcbipfmodcedaaGreatDoor
namespace Go.Proofs.YtlcbipfmodcedaaGreatDoor
open Go.Sx Go.Our
theorem Zdg{K:Type}(f:Qd->List K){l:List Qd}{i:Nat}(h:i<l.length):(l.take (i+1)).flatMap f=(l.take i).flatMap f++f l[i]:=by
 rw[zB h,List.flatMap_append];simp
theorem Hj{K:Type}(f:Qd->List K){k:Nat}(hk:∀q,(f q).length<=k):∀(l:List Qd),(l.flatMap f).length<=l.length*k
 | []=>by simp
 |q::l=>by
  have:=Hj f hk l;have:=hk q;simp only[vu,ze,List.length_cons,yB];omega
open _root_.Go.Proofs.Tryz
theorem WI(q:Qd):(ZB q).length<=4:=by
 have h:∀t,(ZV t).length<=1:=fun t=>by unfold ZV;split<;>simp
 have:=h q.s;have:=h q.p;have:=h q.o;have:=h q.g;unfold ZB;simp only[ze];omega
def G5(q:Qd):List Tm:=[q.s,q.p,q.o,q.g]
theorem Zig(q:Qd):ZB q=(G5 q).flatMap ZV:=by simp[ZB,G5]
def aT(q:Qd)(j:Nat):List (List UInt8):=((G5 q).take j).flatMap ZV
theorem Zih(q:Qd):aT q 4=ZB q:=by rw[Zig];rfl
theorem Hl(q:Qd):aT q 1=aT q 0++ZV q.s/\aT q 2=aT q 1++ZV q.p/\aT q 3=aT q 2++ZV q.o/\aT q 4=aT q 3++ZV q.g:=by simp[aT,G5]
theorem Ho{t:Tm}(h:t.k=2):ZV t=[t.t]:=by unfold ZV;rw[z8 h]
theorem Hq{t:Tm}(h:¬t.k=2):ZV t=[]:=by unfold ZV;rw[z6 h]
theorem Zdi(q:Qd)(j:Nat):(aT q j).length<=j:=by
 have h:∀t,(ZV t).length<=1:=fun t=>by unfold ZV;split<;>simp
 unfold aT
 have h2:∀(l:List Tm),(l.flatMap ZV).length<=l.length:=fun l=>by
  induction l with
  |nil=>simp
  |cons t l ih=>have:=h t;simp only[vu,ze,List.length_cons];omega
 have:=h2 ((G5 q).take j);rw[zA]at this;omega
theorem VW(l z:List Qd)(lim:Option Nat)(hl:VU l)(hz:(l++z).length<=1152921504606846976):vW prog uv 48 1 [.sl (.loc 0) 0 16 l.length lim] [] [(0, .rows 16 ((l++z).map Zd))]
 (G3 Z9 1 1 ([]:List UInt8) (ZR l).length (wQ cmpL (ZR l))):=by
 unfold VU at hl;have hlen:∀i,((l.take i).flatMap ZB).length<=(l.take i).length*4:=fun i=>Hj _ WI _;unfold ZR;refine vW.enter Z3 call48 func48 rfl 37 rfl rfl [.tmp 2] rfl ?_;intro w0 F η0 h0;conv=>whnf
 refine ua.nil 3 1 rfl ?_;refine ua.go Z3 [8,9] (X:=Nat) (fun i=>i<=l.length) (fun i=>[(10, .int .i64 (i:Int)),(3, .sl (.loc 1) 0 1 ((l.take i).flatMap ZB).length none)]) (fun i=>[(1, .rows 1 (((l.take i).flatMap ZB).map Z9))]) 2 (fun i=>l.length-i) 0 (by omega) ?_;conv=>whnf
 refine⟨by exact vY.cA h0,?_⟩;intro i hi;have Qg:=hlen i;rw[zA,xN hi]at Qg;conv=>whnf
 by_cases hil:i<l.length
 .have hs:=Zdg ZB hil;generalize(l.take i).flatMap ZB=out at*;repeat'(first|refine GET.at (row:=Zd (l[i]'(by omega))) (MU (by omega) (by omega)) ?_|refine AU ?_|refine IW ?_ ?_<;>intro h<;>try omega)<;>conv=>whnf
  refine CALL.aA [2] (MW (l[i]'(by omega))) ?_;rintro r O nx ⟨rfl,rfl,rfl⟩;conv=>whnf
  refine ua.go Z3 [8,9,10,14] (X:=Nat×List (List UInt8)) (fun x=>x.1<=4/\x.2=out++aT l[i] x.1) (fun x=>[(15, .int .i64 (x.1:Int)),(3, .sl (.loc 1) 0 1 x.2.length none)]) (fun x=>[(1, .rows 1 (x.2.map Z9)),(2, .box (Zd l[i]))]) 3 (fun x=>4-x.1) (0,out) ⟨by simp,by simp[aT]⟩ ?_;conv=>whnf
  refine⟨by exact vY.cA h0,?_⟩;rintro⟨j,o2⟩ ⟨hj,aU⟩;dsimp only at hj aU⊢;have hfl:=Zdi l[i] j;have z36:o2.length<=i*4+j:=by rw[aU,ze];omega
  by_cases tN:j<4
  .obtain rfl|rfl|rfl|rfl:j=0\/j=1\/j=2\/j=3:=by omega
   .have hst:=(Hl l[i]).1;conv=>whnf
    repeat'(first|refine ud.mk ⟨by decide,by decide,rfl⟩ ?_|refine ud.mk (Ye 16 rfl rfl rfl (by simp) (by omega)) ?_|refine AU ?_|refine IW ?_ ?_<;>intro h<;>try omega)<;>conv=>whnf
    .refine⟨(1,o2++ [l[i].s.t]),⟨by simp,by dsimp only;rw[hst,Ho h,aU,zR]⟩,by simp,?_⟩;dsimp only;conv=>whnf
     (refine vY.jI h0 [4,2] rfl rfl rfl (by first|rfl|(simp only[Zu,Zp,Zc _ (Zt _),zS,y6]<;>rfl)) ?_ ?_<;>(repeat'(first|(with_reducible rfl)|(exact Xg (Zt _) (ZO _ (Zt _)))|(exact Xg (Zt _) (by(simp[zo,J9,Z9])))|(exact YZ rfl (by first|(simp;done)|omega|(simp;omega)))|(exact zf (SV.int _) (by first|omega|(simp(disch:=omega) only[uP,Z4,Zb]<;>omega)|(simp;done)|(simp<;>omega)))|((conv=>whnf);refine⟨?_,?_⟩)|exact trivial|(simp only[uD,kj];done)|rfl)))
    .refine⟨(1,o2),⟨by simp,by dsimp only;rw[hst,Hq h,aU,zU]⟩,by simp,?_⟩;dsimp only;conv=>whnf
     exact vY.cA h0
   .have hst:=(Hl l[i]).2.1;conv=>whnf
    repeat'(first|refine ud.mk ⟨by decide,by decide,rfl⟩ ?_|refine ud.mk (Ye 16 rfl rfl rfl (by simp) (by omega)) ?_|refine AU ?_|refine IW ?_ ?_<;>intro h<;>try omega)<;>conv=>whnf
    .refine⟨(2,o2++ [l[i].p.t]),⟨by simp,by dsimp only;rw[hst,Ho h,aU,zR]⟩,by simp,?_⟩;dsimp only;conv=>whnf
     (refine vY.jI h0 [4,2] rfl rfl rfl (by first|rfl|(simp only[Zu,Zp,Zc _ (Zt _),zS,y6]<;>rfl)) ?_ ?_<;>(repeat'(first|(with_reducible rfl)|(exact Xg (Zt _) (ZO _ (Zt _)))|(exact Xg (Zt _) (by(simp[zo,J9,Z9])))|(exact YZ rfl (by first|(simp;done)|omega|(simp;omega)))|(exact zf (SV.int _) (by first|omega|(simp(disch:=omega) only[uP,Z4,Zb]<;>omega)|(simp;done)|(simp<;>omega)))|((conv=>whnf);refine⟨?_,?_⟩)|exact trivial|(simp only[uD,kj];done)|rfl)))
    .refine⟨(2,o2),⟨by simp,by dsimp only;rw[hst,Hq h,aU,zU]⟩,by simp,?_⟩;dsimp only;conv=>whnf
     exact vY.cA h0
   .have hst:=(Hl l[i]).2.2.1;conv=>whnf
    repeat'(first|refine ud.mk ⟨by decide,by decide,rfl⟩ ?_|refine ud.mk (Ye 16 rfl rfl rfl (by simp) (by omega)) ?_|refine AU ?_|refine IW ?_ ?_<;>intro h<;>try omega)<;>conv=>whnf
    .refine⟨(3,o2++ [l[i].o.t]),⟨by simp,by dsimp only;rw[hst,Ho h,aU,zR]⟩,by simp,?_⟩;dsimp only;conv=>whnf
     (refine vY.jI h0 [4,2] rfl rfl rfl (by first|rfl|(simp only[Zu,Zp,Zc _ (Zt _),zS,y6]<;>rfl)) ?_ ?_<;>(repeat'(first|(with_reducible rfl)|(exact Xg (Zt _) (ZO _ (Zt _)))|(exact Xg (Zt _) (by(simp[zo,J9,Z9])))|(exact YZ rfl (by first|(simp;done)|omega|(simp;omega)))|(exact zf (SV.int _) (by first|omega|(simp(disch:=omega) only[uP,Z4,Zb]<;>omega)|(simp;done)|(simp<;>omega)))|((conv=>whnf);refine⟨?_,?_⟩)|exact trivial|(simp only[uD,kj];done)|rfl)))
    .refine⟨(3,o2),⟨by simp,by dsimp only;rw[hst,Hq h,aU,zU]⟩,by simp,?_⟩;dsimp only;conv=>whnf
     exact vY.cA h0
   .have hst:=(Hl l[i]).2.2.2;conv=>whnf
    repeat'(first|refine ud.mk ⟨by decide,by decide,rfl⟩ ?_|refine ud.mk (Ye 16 rfl rfl rfl (by simp) (by omega)) ?_|refine AU ?_|refine IW ?_ ?_<;>intro h<;>try omega)<;>conv=>whnf
    .refine⟨(4,o2++ [l[i].g.t]),⟨by simp,by dsimp only;rw[hst,Ho h,aU,zR]⟩,by simp,?_⟩;dsimp only;conv=>whnf
     (refine vY.jI h0 [4,2] rfl rfl rfl (by first|rfl|(simp only[Zu,Zp,Zc _ (Zt _),zS,y6]<;>rfl)) ?_ ?_<;>(repeat'(first|(with_reducible rfl)|(exact Xg (Zt _) (ZO _ (Zt _)))|(exact Xg (Zt _) (by(simp[zo,J9,Z9])))|(exact YZ rfl (by first|(simp;done)|omega|(simp;omega)))|(exact zf (SV.int _) (by first|omega|(simp(disch:=omega) only[uP,Z4,Zb]<;>omega)|(simp;done)|(simp<;>omega)))|((conv=>whnf);refine⟨?_,?_⟩)|exact trivial|(simp only[uD,kj];done)|rfl)))
    .refine⟨(4,o2),⟨by simp,by dsimp only;rw[hst,Hq h,aU,zU]⟩,by simp,?_⟩;dsimp only;conv=>whnf
     exact vY.cA h0
  .obtain rfl:j=4:=by omega
   rw[Zih]at aU;conv=>whnf
   repeat'(first|refine IW ?_ ?_<;>intro h<;>try omega)<;>conv=>whnf
   refine⟨i+1,by omega,by omega,?_⟩;rw[hs,<-aU];conv=>whnf
   exact vY.cA h0
 .have hie:i=l.length:=by omega
  subst hie;rw[yb]at Qg⊢;generalize l.flatMap ZB=out at*;have hm:(out.mergeSort (wW cmpL)).length=out.length:=yE out;have fL:=VP (out.mergeSort (wW cmpL));have rI:(Z1 (out.mergeSort (wW cmpL))++List.replicate ((out.mergeSort (wW cmpL)).length-(Z1 (out.mergeSort (wW cmpL))).length) ([]:List UInt8)).length*16<=140741783322624:=by rw[ze,zT];omega
  repeat'(first|refine IW ?_ ?_<;>intro h<;>try omega)<;>conv=>whnf
  refine CALL.aA [1] (MS out (by omega)) ?_;rintro r O nx ⟨rfl,rfl,rfl⟩;conv=>whnf
  rw[<-hm];refine CALL.aA [1] (Z5I (out.mergeSort (wW cmpL)) (by omega)) ?_;rintro r O nx ⟨rfl,rfl,rfl⟩;conv=>whnf
  refine CALL.aA [1] (Zb9 (Z1 (out.mergeSort (wW cmpL))++List.replicate ((out.mergeSort (wW cmpL)).length-(Z1 (out.mergeSort (wW cmpL))).length) ([]:List UInt8)) (Z1 (out.mergeSort (wW cmpL))).length (by simp) rI) ?_;rintro r O nx ⟨rfl,rfl,rfl⟩;conv=>whnf
  refine u9.aA h0 [1] (.sl (.loc 1) 0 1 (wQ cmpL out).length (some (wQ cmpL out).length)) [(1, .rows 1 ((wQ cmpL out++List.replicate ((out.mergeSort (wW cmpL)).length-(Z1 (out.mergeSort (wW cmpL))).length) ([]:List UInt8)).map Z9))] ?_;exact⟨_,by unfold wQ;omega,rfl,rfl,rfl⟩
end Go.Proofs.YtlcbipfmodcedaaGreatDoor
