/- Part 34: RList7, RBlanks7. Conditions: as each part says. -/
import Derived.Test.YtlcbipfmodcedaaGreatDoorFrm11
set_option linter.unusedVariables false
set_option linter.unusedSimpArgs false
set_option maxRecDepth 20000
set_option maxHeartbeats 8000000
namespace Go.Proofs.YtlcbipfmodcedaaGreatDoor
open Go.Sx Go.Our
open _root_.Go.Proofs.Tryz
theorem Zcy(out:List Tm)(h:out.length*56<=140737488351232):vS prog uf 80 1 [.sl (.loc 0) 0 4 out.length none] [] [(0, .rows 4 (out.map ZF))] (tC ZF 4 1 (wj YH out)):=by
 have hT:=Bw out h out.length out.length 0 (zo _) (by omega);rwa [yN,y8,Fz bK _ out (zo _)]at hT
end Go.Proofs.YtlcbipfmodcedaaGreatDoor
namespace Go.Proofs.YtlcbipfmodcedaaGreatDoor
open Go.Sx Go.Our
open _root_.Go.Proofs.Tryz
def Za1:uu:=(Zs [(0,1),(1,1),(2,1),(3,1),(5,1),(6,1),(7,1),(8,1),(10,1),(11,1),(12,1),(13,1),(15,1),(16,1),(17,1),(18,1),(4,2),(9,2),(14,2),(19,2),(20,1),(21,3),(22,0)])
theorem HH(l:List (List UInt8))(a:List (List UInt8)):(l++a).map Yh=l.map Yh++a.map Yh:=yz
theorem VI(l z:List Qd)(lim:Option Nat)(hl:JS l)(hz:(l++z).length<=1152921504606846976):vS prog uf 40 1 [.sl (.loc 0) 0 16 l.length lim] [] [(0, .rows 16 ((l++z).map Z3))]
 (tC Ze 1 1 (wj cmpL (Zz l))):=by
 unfold JS at hl;have hlen:∀i,((l.take i).flatMap Zw).length<=(l.take i).length*4:=fun i=>FT _ Ut _;unfold Zz;refine vS.enter Z0 call40 func40 rfl 70 rfl rfl [.tmp 2] rfl ?_;intro w0 F η0 h0;conv=>whnf
 refine vZ.nil 3 4 rfl ?_;refine vZ.go Z0 [0] (X:=Nat) (fun i=>i<=l.length) (fun i=>[(4, .int .i64 (i:Int)),(3, .sl (.loc 1) 0 4 (((l.take i).flatMap Zw).map Yh).length none)]) (fun i=>[(1, .rows 4 ((((l.take i).flatMap Zw).map Yh).map ZF))]) 2 (fun i=>l.length-i) 0 (by omega) ?_;conv=>whnf
 refine⟨by exact vU.cA h0,?_⟩;intro i hi;have mR:=hlen i;rw[zq,x7 hi]at mR;conv=>whnf
 by_cases hil:i<l.length
 .have hs:=MJ Zw hil;generalize(l.take i).flatMap Zw=out at*;repeat'(first|refine Z4 5 Za1 ?_|refine wh.mk (fun _ _=>?_)|refine GET.at (row:=Z3 (l[i]'(by omega))) (Cj (by omega) (by omega)) ?_|refine AU ?_|refine IW ?_ ?_<;>intro h<;>try omega)<;>conv=>whnf
  refine vZ.go Z0 [0,4,5] (X:=Nat×List Tm) (fun x=>x.1<=4/\x.2=(out++WF l[i] x.1).map Yh) (fun x=>[(6, .int .i64 (x.1:Int)),(3, .sl (.loc 1) 0 4 x.2.length none)]) (fun x=>[(1, .rows 4 (x.2.map ZF)),(2, .rows 4 ((iV l[i]).map ZF))]) 3 (fun x=>4-x.1) (0,out.map Yh) ⟨by simp,by simp[WF]⟩ ?_;conv=>whnf
  refine⟨by exact vU.cA h0,?_⟩;rintro⟨j,o2⟩ ⟨hj,kB⟩;dsimp only at hj kB⊢;have hfl:=ML l[i] j;have Cl:o2.length<=i*4+j:=by rw[kB,zy,zh];omega
  by_cases tD:j<4
  .obtain rfl|rfl|rfl|rfl:j=0\/j=1\/j=2\/j=3:=by omega
   .have hst:=(W2 l[i]).1;conv=>whnf
    repeat'(first|refine GET.at (row:=ZF l[i].s) rfl ?_|refine u6.mk (Zn 56 rfl rfl rfl (by simp) (by omega)) ?_|refine AU ?_|refine IW ?_ ?_<;>intro h<;>try omega)<;>conv=>whnf
    .refine⟨(1,o2++ [Yh l[i].s.t]),⟨by simp,by dsimp only;rw[hst,VB h,kB,<-zR,HH _ [l[i].s.t]];rfl⟩,by simp,?_⟩;dsimp only;conv=>whnf
     (refine vU.uw h0 [4,2] rfl rfl rfl (by first|rfl|(simp only[Zl,Zh,Z2 _ (Za _),zB,zF]<;>rfl)) ?_ ?_<;>(repeat'(first|(with_reducible rfl)|(exact Zk (Za _) (Zd _ (Za _)))|(exact Zk (Za _) (by(simp[zg,YG,ZF,Yh])))|(exact YA rfl (by first|(simp;done)|omega|(simp;omega)))|(exact z8 (SV.int _) (by first|omega|(simp(disch:=omega) only[wI,Z9,Zp]<;>omega)|(simp;done)|(simp<;>omega)))|((conv=>whnf);refine⟨?_,?_⟩)|exact trivial|(simp only[ur,uS];done)|rfl)))
    .refine⟨(1,o2),⟨by simp,by dsimp only;rw[hst,VC h,kB,zP]⟩,by simp,?_⟩;dsimp only;conv=>whnf
     exact vU.cA h0
   .have hst:=(W2 l[i]).2.1;conv=>whnf
    repeat'(first|refine GET.at (row:=ZF l[i].p) rfl ?_|refine u6.mk (Zn 56 rfl rfl rfl (by simp) (by omega)) ?_|refine AU ?_|refine IW ?_ ?_<;>intro h<;>try omega)<;>conv=>whnf
    .refine⟨(2,o2++ [Yh l[i].p.t]),⟨by simp,by dsimp only;rw[hst,VB h,kB,<-zR,HH _ [l[i].p.t]];rfl⟩,by simp,?_⟩;dsimp only;conv=>whnf
     (refine vU.uw h0 [4,2] rfl rfl rfl (by first|rfl|(simp only[Zl,Zh,Z2 _ (Za _),zB,zF]<;>rfl)) ?_ ?_<;>(repeat'(first|(with_reducible rfl)|(exact Zk (Za _) (Zd _ (Za _)))|(exact Zk (Za _) (by(simp[zg,YG,ZF,Yh])))|(exact YA rfl (by first|(simp;done)|omega|(simp;omega)))|(exact z8 (SV.int _) (by first|omega|(simp(disch:=omega) only[wI,Z9,Zp]<;>omega)|(simp;done)|(simp<;>omega)))|((conv=>whnf);refine⟨?_,?_⟩)|exact trivial|(simp only[ur,uS];done)|rfl)))
    .refine⟨(2,o2),⟨by simp,by dsimp only;rw[hst,VC h,kB,zP]⟩,by simp,?_⟩;dsimp only;conv=>whnf
     exact vU.cA h0
   .have hst:=(W2 l[i]).2.2.1;conv=>whnf
    repeat'(first|refine GET.at (row:=ZF l[i].o) rfl ?_|refine u6.mk (Zn 56 rfl rfl rfl (by simp) (by omega)) ?_|refine AU ?_|refine IW ?_ ?_<;>intro h<;>try omega)<;>conv=>whnf
    .refine⟨(3,o2++ [Yh l[i].o.t]),⟨by simp,by dsimp only;rw[hst,VB h,kB,<-zR,HH _ [l[i].o.t]];rfl⟩,by simp,?_⟩;dsimp only;conv=>whnf
     (refine vU.uw h0 [4,2] rfl rfl rfl (by first|rfl|(simp only[Zl,Zh,Z2 _ (Za _),zB,zF]<;>rfl)) ?_ ?_<;>(repeat'(first|(with_reducible rfl)|(exact Zk (Za _) (Zd _ (Za _)))|(exact Zk (Za _) (by(simp[zg,YG,ZF,Yh])))|(exact YA rfl (by first|(simp;done)|omega|(simp;omega)))|(exact z8 (SV.int _) (by first|omega|(simp(disch:=omega) only[wI,Z9,Zp]<;>omega)|(simp;done)|(simp<;>omega)))|((conv=>whnf);refine⟨?_,?_⟩)|exact trivial|(simp only[ur,uS];done)|rfl)))
    .refine⟨(3,o2),⟨by simp,by dsimp only;rw[hst,VC h,kB,zP]⟩,by simp,?_⟩;dsimp only;conv=>whnf
     exact vU.cA h0
   .have hst:=(W2 l[i]).2.2.2;conv=>whnf
    repeat'(first|refine GET.at (row:=ZF l[i].g) rfl ?_|refine u6.mk (Zn 56 rfl rfl rfl (by simp) (by omega)) ?_|refine AU ?_|refine IW ?_ ?_<;>intro h<;>try omega)<;>conv=>whnf
    .refine⟨(4,o2++ [Yh l[i].g.t]),⟨by simp,by dsimp only;rw[hst,VB h,kB,<-zR,HH _ [l[i].g.t]];rfl⟩,by simp,?_⟩;dsimp only;conv=>whnf
     (refine vU.uw h0 [4,2] rfl rfl rfl (by first|rfl|(simp only[Zl,Zh,Z2 _ (Za _),zB,zF]<;>rfl)) ?_ ?_<;>(repeat'(first|(with_reducible rfl)|(exact Zk (Za _) (Zd _ (Za _)))|(exact Zk (Za _) (by(simp[zg,YG,ZF,Yh])))|(exact YA rfl (by first|(simp;done)|omega|(simp;omega)))|(exact z8 (SV.int _) (by first|omega|(simp(disch:=omega) only[wI,Z9,Zp]<;>omega)|(simp;done)|(simp<;>omega)))|((conv=>whnf);refine⟨?_,?_⟩)|exact trivial|(simp only[ur,uS];done)|rfl)))
    .refine⟨(4,o2),⟨by simp,by dsimp only;rw[hst,VC h,kB,zP]⟩,by simp,?_⟩;dsimp only;conv=>whnf
     exact vU.cA h0
  .obtain rfl:j=4:=by omega
   rw[MK]at kB;conv=>whnf
   repeat'(first|refine IW ?_ ?_<;>intro h<;>try omega)<;>conv=>whnf
   refine⟨i+1,by omega,by omega,?_⟩;rw[hs,<-kB];conv=>whnf
   exact vU.cA h0
 .have hie:i=l.length:=by omega
  subst hie;rw[y8]at mR⊢;generalize l.flatMap Zw=out at*;have D1:=ZbP out;have hls:=Km (c:=YH) (out.map Yh);have hr:=Zcy (out.map Yh) (by rw[zy];omega);rw[<-D1];rw[zy]at hls;repeat'(first|refine IW ?_ ?_<;>intro h<;>try omega)<;>conv=>whnf
  refine CALL.aA [1] (hr) ?_;generalize wj YH (out.map Yh)=all at*;rintro r O nx ⟨rfl,rfl,rfl⟩;conv=>whnf
  refine vZ.nil 7 1 rfl ?_;refine vZ.go Z0 [3] (X:=Nat) (fun i=>i<=all.length) (fun i=>[(8, .int .i64 (i:Int)),(7, .sl (.loc 3) 0 1 ((all.take i).map Tm.t).length none)]) (fun i=>[(2, .rows 4 (all.map ZF)),(3, .rows 1 (((all.take i).map Tm.t).map Ze))]) 4 (fun i=>all.length-i) 0 (by omega) ?_;conv=>whnf
  refine⟨by exact vU.cA h0,?_⟩;intro i hi;conv=>whnf
  by_cases hil:i<all.length
  .have hs:(all.take (i+1)).map Tm.t=(all.take i).map Tm.t++ [all[i].t]:=by rw[zH hil,yz];rfl
   have hoi:((all.take i).map Tm.t).length=i:=by simp;omega
   generalize(all.take i).map Tm.t=o3 at*;repeat'(first|refine GET.at (row:=ZF (all[i]'(by omega))) (YI (by omega) (by omega)) ?_|refine u6.mk (Zn 16 rfl rfl rfl (by simp) (by omega)) ?_|refine AU ?_|refine IW ?_ ?_<;>intro h<;>try omega)<;>conv=>whnf
   refine⟨i+1,by omega,by omega,?_⟩;rw[hs];conv=>whnf
   (refine vU.uw h0 [1,2,5] rfl rfl rfl (by(repeat'(first|(refine Yf rfl ?_ ?_)|exact Yi (Za _)|exact WO (Za _)|exact Yi (Zq _)|exact WO (Zq _)|rfl))) ?_ ?_<;>(repeat'(first|(with_reducible rfl)|exact trivial|(exact YA rfl (by first|omega|(simp(disch:=omega) only[wI,Z9,Zp]<;>omega)|(simp;done)|(simp<;>omega)))|(exact z8 (SV.int _) (by first|omega|(simp(disch:=omega) only[wI,Z9,Zp]<;>omega)|(simp;done)|(simp<;>omega)))|(exact Kj (by first|omega|(simp(disch:=omega) only[wI,Z9,Zp]<;>omega)|(simp;done)|(simp<;>omega)))|(exact Kk (by first|omega|(simp(disch:=omega) only[wI,Z9,Zp]<;>omega)|(simp;done)|(simp<;>omega)))|(exact(Zv _ (h:= .rows _ _) (Za _)).symm)|(exact(Zv _ (h:= .rows _ _) (Za _)).trans (Zv _ (h:= .rows _ _) (Za _)).symm)|(exact Zk (Za _) (by(simp[zg,YG,Ze])))|(exact(Zv _ (h:= .rows _ _) (Zq _)).symm)|(exact(Zv _ (h:= .rows _ _) (Zq _)).trans (Zv _ (h:= .rows _ _) (Zq _)).symm)|(exact Zk (Zq _) (by(simp[zg,YG,Ze])))|((conv=>whnf);refine⟨?_,?_⟩)|(simp only[ur,uS];done)|rfl)))
  .have hie:i=all.length:=by omega
   subst hie;rw[y8];repeat'(first|refine IW ?_ ?_<;>intro h<;>try omega)<;>conv=>whnf
   refine u0.aA h0 [3] (.sl (.loc 1) 0 1 (all.map Tm.t).length none) [(1, .rows 1 ((all.map Tm.t).map Ze))] ?_;exact⟨rfl,rfl,rfl⟩
end Go.Proofs.YtlcbipfmodcedaaGreatDoor
