/- Part 49: Ren7. Conditions: as each part says. -/
import Derived.Test.YtlcbipfmodcedaaGreatDoorFrm10
import Derived.Test.YtlcbipfmodcedaaGreatDoorFrm20
set_option linter.unusedVariables false
set_option linter.unusedSimpArgs false
set_option maxRecDepth 20000
set_option maxHeartbeats 8000000
namespace Go.Proofs.YtlcbipfmodcedaaGreatDoor
open Go.Sx Go.Our
open _root_.Go.Proofs.Tryz
def Zj1:uu:=(Zs [(0,1),(1,1),(2,1),(3,1),(5,1),(4,2),(6,2),(7,1)])
def Zj2:uu:=(Zs [(0,1),(1,1),(2,1),(3,1),(4,1),(6,1),(8,1),(9,1),(10,1),(11,1),(13,1),(15,1),(16,1),(17,1),(18,1),(20,1),(22,1),(23,1),(24,1),(25,1),(27,1),(5,2),(12,2),(19,2),(26,2),(7,3),(14,3),(21,3),(28,3),(29,1),(30,3),(31,0),(32,1)])
theorem Zfi{ps:List Pr}{s:List UInt8}{i:Nat}(h:i<ps.length):dM (ps.drop i) s=if ps[i].1=s then some ps[i].2 else dM (ps.drop (i+1)) s:=by
 unfold dM;rw[zm h,List.find?_cons];by_cases e:ps[i].1=s
 rw[yq e,zf e];rfl;rw[y5 e,z7 e]
theorem WB(t:Tm)(ps zp:List Pr)(lim:Option Nat)(hp:(ps++zp).length<=1152921504606846976):vS prog uf 81 1 [.agg (ZF t), .sl (.loc 0) 0 2 ps.length lim] [] [(0, .rows 2 ((ps++zp).map Yu))] (w6 1 (.agg (ZF (nX ps t)))):=by
 have hp1:(ps++zp).length=ps.length+zp.length:=zh;refine vS.enter Z0 call81 func81 rfl 32 rfl rfl [.cell 4 65] rfl ?_;intro w0 F η0 h0;conv=>whnf
 repeat'(first|refine IW ?_ ?_<;>intro h<;>try omega)<;>conv=>whnf
 .refine u0.ua h0 rfl ?_;unfold nX;rw[z7 (by omega)];rfl
 .have hk:t.k=2:=by omega
  refine vZ.go Z0 [1,2,4] (X:=Nat) (fun i=>i<=ps.length/\dM ps t.t=dM (ps.drop i) t.t) (fun i=>[(5, .int .i64 (i:Int))]) (fun i=>[(1, .box (ZF t)),(2, .box (ZF ZC))]) 3 (fun i=>ps.length-i) 0 ⟨by omega,rfl⟩ ?_;conv=>whnf
  refine⟨by exact vU.cA h0,?_⟩;rintro i ⟨hi,ht⟩;conv=>whnf
  by_cases hil:i<ps.length
  .rw[Zfi hil]at ht;repeat'(first|refine Z4 6 Zj1 ?_|refine GET.at (row:=Yu (ps[i]'(by omega))) (Zk7 (by omega) (by omega)) ?_|refine AU ?_|refine IW ?_ ?_<;>intro h<;>try omega)<;>conv=>whnf
   .refine u0.ua h0 rfl ?_;unfold nX;rw[zf hk,ht,zf h];rfl
   .refine⟨i+1,⟨by omega,by rw[ht,z7 h]⟩,by omega,?_⟩;conv=>whnf
    exact vU.cA h0
  .have hie:i=ps.length:=by omega
   have ht2:dM ps t.t=none:=by rw[ht,hie,vw];rfl
   repeat'(first|refine IW ?_ ?_<;>intro h<;>try omega)<;>conv=>whnf
   refine u0.ua h0 rfl ?_;unfold nX;rw[zf hk,ht2];rfl
theorem ZgQ{J:Type}(f:Qd->J){l:List Qd}{i:Nat}(h:i<l.length):(l.take (i+1)).map f=(l.take i).map f++ [f l[i]]:=by
 rw[zH h,yz];rfl
theorem Zac(A:List Qd)(hA:A.length*224<=140737488351232):vS prog uf 82 1 [.sl (.loc 0) 0 16 A.length none] [] [(0, .rows 16 (A.map Z3))] (tC Z3 16 1 (wj ZP A)):=by
 have h:=Ci A hA A.length A.length 0 (zo _) (by omega);rwa [yN,y8,Fx kH _ A (zo _)]at h
theorem Sn(l z:List Qd)(lim:Option Nat)(ps zp:List Pr)(nL:Option Nat)(hl:JS l)(hz:(l++z).length<=1152921504606846976)(hp:(ps++zp).length<=1152921504606846976):vS prog uf 41 2 [.sl (.loc 0) 0 16 l.length lim, .sl (.loc 1) 0 2 ps.length nL] [] [(0, .rows 16 ((l++z).map Z3)),(1, .rows 2 ((ps++zp).map Yu))]
 (tC Z3 16 2 (wj ZP (l.map (oE ps)))):=by
 unfold JS at hl;refine vS.enter Z0 call41 func41 rfl 47 rfl rfl [.tmp 4] rfl ?_;intro w0 F η0 h0;conv=>whnf
 refine vZ.nil 5 16 rfl ?_;refine vZ.go Z0 [0,1] (X:=Nat) (fun i=>i<=l.length) (fun i=>[(6, .int .i64 (i:Int)),(5, .sl (.loc 2) 0 16 ((l.take i).map (oE ps)).length none)]) (fun i=>[(2, .rows 16 (((l.take i).map (oE ps)).map Z3))]) 3 (fun i=>l.length-i) 0 (by omega) ?_;conv=>whnf
 refine⟨by exact vU.cA h0,?_⟩;intro i hi;have mR:((l.take i).map (oE ps)).length=i:=by simp;omega
 conv=>whnf
 by_cases hil:i<l.length
 .have hs:=ZgQ (oE ps) hil;generalize(l.take i).map (oE ps)=out at*;repeat'(first|refine Z4 5 Zj2 ?_|refine wh.mk (fun _ _=>?_)|refine GET.at (row:=Z3 (l[i]'(by omega))) (Cj (by omega) (by omega)) ?_|refine CALL.looks [1] (WB l[i].s ps zp nL hp) rfl rfl rfl rfl ⟨⟨rfl,z8 some (Zv _ (h:= .rows _ _) (VG _)).symm,Yi (VG _)⟩,trivial⟩ ?_|refine CALL.looks [1] (WB l[i].p ps zp nL hp) rfl rfl rfl rfl ⟨⟨rfl,z8 some (Zv _ (h:= .rows _ _) (VG _)).symm,Yi (VG _)⟩,trivial⟩ ?_|refine CALL.looks [1] (WB l[i].o ps zp nL hp) rfl rfl rfl rfl ⟨⟨rfl,z8 some (Zv _ (h:= .rows _ _) (VG _)).symm,Yi (VG _)⟩,trivial⟩ ?_|refine CALL.looks [1] (WB l[i].g ps zp nL hp) rfl rfl rfl rfl ⟨⟨rfl,z8 some (Zv _ (h:= .rows _ _) (VG _)).symm,Yi (VG _)⟩,trivial⟩ ?_|refine u6.mk (Zn 224 rfl rfl (by simp) (by simp) (by omega)) ?_|refine AU ?_|refine IW ?_ ?_<;>intro h<;>try omega)<;>conv=>whnf
  refine⟨i+1,by omega,by omega,?_⟩;rw[hs];conv=>whnf
  (refine vU.uw h0 [4] rfl rfl rfl (by first|rfl|(simp only[Zl,Zh,Z2 _ (Zo _),zB,zF]<;>rfl)) ?_ ?_<;>(repeat'(first|(with_reducible rfl)|(exact Zk (Zo _) (Zd _ (Zo _)))|(exact Zk (Zo _) (by(simp[zg,YG,Z3,oE])))|(exact YA rfl (by first|(simp;done)|omega|(simp;omega)))|(exact z8 (SV.int _) (by first|omega|(simp(disch:=omega) only[wI,Z9,Zp]<;>omega)|(simp;done)|(simp<;>omega)))|((conv=>whnf);refine⟨?_,?_⟩)|exact trivial|(simp only[ur,uS];done)|rfl)))
 .have hie:i=l.length:=by omega
  subst hie;rw[y8]at mR⊢;generalize l.map (oE ps)=out at*;repeat'(first|refine IW ?_ ?_<;>intro h<;>try omega)<;>conv=>whnf
  refine CALL.aA [2] (Zac out (by omega)) ?_;rintro r O nx ⟨rfl,rfl,rfl⟩;conv=>whnf
  refine u0.aA h0 [3] (.sl (.loc 2) 0 16 (wj ZP out).length none) [(2, .rows 16 ((wj ZP out).map Z3))] ?_;exact⟨rfl,rfl,rfl⟩
end Go.Proofs.YtlcbipfmodcedaaGreatDoor
