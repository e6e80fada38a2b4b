/- Part 40: SortInts. Conditions: as each part says. -/
import Derived.Test.YtlcbipfmodcedaaGreatDoorFrm21
import Derived.Test.YtlcbipfmodcedaaGreatDoorFrm39
set_option linter.unusedVariables false
set_option linter.unusedSimpArgs false
set_option maxRecDepth 20000
set_option maxHeartbeats 8000000
namespace Go.Proofs.YtlcbipfmodcedaaGreatDoor
open Go.Sx Go.Our Go.Sort Go.Shelf
open _root_.Go.Proofs.Tryz
def RH:uu:=(Zs [(0,1),(1,1),(2,1),(4,1),(5,1),(6,1),(7,1),(3,2),(8,2),(9,1)])
theorem Z71(l:List Int)(hl:l.length*8<=140741783322624):vS prog uf 108 1 [.sl (.loc 0) 0 1 l.length none] [(0, .rows 1 (l.map Zg))] []
 (fun r O nx=>r= .sl (.loc 0) 0 1 (Z5 l).length none/\O=[(0, .rows 1 ((Z5 l++List.replicate (l.length-(Z5 l).length) (0:Int)).map Zg))]/\nx=1):=by
 have fin:∀{m:Nat},m=(Z5 l).length->Z5 l=l->(SV.sl (.loc 0) 0 1 l.length none=SV.sl (.loc 0) 0 1 (Z5 l).length none)/\l.map Zg=(Z5 l++List.replicate (l.length-(Z5 l).length) (0:Int)).map Zg:=fun hm he=>by
  rw[he];simp
 refine vS.enter Z0 call108 func108 rfl 61 rfl rfl [.tmp 2] rfl ?_;intro w0 F η0 h0;conv=>whnf
 refine IF.mk (fun h=>?_) (fun h=>?_)
 .have h:l.length<2:=by simp at h;omega
  obtain⟨f1,f2⟩:=fin rfl (DN h);conv=>whnf
  rw[f1,f2];refine u0.here h0 (rc:= .sl (.loc 0) 0 1 (Z5 l).length none) (Oc:=[(0, .rows 1 ((Z5 l++List.replicate (l.length-(Z5 l).length) (0:Int)).map Zg))]) rfl rfl (by first|rfl|(simp only[Zl,Zh,Z2 _ (Vp _),zB,zF]<;>rfl)) ⟨rfl,trivial⟩ ⟨rfl,rfl,rfl⟩
 have h2:2<=l.length:=by simp at h;omega
 clear h;conv=>whnf
 refine vZ.go Z0 [0] (X:=Nat) (fun k=>1<=k/\k<=l.length/\Z5 (l.take k)=l.take k) (fun k=>[(3, .int .i64 (k:Int))]) (fun k=>[(0, .rows 1 (l.map Zg))]) 1 (fun k=>l.length-k) 1 ⟨by omega,by omega,NZ⟩ ?_;conv=>whnf
 refine⟨by exact vU.cA h0,?_⟩;rintro k ⟨o9,av,hk⟩;conv=>whnf
 rcases zY k l.length with hlt|hge
 .have hs:=Jy o9 hlt;have hk':(IntKind.i64.wrap ((k:Int)-1)).toNat=k-1:=by rw[Z9 (by omega) (by omega)];omega
  repeat'(first|refine Z4 6 RH ?_|refine GET.at (row:=Zg (l[k]'(by omega))) (Vc (by omega) (by omega)) ?_|refine GET.at (row:=Zg (l[k-1]'(by omega))) (Vc (by omega) (by omega)) ?_|refine AU ?_|refine IW ?_ ?_<;>intro h<;>try omega)<;>conv=>whnf
  .have heq:l[k]=l[k-1]:=id (h);rw[zf heq,hk]at hs;have hs0:(Z5 (l.take (k+1))).length=k:=by rw[hs];simp;omega
   clear h heq;refine vZ.go Z0 [0,4] (X:=Nat) (fun i=>k+1<=i/\i<=l.length/\(Z5 (l.take i)).length+1<=i/\k<=(Z5 (l.take i)).length) (fun i=>[(3, .int .i64 ((Z5 (l.take i)).length:Int)),(5, .int .i64 ((i-k:Nat):Int))]) (fun i=>[(0, .rows 1 ((Z5 (l.take i)++l.drop (Z5 (l.take i)).length).map Zg))]) 1 (fun i=>l.length-i) (k+1) ⟨by omega,by omega,by omega,by omega⟩ ?_;conv=>whnf
   refine⟨by(refine vU.wE h0 rfl rfl rfl (by first|rfl|(simp only[Zl,Zh,Z2 _ (Vp _),zB,zF]<;>rfl)) ?_ ?_<;>(repeat'(first|(with_reducible rfl)|(exact YA rfl (by first|(simp;done)|omega|(simp;omega)))|(exact z8 (SV.int _) (by first|omega|(simp(disch:=omega) only[wI,Z9,Zp]<;>omega)|(simp;done)|(simp<;>omega)))|(exact z8 (Hp.rows _) (by(rw[hs,zq,x7 av,yW])))|((conv=>whnf);refine⟨?_,?_⟩)|exact trivial|rfl))),?_⟩;rintro i ⟨hi1,hi2,Cf,hi4⟩;obtain⟨C,hC⟩:∃C,C=Z5 (l.take i):=⟨_,rfl⟩;have hsi:=fun h=>Jy (l:=l) (i:=i) (by omega) h;rw[<-hC]at Cf hi4 hsi;dsimp only;rw[<-hC];conv=>whnf
   rcases zY i l.length with hil|hil
   .have hsi:=hsi hil;have hwr:IntKind.i64.wrap (((i-k:Nat):Int)-1)=((i-1-k:Nat):Int):=by rw[Z9 (by omega) (by omega)];omega
    have hg1:((C++l.drop C.length).map Zg)[i]?=some (Zg l[i]):=rB Zg (by omega) hil;have hg2:((C++l.drop C.length).map Zg)[i-1]?=some (Zg (l[i-1]'(by omega))):=rB Zg (by omega) (by omega);have hg3:((C++l.drop C.length).map Zg)[C.length]?=some (Zg (l[C.length]'(by omega))):=rB Zg (zo _) (by omega);repeat'(first|refine Z4 11 RH ?_|refine GET.at (row:=Zg (l[i]'(by omega))) (iT hg1 (by omega)) ?_|refine GET.at (row:=Zg (l[i-1]'(by omega))) (iT hg2 (by rw[hwr];omega)) ?_|refine GET.at (row:=Zg (l[C.length]'(by omega))) (iT hg3 (by omega)) ?_|refine AU ?_|refine IW ?_ ?_<;>intro h<;>try omega)<;>conv=>whnf
    .have hne:¬l[i]=l[i-1]'(by omega):=fun he=>by rw[he]at h;simp at h
     rw[z7 hne]at hsi;refine⟨i+1,⟨by omega,by omega,by rw[hsi,zh];simp;omega,by rw[hsi,zh];simp;omega⟩,by omega,?_⟩;rw[hsi];conv=>whnf
     (refine vU.wE h0 rfl rfl rfl (by first|rfl|(simp only[Zl,Zh,Z2 _ (Vp _),zB,zF]<;>rfl)) ?_ ?_<;>(repeat'(first|(with_reducible rfl)|(exact YA rfl (by first|(simp;done)|omega|(simp;omega)))|(exact z8 (SV.int _) (by first|omega|(simp(disch:=omega) only[wI,Z9,Zp]<;>omega)|(simp;done)|(simp<;>omega)))|(exact z8 (Hp.rows _) (by(first|(simp only[zx,Int.toNat_natCast];exact FN Zg _ (by omega))|rfl)))|((conv=>whnf);refine⟨?_,?_⟩)|exact trivial|rfl)))
    .have heq:l[i]=l[i-1]'(by omega):=id (h);rw[zf heq]at hsi;refine⟨i+1,⟨by omega,by omega,by rw[hsi];omega,by rw[hsi];omega⟩,by omega,?_⟩;rw[hsi];conv=>whnf
     exact vU.cA h0
   .have nZ:C=Z5 l:=by rw[hC,zg hil]
    have kg:C.length<=l.length:=by omega
    repeat'(first|refine u6.mk (by simp only[zy,zh,zD];omega) ?_|refine u6.mk ⟨by omega,Kc (by omega)⟩ ?_|refine AU ?_|refine IW ?_ ?_<;>intro h<;>try omega)<;>conv=>whnf
    rw[<-nZ];refine u0.here h0 (rc:= .sl (.loc 0) 0 1 C.length none) (Oc:=[(0, .rows 1 ((C++List.replicate (l.length-C.length) (0:Int)).map Zg))]) (by simp) rfl (by first|rfl|(simp only[Zl,Zh,Z2 _ (Vp _),zB,zF]<;>rfl)) ⟨?_,trivial⟩ ⟨rfl,rfl,rfl⟩;refine z8 (Hp.rows 1) ?_;simp only[zx,Int.toNat_natCast];exact MC Zg (0:Int) kg
  .have hne:¬l[k]=l[k-1]:=fun he=>by rw[he]at h;simp at h
   rw[z7 hne,hk]at hs;refine⟨k+1,⟨by omega,by omega,by rw[hs,zH hlt]⟩,by omega,?_⟩;conv=>whnf
   exact vU.cA h0
 .have hkn:k=l.length:=by omega
  rw[hkn,zg (zo _)]at hk;obtain⟨f1,f2⟩:=fin rfl hk;repeat'(first|refine IW ?_ ?_<;>intro h<;>try omega)<;>conv=>whnf
  rw[f1,f2];refine u0.here h0 (rc:= .sl (.loc 0) 0 1 (Z5 l).length none) (Oc:=[(0, .rows 1 ((Z5 l++List.replicate (l.length-(Z5 l).length) (0:Int)).map Zg))]) rfl rfl (by first|rfl|(simp only[Zl,Zh,Z2 _ (Vp _),zB,zF]<;>rfl)) ⟨rfl,trivial⟩ ⟨rfl,rfl,rfl⟩
def ZcA:Go.Shelf.Ren:=⟨fun|189=>139|125=>114|257=>191|128=>150|129=>151|294=>231|295=>232|296=>233|297=>234|298=>235|299=>236|216=>237|300=>238|301=>239|328=>277|329=>196|330=>197|331=>278|332=>279|215=>136|343=>303|n=>n,fun|28=>72|3=>3|46=>177|0=>0|51=>157|53=>162|4=>4|183=>208|182=>207|131=>103|5=>5|9=>9|218=>250|222=>87|228=>292|229=>130|n=>n,fun|n=>n⟩
theorem Zkh:Go.Proofs.Lays.n189 prog ZcA where
 mixed:=by kernel_rfl
 f125:=func114.trans (z8 some (by kernel_rfl))
 f128:=func150.trans (z8 some (by kernel_rfl))
 f129:=func151.trans (z8 some (by kernel_rfl))
 f189:=func139.trans (z8 some (by kernel_rfl))
 f215:=func136.trans (z8 some (by kernel_rfl))
 f216:=func237.trans (z8 some (by kernel_rfl))
 f257:=func191.trans (z8 some (by kernel_rfl))
 f294:=func231.trans (z8 some (by kernel_rfl))
 f295:=func232.trans (z8 some (by kernel_rfl))
 f296:=func233.trans (z8 some (by kernel_rfl))
 f297:=func234.trans (z8 some (by kernel_rfl))
 f298:=func235.trans (z8 some (by kernel_rfl))
 f299:=func236.trans (z8 some (by kernel_rfl))
 f300:=func238.trans (z8 some (by kernel_rfl))
 f301:=func239.trans (z8 some (by kernel_rfl))
 f328:=func277.trans (z8 some (by kernel_rfl))
 f329:=func196.trans (z8 some (by kernel_rfl))
 f330:=func197.trans (z8 some (by kernel_rfl))
 f331:=func278.trans (z8 some (by kernel_rfl))
 f332:=func279.trans (z8 some (by kernel_rfl))
 f343:=func303.trans (z8 some (by kernel_rfl))
 t0:=underlying0
 a0:=isAgg0
 z0:=sizeOf0
 v0:=zeroValue0
 t3:=underlying3
 a3:=isAgg3
 z3:=sizeOf3
 v3:=zeroValue3
 t4:=underlying4
 a4:=isAgg4
 z4:=sizeOf4
 v4:=zeroValue4
 t5:=underlying5
 a5:=isAgg5
 z5:=sizeOf5
 v5:=zeroValue5
 t9:=underlying9
 a9:=isAgg9
 z9:=sizeOf9
 v9:=zeroValue9
 t28:=underlying72
 a28:=isAgg72
 z28:=sizeOf72
 v28:=zeroValue72
 t46:=underlying177
 a46:=isAgg177
 z46:=sizeOf177
 v46:=zeroValue177
 t51:=underlying157
 a51:=isAgg157
 z51:=sizeOf157
 v51:=zeroValue157
 t53:=underlying162
 a53:=isAgg162
 z53:=sizeOf162
 v53:=zeroValue162
 t131:=underlying103
 a131:=isAgg103
 z131:=sizeOf103
 v131:=zeroValue103
 t182:=underlying207
 a182:=isAgg207
 z182:=sizeOf207
 v182:=zeroValue207
 t183:=underlying208
 a183:=isAgg208
 z183:=sizeOf208
 v183:=zeroValue208
 t218:=underlying250
 a218:=isAgg250
 z218:=sizeOf250
 v218:=zeroValue250
 t222:=underlying87
 a222:=isAgg87
 z222:=sizeOf87
 v222:=zeroValue87
 t228:=underlying292
 a228:=isAgg292
 z228:=sizeOf292
 v228:=zeroValue292
 t229:=underlying130
 a229:=isAgg130
 z229:=sizeOf130
 v229:=zeroValue130
theorem ZcB(l:List Int)(hl:l.length*8<=140737488351232):vS prog uf 139 1 [.sl (.loc 0) 0 1 l.length none] [(0, .rows 1 (l.map Zg))] []
 (fun r O nx=>r= .uz []/\O=[(0, .rows 1 ((l.mergeSort (q9 uY)).map Zg))]/\nx=1):=
 Z8M Zkh call139 l (by omega)
end Go.Proofs.YtlcbipfmodcedaaGreatDoor
