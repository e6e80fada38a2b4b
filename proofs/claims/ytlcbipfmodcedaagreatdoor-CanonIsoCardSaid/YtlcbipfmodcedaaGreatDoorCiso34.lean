/- Part 34: SortInts. Conditions: as each part says. -/
import Derived.Test.YtlcbipfmodcedaaGreatDoorCiso16
import Derived.Test.YtlcbipfmodcedaaGreatDoorCiso33
set_option linter.unusedVariables false
set_option linter.unusedSimpArgs false
set_option maxRecDepth 20000
set_option maxHeartbeats 8000000
namespace Go.Proofs.YtlcbipfmodcedaaGreatDoor
open Go.Sx Go.Our Go.Sort Go.Shelf
open _root_.Go.Proofs.Tryz
def SO:uJ:=(ZI [(0,1),(1,1),(2,1),(4,1),(5,1),(6,1),(7,1),(3,2),(8,2),(9,1)])
theorem Z6r(l:List Int)(hl:l.length*8<=140741783322624):vW prog uv 108 1 [.sl (.loc 0) 0 1 l.length none] [(0, .rows 1 (l.map Z8))] []
 (fun r O nx=>r= .sl (.loc 0) 0 1 (Z1 l).length none/\O=[(0, .rows 1 ((Z1 l++List.replicate (l.length-(Z1 l).length) (0:Int)).map Z8))]/\nx=1):=by
 have fin:∀{m:Nat},m=(Z1 l).length->Z1 l=l->(SV.sl (.loc 0) 0 1 l.length none=SV.sl (.loc 0) 0 1 (Z1 l).length none)/\l.map Z8=(Z1 l++List.replicate (l.length-(Z1 l).length) (0:Int)).map Z8:=fun hm he=>by
  rw[he];simp
 refine vW.enter Z3 call108 func108 rfl 61 rfl rfl [.tmp 2] rfl ?_;intro w0 F η0 h0;conv=>whnf
 refine IF.mk (fun h=>?_) (fun h=>?_)
 .have h:l.length<2:=by simp at h;omega
  obtain⟨f1,f2⟩:=fin rfl (VQ h);conv=>whnf
  rw[f1,f2];refine u9.here h0 (rc:= .sl (.loc 0) 0 1 (Z1 l).length none) (Oc:=[(0, .rows 1 ((Z1 l++List.replicate (l.length-(Z1 l).length) (0:Int)).map Z8))]) rfl rfl (by first|rfl|(simp only[Zu,Zp,Zc _ (Uv _),zS,y6]<;>rfl)) ⟨rfl,trivial⟩ ⟨rfl,rfl,rfl⟩
 have h2:2<=l.length:=by simp at h;omega
 clear h;conv=>whnf
 refine ua.go Z3 [0] (X:=Nat) (fun k=>1<=k/\k<=l.length/\Z1 (l.take k)=l.take k) (fun k=>[(3, .int .i64 (k:Int))]) (fun k=>[(0, .rows 1 (l.map Z8))]) 1 (fun k=>l.length-k) 1 ⟨by omega,by omega,WG⟩ ?_;conv=>whnf
 refine⟨by exact vY.cA h0,?_⟩;rintro k ⟨nD,cL,hk⟩;conv=>whnf
 rcases yD k l.length with hlt|hge
 .have hs:=X4 nD hlt;have hk':(IntKind.i64.wrap ((k:Int)-1)).toNat=k-1:=by rw[Z4 (by omega) (by omega)];omega
  repeat'(first|refine Zs 6 SO ?_|refine GET.at (row:=Z8 (l[k]'(by omega))) (YT (by omega) (by omega)) ?_|refine GET.at (row:=Z8 (l[k-1]'(by omega))) (YT (by omega) (by omega)) ?_|refine AU ?_|refine IW ?_ ?_<;>intro h<;>try omega)<;>conv=>whnf
  .have heq:l[k]=l[k-1]:=id (h);rw[z8 heq,hk]at hs;have hs0:(Z1 (l.take (k+1))).length=k:=by rw[hs];simp;omega
   clear h heq;refine ua.go Z3 [0,4] (X:=Nat) (fun i=>k+1<=i/\i<=l.length/\(Z1 (l.take i)).length+1<=i/\k<=(Z1 (l.take i)).length) (fun i=>[(3, .int .i64 ((Z1 (l.take i)).length:Int)),(5, .int .i64 ((i-k:Nat):Int))]) (fun i=>[(0, .rows 1 ((Z1 (l.take i)++l.drop (Z1 (l.take i)).length).map Z8))]) 1 (fun i=>l.length-i) (k+1) ⟨by omega,by omega,by omega,by omega⟩ ?_;conv=>whnf
   refine⟨by(refine vY.uA h0 rfl rfl rfl (by first|rfl|(simp only[Zu,Zp,Zc _ (Uv _),zS,y6]<;>rfl)) ?_ ?_<;>(repeat'(first|(with_reducible rfl)|(exact YZ rfl (by first|(simp;done)|omega|(simp;omega)))|(exact zf (SV.int _) (by first|omega|(simp(disch:=omega) only[uP,Z4,Zb]<;>omega)|(simp;done)|(simp<;>omega)))|(exact zf (Hp.rows _) (by(rw[hs,zA,xN cL,xd])))|((conv=>whnf);refine⟨?_,?_⟩)|exact trivial|rfl))),?_⟩;rintro i ⟨hi1,hi2,rH,hi4⟩;obtain⟨C,hC⟩:∃C,C=Z1 (l.take i):=⟨_,rfl⟩;have hsi:=fun h=>X4 (l:=l) (i:=i) (by omega) h;rw[<-hC]at rH hi4 hsi;dsimp only;rw[<-hC];conv=>whnf
   rcases yD i l.length with hil|hil
   .have hsi:=hsi hil;have hwr:IntKind.i64.wrap (((i-k:Nat):Int)-1)=((i-1-k:Nat):Int):=by rw[Z4 (by omega) (by omega)];omega
    have hg1:((C++l.drop C.length).map Z8)[i]?=some (Z8 l[i]):=l7 Z8 (by omega) hil;have hg2:((C++l.drop C.length).map Z8)[i-1]?=some (Z8 (l[i-1]'(by omega))):=l7 Z8 (by omega) (by omega);have hg3:((C++l.drop C.length).map Z8)[C.length]?=some (Z8 (l[C.length]'(by omega))):=l7 Z8 (zn _) (by omega);repeat'(first|refine Zs 11 SO ?_|refine GET.at (row:=Z8 (l[i]'(by omega))) (l8 hg1 (by omega)) ?_|refine GET.at (row:=Z8 (l[i-1]'(by omega))) (l8 hg2 (by rw[hwr];omega)) ?_|refine GET.at (row:=Z8 (l[C.length]'(by omega))) (l8 hg3 (by omega)) ?_|refine AU ?_|refine IW ?_ ?_<;>intro h<;>try omega)<;>conv=>whnf
    .have hne:¬l[i]=l[i-1]'(by omega):=fun he=>by rw[he]at h;simp at h
     rw[z6 hne]at hsi;refine⟨i+1,⟨by omega,by omega,by rw[hsi,ze];simp;omega,by rw[hsi,ze];simp;omega⟩,by omega,?_⟩;rw[hsi];conv=>whnf
     (refine vY.uA h0 rfl rfl rfl (by first|rfl|(simp only[Zu,Zp,Zc _ (Uv _),zS,y6]<;>rfl)) ?_ ?_<;>(repeat'(first|(with_reducible rfl)|(exact YZ rfl (by first|(simp;done)|omega|(simp;omega)))|(exact zf (SV.int _) (by first|omega|(simp(disch:=omega) only[uP,Z4,Zb]<;>omega)|(simp;done)|(simp<;>omega)))|(exact zf (Hp.rows _) (by(first|(simp only[zw,Int.toNat_natCast];exact CD Z8 _ (by omega))|rfl)))|((conv=>whnf);refine⟨?_,?_⟩)|exact trivial|rfl)))
    .have heq:l[i]=l[i-1]'(by omega):=id (h);rw[z8 heq]at hsi;refine⟨i+1,⟨by omega,by omega,by rw[hsi];omega,by rw[hsi];omega⟩,by omega,?_⟩;rw[hsi];conv=>whnf
     exact vY.cA h0
   .have mA:C=Z1 l:=by rw[hC,zo hil]
    have fL:C.length<=l.length:=by omega
    repeat'(first|refine ud.mk (by simp only[zj,ze,zW];omega) ?_|refine ud.mk ⟨by omega,KG (by omega)⟩ ?_|refine AU ?_|refine IW ?_ ?_<;>intro h<;>try omega)<;>conv=>whnf
    rw[<-mA];refine u9.here h0 (rc:= .sl (.loc 0) 0 1 C.length none) (Oc:=[(0, .rows 1 ((C++List.replicate (l.length-C.length) (0:Int)).map Z8))]) (by simp) rfl (by first|rfl|(simp only[Zu,Zp,Zc _ (Uv _),zS,y6]<;>rfl)) ⟨?_,trivial⟩ ⟨rfl,rfl,rfl⟩;refine zf (Hp.rows 1) ?_;simp only[zw,Int.toNat_natCast];exact CF Z8 (0:Int) fL
  .have hne:¬l[k]=l[k-1]:=fun he=>by rw[he]at h;simp at h
   rw[z6 hne,hk]at hs;refine⟨k+1,⟨by omega,by omega,by rw[hs,zB hlt]⟩,by omega,?_⟩;conv=>whnf
   exact vY.cA h0
 .have hkn:k=l.length:=by omega
  rw[hkn,zo (zn _)]at hk;obtain⟨f1,f2⟩:=fin rfl hk;repeat'(first|refine IW ?_ ?_<;>intro h<;>try omega)<;>conv=>whnf
  rw[f1,f2];refine u9.here h0 (rc:= .sl (.loc 0) 0 1 (Z1 l).length none) (Oc:=[(0, .rows 1 ((Z1 l++List.replicate (l.length-(Z1 l).length) (0:Int)).map Z8))]) rfl rfl (by first|rfl|(simp only[Zu,Zp,Zc _ (Uv _),zS,y6]<;>rfl)) ⟨rfl,trivial⟩ ⟨rfl,rfl,rfl⟩
def ZbP:Go.Shelf.Ren:=⟨fun|189=>139|125=>114|257=>191|128=>150|129=>151|294=>231|295=>232|296=>233|297=>234|298=>235|299=>236|216=>237|300=>238|301=>239|328=>277|329=>196|330=>197|331=>278|332=>279|215=>136|343=>303|n=>n,fun|28=>72|3=>3|46=>177|0=>0|51=>157|53=>162|4=>4|183=>208|182=>207|131=>103|5=>5|9=>9|218=>250|222=>87|228=>292|229=>130|n=>n,fun|n=>n⟩
theorem Zkz:Go.Proofs.Lays.n189 prog ZbP where
 mixed:=by kernel_rfl
 f125:=func114.trans (zf some (by kernel_rfl))
 f128:=func150.trans (zf some (by kernel_rfl))
 f129:=func151.trans (zf some (by kernel_rfl))
 f189:=func139.trans (zf some (by kernel_rfl))
 f215:=func136.trans (zf some (by kernel_rfl))
 f216:=func237.trans (zf some (by kernel_rfl))
 f257:=func191.trans (zf some (by kernel_rfl))
 f294:=func231.trans (zf some (by kernel_rfl))
 f295:=func232.trans (zf some (by kernel_rfl))
 f296:=func233.trans (zf some (by kernel_rfl))
 f297:=func234.trans (zf some (by kernel_rfl))
 f298:=func235.trans (zf some (by kernel_rfl))
 f299:=func236.trans (zf some (by kernel_rfl))
 f300:=func238.trans (zf some (by kernel_rfl))
 f301:=func239.trans (zf some (by kernel_rfl))
 f328:=func277.trans (zf some (by kernel_rfl))
 f329:=func196.trans (zf some (by kernel_rfl))
 f330:=func197.trans (zf some (by kernel_rfl))
 f331:=func278.trans (zf some (by kernel_rfl))
 f332:=func279.trans (zf some (by kernel_rfl))
 f343:=func303.trans (zf some (by kernel_rfl))
 t0:=underlying0
 a0:=isAgg0
 z0:=sizeOf0
 v0:=zeroValue0
 t3:=underlying3
 a3:=isAgg3
 z3:=sizeOf3
 v3:=zeroValue3
 t4:=underlying4
 a4:=isAgg4
 z4:=sizeOf4
 v4:=zeroValue4
 t5:=underlying5
 a5:=isAgg5
 z5:=sizeOf5
 v5:=zeroValue5
 t9:=underlying9
 a9:=isAgg9
 z9:=sizeOf9
 v9:=zeroValue9
 t28:=underlying72
 a28:=isAgg72
 z28:=sizeOf72
 v28:=zeroValue72
 t46:=underlying177
 a46:=isAgg177
 z46:=sizeOf177
 v46:=zeroValue177
 t51:=underlying157
 a51:=isAgg157
 z51:=sizeOf157
 v51:=zeroValue157
 t53:=underlying162
 a53:=isAgg162
 z53:=sizeOf162
 v53:=zeroValue162
 t131:=underlying103
 a131:=isAgg103
 z131:=sizeOf103
 v131:=zeroValue103
 t182:=underlying207
 a182:=isAgg207
 z182:=sizeOf207
 v182:=zeroValue207
 t183:=underlying208
 a183:=isAgg208
 z183:=sizeOf208
 v183:=zeroValue208
 t218:=underlying250
 a218:=isAgg250
 z218:=sizeOf250
 v218:=zeroValue250
 t222:=underlying87
 a222:=isAgg87
 z222:=sizeOf87
 v222:=zeroValue87
 t228:=underlying292
 a228:=isAgg292
 z228:=sizeOf292
 v228:=zeroValue292
 t229:=underlying130
 a229:=isAgg130
 z229:=sizeOf130
 v229:=zeroValue130
theorem ZbQ(l:List Int)(hl:l.length*8<=140737488351232):vW prog uv 139 1 [.sl (.loc 0) 0 1 l.length none] [(0, .rows 1 (l.map Z8))] []
 (fun r O nx=>r= .uI []/\O=[(0, .rows 1 ((l.mergeSort (wW wP)).map Z8))]/\nx=1):=
 Z7Y Zkz call139 l (by omega)
end Go.Proofs.YtlcbipfmodcedaaGreatDoor
