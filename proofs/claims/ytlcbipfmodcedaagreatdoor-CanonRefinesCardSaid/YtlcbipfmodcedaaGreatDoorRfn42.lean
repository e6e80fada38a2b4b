/- Part 42: SortInts. Conditions: as each part says. -/
import Derived.Test.YtlcbipfmodcedaaGreatDoorRfn23
import Derived.Test.YtlcbipfmodcedaaGreatDoorRfn41
set_option linter.unusedVariables false
set_option linter.unusedSimpArgs false
set_option maxRecDepth 20000
set_option maxHeartbeats 8000000
namespace Go.Proofs.YtlcbipfmodcedaaGreatDoor
open Go.Sx Go.Our Go.Sort Go.Shelf
open Tryz
def Uy:Plan:=(Zu [(0,1),(1,1),(2,1),(4,1),(5,1),(6,1),(7,1),(3,2),(8,2),(9,1)])
theorem Z6q(l:List Int)(hl:l.length*8<=140741783322624):Does prog tab 108 1 [.sl (.loc 0) 0 1 l.length none] [(0, .rows 1 (l.map Zk))] []
 (fun r O nx=>r= .sl (.loc 0) 0 1 (Z5 l).length none/\O=[(0, .rows 1 ((Z5 l++List.replicate (l.length-(Z5 l).length) (0:Int)).map Zk))]/\nx=1):=by
 have fin:∀{m:Nat},m=(Z5 l).length->Z5 l=l->(SV.sl (.loc 0) 0 1 l.length none=SV.sl (.loc 0) 0 1 (Z5 l).length none)/\l.map Zk=(Z5 l++List.replicate (l.length-(Z5 l).length) (0:Int)).map Zk:=fun hm he=>by
  rw[he];simp
 refine Does.enter Z0 call108 func108 rfl 61 rfl rfl [.tmp 2] rfl ?_;intro w0 F η0 h0;conv=>whnf
 refine IF.mk (fun h=>?_) (fun h=>?_)
 ·have h:l.length<2:=by simp at h;omega
  obtain⟨f1,f2⟩:=fin rfl (Z08 h);conv=>whnf
  rw[f1,f2];refine FIN.here h0 (rc:= .sl (.loc 0) 0 1 (Z5 l).length none) (Oc:=[(0, .rows 1 ((Z5 l++List.replicate (l.length-(Z5 l).length) (0:Int)).map Zk))]) rfl rfl (by first|rfl|(simp only[Zl,Zg,Z2 _ (VL _),Bool.and_self,Bool.and_true]<;>rfl)) ⟨rfl,trivial⟩ ⟨rfl,rfl,rfl⟩
 have h2:2<=l.length:=by simp at h;omega
 clear h;conv=>whnf
 refine LOOP.go Z0 [0] (X:=Nat) (fun k=>1<=k/\k<=l.length/\Z5 (l.take k)=l.take k) (fun k=>[(3, .int .i64 (k:Int))]) (fun k=>[(0, .rows 1 (l.map Zk))]) 1 (fun k=>l.length-k) 1 ⟨by omega,by omega,Z3t⟩ ?_;conv=>whnf
 refine⟨by exact GOES.cA h0,?_⟩;rintro k ⟨hk1,hkl,hk⟩;conv=>whnf
 rcases Nat.lt_or_ge k l.length with hlt|hge
 ·have hs:=Jy hk1 hlt;have hk':(IntKind.i64.wrap ((k:Int)-1)).toNat=k-1:=by rw[Z9 (by omega) (by omega)];omega
  repeat'((first|refine DRAWN.of (id:=6) Z0 mixed Uy (by kernel_rfl) ?_|refine DRAWN.of (id:=11) Z0 mixed Uy (by kernel_rfl) ?_|refine ADD.mk (fun _ _=>?_)|refine AD ?_|refine FORK.mk ?_ ?_|(refine GET.at (row:=Zk (l[k]'(by omega))) (Z5G (by omega) (by omega)) ?_;conv=>whnf)|(refine GET.at (row:=Zk (l[k-1]'(by omega))) (Z5G (by omega) (by omega)) ?_;conv=>whnf)|refine AU ?_|(refine IW ?_ ?_<;>intro h<;>try(exfalso;omega)))<;>conv=>whnf)
  ·have heq:l[k]=l[k-1]:=id (h);rw[if_pos heq,hk]at hs;have hs0:(Z5 (l.take (k+1))).length=k:=by rw[hs];simp;omega
   clear h heq;refine LOOP.go Z0 [0,4] (X:=Nat) (fun i=>k+1<=i/\i<=l.length/\(Z5 (l.take i)).length+1<=i/\k<=(Z5 (l.take i)).length) (fun i=>[(3, .int .i64 ((Z5 (l.take i)).length:Int)),(5, .int .i64 ((i-k:Nat):Int))]) (fun i=>[(0, .rows 1 ((Z5 (l.take i)++l.drop (Z5 (l.take i)).length).map Zk))]) 1 (fun i=>l.length-i) (k+1) ⟨by omega,by omega,by omega,by omega⟩ ?_;conv=>whnf
   refine⟨by(refine GOES.cutting h0 rfl rfl rfl (by first|rfl|(simp only[Zl,Zg,Z2 _ (VL _),Bool.and_self,Bool.and_true]<;>rfl)) ?_ ?_<;>(repeat'(first|(with_reducible rfl)|(exact X6 rfl (by first|(simp;done)|omega|(simp;omega)))|(exact congrArg (SV.int _) (by first|omega|(simp(disch:=omega) only[lnB,Z9,Zo]<;>omega)|(simp;done)|(simp<;>omega)))|(exact congrArg (Hp.rows _) (by(rw[hs,List.length_take,Nat.min_eq_left hkl,List.take_append_drop])))|((conv=>whnf);refine⟨?_,?_⟩)|exact trivial|rfl))),?_⟩;rintro i ⟨hi1,hi2,hi3,hi4⟩;obtain⟨C,hC⟩:∃C,C=Z5 (l.take i):=⟨_,rfl⟩;have hsi:=fun h=>Jy (l:=l) (i:=i) (by omega) h;rw[<-hC]at hi3 hi4 hsi;dsimp only;rw[<-hC];conv=>whnf
   rcases Nat.lt_or_ge i l.length with hil|hil
   ·have hsi:=hsi hil;have hwr:IntKind.i64.wrap (((i-k:Nat):Int)-1)=((i-1-k:Nat):Int):=by rw[Z9 (by omega) (by omega)];omega
    have hg1:((C++l.drop C.length).map Zk)[i]?=some (Zk l[i]):=Z4Z Zk (by omega) hil;have hg2:((C++l.drop C.length).map Zk)[i-1]?=some (Zk (l[i-1]'(by omega))):=Z4Z Zk (by omega) (by omega);have hg3:((C++l.drop C.length).map Zk)[C.length]?=some (Zk (l[C.length]'(by omega))):=Z4Z Zk (Nat.le_refl _) (by omega);repeat'((first|refine DRAWN.of (id:=6) Z0 mixed Uy (by kernel_rfl) ?_|refine DRAWN.of (id:=11) Z0 mixed Uy (by kernel_rfl) ?_|refine ADD.mk (fun _ _=>?_)|refine AD ?_|refine FORK.mk ?_ ?_|(refine GET.at (row:=Zk (l[i]'(by omega))) (Zb3 hg1 (by omega)) ?_;conv=>whnf)|(refine GET.at (row:=Zk (l[i-1]'(by omega))) (Zb3 hg2 (by rw[hwr];omega)) ?_;conv=>whnf)|(refine GET.at (row:=Zk (l[C.length]'(by omega))) (Zb3 hg3 (by omega)) ?_;conv=>whnf)|refine AU ?_|(refine IW ?_ ?_<;>intro h<;>try(exfalso;omega)))<;>conv=>whnf)
    ·have hne:¬l[i]=l[i-1]'(by omega):=fun he=>by rw[he]at h;simp at h
     rw[if_neg hne]at hsi;refine⟨i+1,⟨by omega,by omega,by rw[hsi,List.length_append];simp;omega,by rw[hsi,List.length_append];simp;omega⟩,by omega,?_⟩;rw[hsi];conv=>whnf
     (refine GOES.cutting h0 rfl rfl rfl (by first|rfl|(simp only[Zl,Zg,Z2 _ (VL _),Bool.and_self,Bool.and_true]<;>rfl)) ?_ ?_<;>(repeat'(first|(with_reducible rfl)|(exact X6 rfl (by first|(simp;done)|omega|(simp;omega)))|(exact congrArg (SV.int _) (by first|omega|(simp(disch:=omega) only[lnB,Z9,Zo]<;>omega)|(simp;done)|(simp<;>omega)))|(exact congrArg (Hp.rows _) (by(first|(simp only[Nat.zero_add,Int.toNat_natCast];exact Zd2 Zk _ (by omega))|rfl)))|((conv=>whnf);refine⟨?_,?_⟩)|exact trivial|rfl)))
    ·have heq:l[i]=l[i-1]'(by omega):=id (h);rw[if_pos heq]at hsi;refine⟨i+1,⟨by omega,by omega,by rw[hsi];omega,by rw[hsi];omega⟩,by omega,?_⟩;rw[hsi];conv=>whnf
     exact GOES.cA h0
   ·have hCl:C=Z5 l:=by rw[hC,List.take_of_length_le hil]
    have hcl:C.length<=l.length:=by omega
    repeat'((first|(refine NEED.mk (by simp only[List.length_map,List.length_append,List.length_drop];omega) ?_;conv=>whnf)|(refine NEED.mk ⟨by omega,Z0u (by omega)⟩ ?_;conv=>whnf)|refine AU ?_|(refine IW ?_ ?_<;>intro h<;>try(exfalso;omega)))<;>conv=>whnf)
    rw[<-hCl];refine FIN.here h0 (rc:= .sl (.loc 0) 0 1 C.length none) (Oc:=[(0, .rows 1 ((C++List.replicate (l.length-C.length) (0:Int)).map Zk))]) (by simp) rfl (by first|rfl|(simp only[Zl,Zg,Z2 _ (VL _),Bool.and_self,Bool.and_true]<;>rfl)) ⟨?_,trivial⟩ ⟨rfl,rfl,rfl⟩;refine congrArg (Hp.rows 1) ?_;simp only[Nat.zero_add,Int.toNat_natCast];exact Z7m Zk (0:Int) hcl
  ·have hne:¬l[k]=l[k-1]:=fun he=>by rw[he]at h;simp at h
   rw[if_neg hne,hk]at hs;refine⟨k+1,⟨by omega,by omega,by rw[hs,List.take_succ_eq_append_getElem hlt]⟩,by omega,?_⟩;conv=>whnf
   exact GOES.cA h0
 ·have hkn:k=l.length:=by omega
  rw[hkn,List.take_of_length_le (Nat.le_refl _)]at hk;obtain⟨f1,f2⟩:=fin rfl hk;repeat'((first|refine AU ?_|(refine IW ?_ ?_<;>intro h<;>try(exfalso;omega)))<;>conv=>whnf)
  rw[f1,f2];refine FIN.here h0 (rc:= .sl (.loc 0) 0 1 (Z5 l).length none) (Oc:=[(0, .rows 1 ((Z5 l++List.replicate (l.length-(Z5 l).length) (0:Int)).map Zk))]) rfl rfl (by first|rfl|(simp only[Zl,Zg,Z2 _ (VL _),Bool.and_self,Bool.and_true]<;>rfl)) ⟨rfl,trivial⟩ ⟨rfl,rfl,rfl⟩
def ZbE:Go.Shelf.Ren:=⟨fun|189=>139|125=>114|257=>191|128=>150|129=>151|294=>231|295=>232|296=>233|297=>234|298=>235|299=>236|216=>237|300=>238|301=>239|328=>277|329=>196|330=>197|331=>278|332=>279|215=>136|343=>303|n=>n,fun|28=>72|3=>3|46=>177|0=>0|51=>157|53=>162|4=>4|183=>208|182=>207|131=>103|5=>5|9=>9|218=>250|222=>87|228=>292|229=>130|n=>n,fun|n=>n⟩
theorem Zie:Go.Proofs.Lays.n189 prog ZbE where
 mixed:=by kernel_rfl
 f125:=func114.trans (congrArg some (by kernel_rfl))
 f128:=func150.trans (congrArg some (by kernel_rfl))
 f129:=func151.trans (congrArg some (by kernel_rfl))
 f189:=func139.trans (congrArg some (by kernel_rfl))
 f215:=func136.trans (congrArg some (by kernel_rfl))
 f216:=func237.trans (congrArg some (by kernel_rfl))
 f257:=func191.trans (congrArg some (by kernel_rfl))
 f294:=func231.trans (congrArg some (by kernel_rfl))
 f295:=func232.trans (congrArg some (by kernel_rfl))
 f296:=func233.trans (congrArg some (by kernel_rfl))
 f297:=func234.trans (congrArg some (by kernel_rfl))
 f298:=func235.trans (congrArg some (by kernel_rfl))
 f299:=func236.trans (congrArg some (by kernel_rfl))
 f300:=func238.trans (congrArg some (by kernel_rfl))
 f301:=func239.trans (congrArg some (by kernel_rfl))
 f328:=func277.trans (congrArg some (by kernel_rfl))
 f329:=func196.trans (congrArg some (by kernel_rfl))
 f330:=func197.trans (congrArg some (by kernel_rfl))
 f331:=func278.trans (congrArg some (by kernel_rfl))
 f332:=func279.trans (congrArg some (by kernel_rfl))
 f343:=func303.trans (congrArg some (by kernel_rfl))
 t0:=underlying0
 a0:=isAgg0
 z0:=sizeOf0
 v0:=zeroValue0
 t3:=underlying3
 a3:=isAgg3
 z3:=sizeOf3
 v3:=zeroValue3
 t4:=underlying4
 a4:=isAgg4
 z4:=sizeOf4
 v4:=zeroValue4
 t5:=underlying5
 a5:=isAgg5
 z5:=sizeOf5
 v5:=zeroValue5
 t9:=underlying9
 a9:=isAgg9
 z9:=sizeOf9
 v9:=zeroValue9
 t28:=underlying72
 a28:=isAgg72
 z28:=sizeOf72
 v28:=zeroValue72
 t46:=underlying177
 a46:=isAgg177
 z46:=sizeOf177
 v46:=zeroValue177
 t51:=underlying157
 a51:=isAgg157
 z51:=sizeOf157
 v51:=zeroValue157
 t53:=underlying162
 a53:=isAgg162
 z53:=sizeOf162
 v53:=zeroValue162
 t131:=underlying103
 a131:=isAgg103
 z131:=sizeOf103
 v131:=zeroValue103
 t182:=underlying207
 a182:=isAgg207
 z182:=sizeOf207
 v182:=zeroValue207
 t183:=underlying208
 a183:=isAgg208
 z183:=sizeOf208
 v183:=zeroValue208
 t218:=underlying250
 a218:=isAgg250
 z218:=sizeOf250
 v218:=zeroValue250
 t222:=underlying87
 a222:=isAgg87
 z222:=sizeOf87
 v222:=zeroValue87
 t228:=underlying292
 a228:=isAgg292
 z228:=sizeOf292
 v228:=zeroValue292
 t229:=underlying130
 a229:=isAgg130
 z229:=sizeOf130
 v229:=zeroValue130
theorem ZbF(l:List Int)(hl:l.length*8<=140737488351232):Does prog tab 139 1 [.sl (.loc 0) 0 1 l.length none] [(0, .rows 1 (l.map Zk))] []
 (fun r O nx=>r= .tup []/\O=[(0, .rows 1 ((l.mergeSort (leC cmpI)).map Zk))]/\nx=1):=
 Z86 Zie call139 l (by omega)
end Go.Proofs.YtlcbipfmodcedaaGreatDoor
