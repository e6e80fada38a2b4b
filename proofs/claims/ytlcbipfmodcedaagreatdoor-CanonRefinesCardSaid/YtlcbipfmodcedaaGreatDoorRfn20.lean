/- Part 20: Term2, Valid7. Conditions: as each part says. -/
import Derived.Test.YtlcbipfmodcedaaGreatDoorRfn18
import Derived.Test.YtlcbipfmodcedaaGreatDoorRfn19
set_option linter.unusedVariables false
set_option linter.unusedSimpArgs false
set_option maxRecDepth 20000
set_option maxHeartbeats 8000000
namespace Go.Proofs.YtlcbipfmodcedaaGreatDoor
open Go.Sx Go.Our
open Tryz
theorem Z66(k:Int)(t y l:List UInt8)(ht:Sm t)(hy:Sm y)(hl:Sm l):Does prog tab 194 0 [.agg [.int .i64 k, .str t, .str y, .str l]] [] [] (Val (.int .i64 (litM t y l))):=by
 refine Does.enter Z0 call194 func194 rfl 61 rfl rfl [.tmp 2] rfl ?_;intro w0 F η0 h0;conv=>whnf
 repeat'((first|refine CALL.value (W0 _ ht) rfl rfl ?_|refine CALL.value (W1 _ hy) rfl rfl ?_|refine CALL.value (Zdo _ (by omega)) rfl rfl ?_|refine AU ?_|(refine IW ?_ ?_<;>intro h<;>try(exfalso;omega)))<;>conv=>whnf)
 all_goals try
  (refine FIN.value h0 rfl (congrArg (SV.int _) ?_)
   by_cases hy0:y=Yi
   ·have hyb:(y==Yi)=true:=by simp[hy0]
    unfold Yi at hyb;try rw[hyb]at h
    by_cases htg:tagP (Zr l)=true<;>by_cases hlw:Z4 l=l<;>by_cases hl0:l=[]<;>simp_all[litM,Yi,orE]<;>omega
   ·have hyb:(y==Yi)=false:=by simp[hy0]
    unfold Yi at hyb;try rw[hyb]at h
    by_cases htg:tagP (Zr l)=true<;>by_cases hlw:Z4 l=l<;>by_cases hl0:l=[]<;>simp_all[litM,Yi,orE]<;>omega)
 have htg:tagP (Zr l)=true:=by
  cases h1:tagP (Zr l)with
  |true=>rfl
  |false=>rw[h1]at h;simp at h
 refine LOOP.go Z0 [1] (X:=Nat) (fun i=>i<=l.length/\∀j:Nat,j<i->¬(65<=Z1 l j/\Z1 l j<=90)) (fun i=>[(4, .int .i64 (i:Int))]) (fun i=>[(0, .box [.int .i64 k, .str t, .str y, .str l])]) 1 (fun i=>l.length-i) 0 ⟨by omega,fun j h=>by omega⟩ ?_;conv=>whnf
 refine⟨by exact GOES.cA h0,?_⟩;rintro i ⟨hi,hc⟩;conv=>whnf
 repeat'((first|refine AU ?_|(refine IW ?_ ?_<;>intro h<;>try(exfalso;omega)))<;>conv=>whnf)
 ·have hlw:Z4 l≠l:=ZeT (i:=i) (by omega) h;refine FIN.value h0 rfl (congrArg (SV.int _) ?_)
  simp_all[litM]<;>omega
 ·refine⟨i+1,⟨by omega,fun j hj=>?_⟩,by omega,?_⟩
  ·by_cases he:j=i
   ·subst he;omega
   ·exact hc j (by omega)
  ·conv=>whnf
   exact GOES.cA h0
 all_goals
  have hlw:Z4 l=l:=Zbg fun j hj=>hc j (by omega);refine FIN.value h0 rfl (congrArg (SV.int _) ?_);by_cases hy0:y=Yi
  ·have hyb:(y==Yi)=true:=by simp[hy0]
   unfold Yi at hyb;try rw[hyb]at h
   by_cases hl0:l=[]<;>simp_all[litM,Yi,orE]<;>omega
  ·have hyb:(y==Yi)=false:=by simp[hy0]
   unfold Yi at hyb;try rw[hyb]at h
   by_cases hl0:l=[]<;>simp_all[litM,Yi,orE]<;>omega
theorem Uq(x:Tm)(hx:TmSm x):Does prog tab 141 0 [.agg [.int .i64 x.k, .str x.t, .str x.y, .str x.l]] [] [] (Val (.int .i64 (JA x))):=by
 obtain⟨ht,hy,hl⟩:=hx;obtain⟨k,t,y,l⟩:=x;dsimp only at ht hy hl⊢;refine Does.enter Z0 call141 func141 rfl 33 rfl rfl [.tmp 2] rfl ?_;intro w0 F η0 h0;conv=>whnf
 repeat'((first|refine CALL.value (Z66 _ _ _ _ ht hy hl) rfl rfl ?_|refine CALL.value (W1 _ ht) rfl rfl ?_|refine CALL.value (Z7M _ (by omega)) rfl rfl ?_|refine AU ?_|(refine IW ?_ ?_<;>intro h<;>try(exfalso;omega)))<;>conv=>whnf)
 all_goals
  refine FIN.value h0 rfl (congrArg (SV.int _) ?_);have hle:=ZeQ t;unfold JA
  first
   |(simp_all;done)
   |(simp_all<;>omega)
theorem Z3V(q:Qd)(hq:QdSm q):Does prog tab 109 0 [q.sv] [] [] (Val (.int .i64 (Vf q))):=by
 obtain⟨hs,hp,ho,hg⟩:=hq;unfold Qd.sv;refine Does.enter Z0 call109 func109 rfl 53 rfl rfl [.tmp 2] rfl ?_;intro w0 F η0 h0;conv=>whnf
 repeat'((first|refine CALL.value (Uq q.s hs) rfl rfl ?_|refine CALL.value (Uq q.p hp) rfl rfl ?_|refine CALL.value (Uq q.o ho) rfl rfl ?_|refine CALL.value (Uq q.g hg) rfl rfl ?_|refine AU ?_|(refine IW ?_ ?_<;>intro h<;>try(exfalso;omega)))<;>conv=>whnf)
 all_goals
  refine FIN.value h0 rfl (congrArg (SV.int _) ?_);clear hs hp ho hg
  have hz:q.g=ZE<->q.g.k=0/\q.g.t=[]/\q.g.y=[]/\q.g.l=[]:=by
   obtain⟨s,p,o,g⟩:=q;obtain⟨k,t,y,l⟩:=g;simp[ZE]
  unfold Vf;by_cases hgz:q.g=ZE
  ·have:=hz.1 hgz;simp_all
  ·by_cases g1:q.g.k=1
   ·simp_all
   ·by_cases g2:q.g.k=2
    ·simp_all
    ·simp_all
end Go.Proofs.YtlcbipfmodcedaaGreatDoor
namespace Go.Proofs.YtlcbipfmodcedaaGreatDoor
open Go.Sx Go.Our
open Tryz
def Z7O:Plan:=(Zu [(0,1),(1,1),(2,1),(3,1),(5,1),(6,1),(7,1),(4,2),(8,2),(9,3),(10,1)])
abbrev Z95(l:List Qd):Prop:=∀q∈l,QdSm q
theorem Z96(l z:List Qd)(lim:Option Nat)(hl:l.length<=1152921504606846976)(hq:Z95 l):Does prog tab 21 1 [.sl (.loc 0) 0 16 l.length lim] [] [(0, .rows 16 ((l++z).map Zd))]
 (ValK 1 (.tup [.int .i64 ((Yb l).1:Nat), .int .i64 (Yb l).2])):=by
 refine Does.enter Z0 call21 func21 rfl 43 rfl rfl [.tmp 2, .tmp 3] rfl ?_;intro w0 F η0 h0;conv=>whnf
 refine IF.mk (fun h=>?_) (fun h=>?_)
 ·have h:1048576<l.length:=by simp at h;omega
  conv=>whnf
  refine FIN.valueK h0 rfl ?_;unfold Yb;rw[if_pos h];rfl
 have hbig:¬1048576<l.length:=by simp at h;omega
 conv=>whnf
 refine LOOP.go Z0 [0,11,12] (X:=Nat) (fun i=>i<=l.length/\badM l 0=badM l i) (fun i=>[(13, .int .i64 (i:Int))]) (fun i=>[]) 1 (fun i=>l.length-i) 0 ⟨by omega,rfl⟩ ?_;conv=>whnf
 refine⟨by exact GOES.cA h0,?_⟩;rintro i ⟨hi,hb⟩;conv=>whnf
 rcases Nat.lt_or_ge i l.length with hil|hil
 ·have hqi:=hq _ (List.getElem_mem hil);rw[Za9 hil]at hb;repeat'((first|(refine GET.at (row:=Zd (l[i]'(by omega))) (by rw[show 0+(i:Int).toNat=i by omega];exact Jm (by omega)) ?_;conv=>whnf)|refine CALL.value (Z3Q (l[i]'(by omega)) hqi) rfl rfl ?_|refine AU ?_|(refine IW ?_ ?_<;>intro h<;>try(exfalso;omega)))<;>conv=>whnf)
  ·refine FIN.valueK h0 rfl ?_;unfold Yb;rw[if_neg hbig,hb,if_pos h]
  ·refine⟨i+1,⟨by omega,by rw[hb,if_neg (by simpa using h)]⟩,by omega,?_⟩;conv=>whnf
   exact GOES.cA h0
 ·rw[Z8T hil]at hb;repeat'((first|refine AU ?_|(refine IW ?_ ?_<;>intro h<;>try(exfalso;omega)))<;>conv=>whnf)
  refine LOOP.go Z0 [0] (X:=Nat) (fun i=>1<=i/\(i<=l.length\/i=1)/\Z1g l 1=Z1g l i) (fun i=>[(7, .int .i64 (i:Int))]) (fun i=>[]) 1 (fun i=>l.length-i) 1 ⟨by omega,by omega,rfl⟩ ?_;conv=>whnf
  refine⟨by exact GOES.cA h0,?_⟩;rintro j ⟨hj1,hj,hf⟩;conv=>whnf
  rcases Nat.lt_or_ge j l.length with hjl|hjl
  ·rw[Z8U hjl]at hf;have hj':(IntKind.i64.wrap ((j:Int)-1)).toNat=j-1:=by rw[Z9 (by omega) (by omega)];omega
   repeat'((first|refine DRAWN.of (id:=13) Z0 mixed Z7O (by kernel_rfl) ?_|refine ADD.mk (fun _ _=>?_)|refine AD ?_|refine FORK.mk ?_ ?_|(refine GET.at (row:=Zd (l[j]'(by omega))) (by rw[show 0+(j:Int).toNat=j by omega];exact Jm (by omega)) ?_;conv=>whnf)|(refine GET.at (row:=Zd (l[j-1]'(by omega))) (by rw[show 0+(IntKind.i64.wrap ((j:Int)-1)).toNat=j-1 by omega];exact Jm (by omega)) ?_;conv=>whnf)|refine CALL.value (Z19 (l[j-1]'(by omega)) (l[j]'(by omega))) rfl rfl ?_|refine AU ?_|(refine IW ?_ ?_<;>intro h<;>try(exfalso;omega)))<;>conv=>whnf)
   ·refine FIN.valueK h0 rfl ?_;unfold Yb;rw[if_neg hbig,hb,hf,if_pos h]
   ·refine⟨j+1,⟨by omega,by omega,by rw[hf,if_neg (by omega)]⟩,by omega,?_⟩;conv=>whnf
    exact GOES.cA h0
  ·rw[Zaa hjl]at hf;repeat'((first|refine AU ?_|(refine IW ?_ ?_<;>intro h<;>try(exfalso;omega)))<;>conv=>whnf)
   refine FIN.valueK h0 rfl ?_;unfold Yb;rw[if_neg hbig,hb,hf];rfl
theorem Z7P(l z:List Qd)(lim:Option Nat)(hl:l.length<=1152921504606846976)(hq:Z95 l):Does prog tab 65 1 [.sl (.loc 0) 0 16 l.length lim] [] [(0, .rows 16 ((l++z).map Zd))]
 (ValK 1 (.tup [.int .i64 ((Yb l).1:Nat), .int .i64 (Yb l).2])):=by
 refine Does.enter Z0 call65 func65 rfl 43 rfl rfl [.tmp 2, .tmp 3] rfl ?_;intro w0 F η0 h0;conv=>whnf
 refine IF.mk (fun h=>?_) (fun h=>?_)
 ·have h:1048576<l.length:=by simp at h;omega
  conv=>whnf
  refine FIN.valueK h0 rfl ?_;unfold Yb;rw[if_pos h];rfl
 have hbig:¬1048576<l.length:=by simp at h;omega
 conv=>whnf
 refine LOOP.go Z0 [0] (X:=Nat) (fun i=>i<=l.length/\badM l 0=badM l i) (fun i=>[(4, .int .i64 (i:Int))]) (fun i=>[]) 1 (fun i=>l.length-i) 0 ⟨by omega,rfl⟩ ?_;conv=>whnf
 refine⟨by exact GOES.cA h0,?_⟩;rintro i ⟨hi,hb⟩;conv=>whnf
 rcases Nat.lt_or_ge i l.length with hil|hil
 ·have hqi:=hq _ (List.getElem_mem hil);rw[Za9 hil]at hb;repeat'((first|(refine GET.at (row:=Zd (l[i]'(by omega))) (by rw[show 0+(i:Int).toNat=i by omega];exact Jm (by omega)) ?_;conv=>whnf)|refine CALL.value (Z3V (l[i]'(by omega)) hqi) rfl rfl ?_|refine AU ?_|(refine IW ?_ ?_<;>intro h<;>try(exfalso;omega)))<;>conv=>whnf)
  ·refine FIN.valueK h0 rfl ?_;unfold Yb;rw[if_neg hbig,hb,if_pos h]
  ·refine⟨i+1,⟨by omega,by rw[hb,if_neg (by simpa using h)]⟩,by omega,?_⟩;conv=>whnf
   exact GOES.cA h0
 ·rw[Z8T hil]at hb;repeat'((first|refine AU ?_|(refine IW ?_ ?_<;>intro h<;>try(exfalso;omega)))<;>conv=>whnf)
  refine LOOP.go Z0 [0] (X:=Nat) (fun i=>1<=i/\(i<=l.length\/i=1)/\Z1g l 1=Z1g l i) (fun i=>[(6, .int .i64 (i:Int))]) (fun i=>[]) 1 (fun i=>l.length-i) 1 ⟨by omega,by omega,rfl⟩ ?_;conv=>whnf
  refine⟨by exact GOES.cA h0,?_⟩;rintro j ⟨hj1,hj,hf⟩;conv=>whnf
  rcases Nat.lt_or_ge j l.length with hjl|hjl
  ·rw[Z8U hjl]at hf;have hj':(IntKind.i64.wrap ((j:Int)-1)).toNat=j-1:=by rw[Z9 (by omega) (by omega)];omega
   repeat'((first|refine DRAWN.of (id:=12) Z0 mixed Z7O (by kernel_rfl) ?_|refine ADD.mk (fun _ _=>?_)|refine AD ?_|refine FORK.mk ?_ ?_|(refine GET.at (row:=Zd (l[j]'(by omega))) (by rw[show 0+(j:Int).toNat=j by omega];exact Jm (by omega)) ?_;conv=>whnf)|(refine GET.at (row:=Zd (l[j-1]'(by omega))) (by rw[show 0+(IntKind.i64.wrap ((j:Int)-1)).toNat=j-1 by omega];exact Jm (by omega)) ?_;conv=>whnf)|refine CALL.value (Vb (l[j-1]'(by omega)) (l[j]'(by omega))) rfl rfl ?_|refine AU ?_|(refine IW ?_ ?_<;>intro h<;>try(exfalso;omega)))<;>conv=>whnf)
   ·refine FIN.valueK h0 rfl ?_;unfold Yb;rw[if_neg hbig,hb,hf,if_pos h]
   ·refine⟨j+1,⟨by omega,by omega,by rw[hf,if_neg (by omega)]⟩,by omega,?_⟩;conv=>whnf
    exact GOES.cA h0
  ·rw[Zaa hjl]at hf;repeat'((first|refine AU ?_|(refine IW ?_ ?_<;>intro h<;>try(exfalso;omega)))<;>conv=>whnf)
   refine FIN.valueK h0 rfl ?_;unfold Yb;rw[if_neg hbig,hb,hf];rfl
end Go.Proofs.YtlcbipfmodcedaaGreatDoor
