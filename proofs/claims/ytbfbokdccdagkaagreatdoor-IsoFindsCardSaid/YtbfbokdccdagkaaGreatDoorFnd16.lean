/- Part 16: Term2, Valid7. Conditions: as each part says. -/
import Derived.Test.YtbfbokdccdagkaaGreatDoorFnd13
import Derived.Test.YtbfbokdccdagkaaGreatDoorFnd15
set_option linter.unusedVariables false
set_option linter.unusedSimpArgs false
set_option maxRecDepth 20000
set_option maxHeartbeats 8000000
namespace Go.Proofs.YtbfbokdccdagkaaGreatDoor
open Go.Sx Go.Our
open Tryz
theorem Z60(k:Int)(t y l:List UInt8)(ht:Sm t)(hy:Sm y)(hl:Sm l):Does prog tab 160 0 [.agg [.int .i64 k, .str t, .str y, .str l]] [] [] (Val (.int .i64 (litM t y l))):=by
 refine Does.enter Z1 call160 func160 rfl 61 rfl rfl [.tmp 2] rfl ?_;intro w0 F η0 h0;conv=>whnf
 repeat'((first|refine CALL.value (UF _ ht) rfl rfl ?_|refine CALL.value (UG _ hy) rfl rfl ?_|refine CALL.value (Zda _ (by omega)) rfl rfl ?_|refine AU ?_|(refine IW ?_ ?_<;>intro h<;>try(exfalso;omega)))<;>conv=>whnf)
 all_goals try
  (refine FIN.value h0 rfl (congrArg (SV.int _) ?_)
   by_cases hy0:y=Yf
   ·have hyb:(y==Yf)=true:=by simp[hy0]
    unfold Yf at hyb;try rw[hyb]at h
    by_cases htg:tagP (Zs l)=true<;>by_cases hlw:Z6 l=l<;>by_cases hl0:l=[]<;>simp_all[litM,Yf,orE]<;>omega
   ·have hyb:(y==Yf)=false:=by simp[hy0]
    unfold Yf at hyb;try rw[hyb]at h
    by_cases htg:tagP (Zs l)=true<;>by_cases hlw:Z6 l=l<;>by_cases hl0:l=[]<;>simp_all[litM,Yf,orE]<;>omega)
 have htg:tagP (Zs l)=true:=by
  cases h1:tagP (Zs l)with
  |true=>rfl
  |false=>rw[h1]at h;simp at h
 refine LOOP.go Z1 [1] (X:=Nat) (fun i=>i<=l.length/\∀j:Nat,j<i->¬(65<=Z2 l j/\Z2 l j<=90)) (fun i=>[(4, .int .i64 (i:Int))]) (fun i=>[(0, .box [.int .i64 k, .str t, .str y, .str l])]) 1 (fun i=>l.length-i) 0 ⟨by omega,fun j h=>by omega⟩ ?_;conv=>whnf
 refine⟨by exact GOES.cA h0,?_⟩;rintro i ⟨hi,hc⟩;conv=>whnf
 repeat'((first|refine AU ?_|(refine IW ?_ ?_<;>intro h<;>try(exfalso;omega)))<;>conv=>whnf)
 ·have hlw:Z6 l≠l:=Zf1 (i:=i) (by omega) h;refine FIN.value h0 rfl (congrArg (SV.int _) ?_)
  simp_all[litM]<;>omega
 ·refine⟨i+1,⟨by omega,fun j hj=>?_⟩,by omega,?_⟩
  ·by_cases he:j=i
   ·subst he;omega
   ·exact hc j (by omega)
  ·conv=>whnf
   exact GOES.cA h0
 all_goals
  have hlw:Z6 l=l:=Zb3 fun j hj=>hc j (by omega);refine FIN.value h0 rfl (congrArg (SV.int _) ?_);by_cases hy0:y=Yf
  ·have hyb:(y==Yf)=true:=by simp[hy0]
   unfold Yf at hyb;try rw[hyb]at h
   by_cases hl0:l=[]<;>simp_all[litM,Yf,orE]<;>omega
  ·have hyb:(y==Yf)=false:=by simp[hy0]
   unfold Yf at hyb;try rw[hyb]at h
   by_cases hl0:l=[]<;>simp_all[litM,Yf,orE]<;>omega
theorem Ud(x:Tm)(hx:TmSm x):Does prog tab 130 0 [.agg [.int .i64 x.k, .str x.t, .str x.y, .str x.l]] [] [] (Val (.int .i64 (X7 x))):=by
 obtain⟨ht,hy,hl⟩:=hx;obtain⟨k,t,y,l⟩:=x;dsimp only at ht hy hl⊢;refine Does.enter Z1 call130 func130 rfl 33 rfl rfl [.tmp 2] rfl ?_;intro w0 F η0 h0;conv=>whnf
 repeat'((first|refine CALL.value (Z60 _ _ _ _ ht hy hl) rfl rfl ?_|refine CALL.value (UG _ ht) rfl rfl ?_|refine CALL.value (Z7v _ (by omega)) rfl rfl ?_|refine AU ?_|(refine IW ?_ ?_<;>intro h<;>try(exfalso;omega)))<;>conv=>whnf)
 all_goals
  refine FIN.value h0 rfl (congrArg (SV.int _) ?_);have hle:=ZeY t;unfold X7
  first
   |(simp_all;done)
   |(simp_all<;>omega)
theorem Z3L(q:Qd)(hq:QdSm q):Does prog tab 104 0 [q.sv] [] [] (Val (.int .i64 (Jm q))):=by
 obtain⟨hs,hp,ho,hg⟩:=hq;unfold Qd.sv;refine Does.enter Z1 call104 func104 rfl 53 rfl rfl [.tmp 2] rfl ?_;intro w0 F η0 h0;conv=>whnf
 repeat'((first|refine CALL.value (Ud q.s hs) rfl rfl ?_|refine CALL.value (Ud q.p hp) rfl rfl ?_|refine CALL.value (Ud q.o ho) rfl rfl ?_|refine CALL.value (Ud q.g hg) rfl rfl ?_|refine AU ?_|(refine IW ?_ ?_<;>intro h<;>try(exfalso;omega)))<;>conv=>whnf)
 all_goals
  refine FIN.value h0 rfl (congrArg (SV.int _) ?_);clear hs hp ho hg
  have hz:q.g=Zx<->q.g.k=0/\q.g.t=[]/\q.g.y=[]/\q.g.l=[]:=by
   obtain⟨s,p,o,g⟩:=q;obtain⟨k,t,y,l⟩:=g;simp[Zx]
  unfold Jm;by_cases hgz:q.g=Zx
  ·have:=hz.1 hgz;simp_all
  ·by_cases g1:q.g.k=1
   ·simp_all
   ·by_cases g2:q.g.k=2
    ·simp_all
    ·simp_all
end Go.Proofs.YtbfbokdccdagkaaGreatDoor
namespace Go.Proofs.YtbfbokdccdagkaaGreatDoor
open Go.Sx Go.Our
open Tryz
def Z7x:Plan:=(Zv [(0,1),(1,1),(2,1),(3,1),(5,1),(6,1),(7,1),(4,2),(8,2),(9,3),(10,1)])
abbrev Wf(l:List Qd):Prop:=∀q∈l,QdSm q
theorem Z3M(l z:List Qd)(lim:Option Nat)(hl:l.length<=1152921504606846976)(hq:Wf l):Does prog tab 28 1 [.sl (.loc 0) 0 16 l.length lim] [] [(0, .rows 16 ((l++z).map Zj))]
 (ValK 1 (.tup [.int .i64 ((Xy l).1:Nat), .int .i64 (Xy l).2])):=by
 refine Does.enter Z1 call28 func28 rfl 43 rfl rfl [.tmp 2, .tmp 3] rfl ?_;intro w0 F η0 h0;conv=>whnf
 refine IF.mk (fun h=>?_) (fun h=>?_)
 ·have h:1048576<l.length:=by simp at h;omega
  conv=>whnf
  refine FIN.valueK h0 rfl ?_;unfold Xy;rw[if_pos h];rfl
 have hbig:¬1048576<l.length:=by simp at h;omega
 conv=>whnf
 refine LOOP.go Z1 [0,11,12] (X:=Nat) (fun i=>i<=l.length/\badM l 0=badM l i) (fun i=>[(13, .int .i64 (i:Int))]) (fun i=>[]) 1 (fun i=>l.length-i) 0 ⟨by omega,rfl⟩ ?_;conv=>whnf
 refine⟨by exact GOES.cA h0,?_⟩;rintro i ⟨hi,hb⟩;conv=>whnf
 rcases Nat.lt_or_ge i l.length with hil|hil
 ·have hqi:=hq _ (List.getElem_mem hil);rw[Z9Y hil]at hb;repeat'((first|(refine GET.at (row:=Zj (l[i]'(by omega))) (by rw[show 0+(i:Int).toNat=i by omega];exact J5 (by omega)) ?_;conv=>whnf)|refine CALL.value (Z3G (l[i]'(by omega)) hqi) rfl rfl ?_|refine AU ?_|(refine IW ?_ ?_<;>intro h<;>try(exfalso;omega)))<;>conv=>whnf)
  ·refine FIN.valueK h0 rfl ?_;unfold Xy;rw[if_neg hbig,hb,if_pos h]
  ·refine⟨i+1,⟨by omega,by rw[hb,if_neg (by simpa using h)]⟩,by omega,?_⟩;conv=>whnf
   exact GOES.cA h0
 ·rw[Z8D hil]at hb;repeat'((first|refine AU ?_|(refine IW ?_ ?_<;>intro h<;>try(exfalso;omega)))<;>conv=>whnf)
  refine LOOP.go Z1 [0] (X:=Nat) (fun i=>1<=i/\(i<=l.length\/i=1)/\Z0U l 1=Z0U l i) (fun i=>[(7, .int .i64 (i:Int))]) (fun i=>[]) 1 (fun i=>l.length-i) 1 ⟨by omega,by omega,rfl⟩ ?_;conv=>whnf
  refine⟨by exact GOES.cA h0,?_⟩;rintro j ⟨hj1,hj,hf⟩;conv=>whnf
  rcases Nat.lt_or_ge j l.length with hjl|hjl
  ·rw[Z8E hjl]at hf;have hj':(IntKind.i64.wrap ((j:Int)-1)).toNat=j-1:=by rw[Z9 (by omega) (by omega)];omega
   repeat'((first|refine DRAWN.of (id:=13) Z1 mixed Z7x (by kernel_rfl) ?_|refine ADD.mk (fun _ _=>?_)|refine AD ?_|refine FORK.mk ?_ ?_|(refine GET.at (row:=Zj (l[j]'(by omega))) (by rw[show 0+(j:Int).toNat=j by omega];exact J5 (by omega)) ?_;conv=>whnf)|(refine GET.at (row:=Zj (l[j-1]'(by omega))) (by rw[show 0+(IntKind.i64.wrap ((j:Int)-1)).toNat=j-1 by omega];exact J5 (by omega)) ?_;conv=>whnf)|refine CALL.value (ZaP (l[j-1]'(by omega)) (l[j]'(by omega))) rfl rfl ?_|refine AU ?_|(refine IW ?_ ?_<;>intro h<;>try(exfalso;omega)))<;>conv=>whnf)
   ·refine FIN.valueK h0 rfl ?_;unfold Xy;rw[if_neg hbig,hb,hf,if_pos h]
   ·refine⟨j+1,⟨by omega,by omega,by rw[hf,if_neg (by omega)]⟩,by omega,?_⟩;conv=>whnf
    exact GOES.cA h0
  ·rw[Z9Z hjl]at hf;repeat'((first|refine AU ?_|(refine IW ?_ ?_<;>intro h<;>try(exfalso;omega)))<;>conv=>whnf)
   refine FIN.valueK h0 rfl ?_;unfold Xy;rw[if_neg hbig,hb,hf];rfl
theorem Z1u(l z:List Qd)(lim:Option Nat)(hl:l.length<=1152921504606846976)(hq:Wf l):Does prog tab 73 1 [.sl (.loc 0) 0 16 l.length lim] [] [(0, .rows 16 ((l++z).map Zj))]
 (ValK 1 (.tup [.int .i64 ((Xy l).1:Nat), .int .i64 (Xy l).2])):=by
 refine Does.enter Z1 call73 func73 rfl 43 rfl rfl [.tmp 2, .tmp 3] rfl ?_;intro w0 F η0 h0;conv=>whnf
 refine IF.mk (fun h=>?_) (fun h=>?_)
 ·have h:1048576<l.length:=by simp at h;omega
  conv=>whnf
  refine FIN.valueK h0 rfl ?_;unfold Xy;rw[if_pos h];rfl
 have hbig:¬1048576<l.length:=by simp at h;omega
 conv=>whnf
 refine LOOP.go Z1 [0] (X:=Nat) (fun i=>i<=l.length/\badM l 0=badM l i) (fun i=>[(4, .int .i64 (i:Int))]) (fun i=>[]) 1 (fun i=>l.length-i) 0 ⟨by omega,rfl⟩ ?_;conv=>whnf
 refine⟨by exact GOES.cA h0,?_⟩;rintro i ⟨hi,hb⟩;conv=>whnf
 rcases Nat.lt_or_ge i l.length with hil|hil
 ·have hqi:=hq _ (List.getElem_mem hil);rw[Z9Y hil]at hb;repeat'((first|(refine GET.at (row:=Zj (l[i]'(by omega))) (by rw[show 0+(i:Int).toNat=i by omega];exact J5 (by omega)) ?_;conv=>whnf)|refine CALL.value (Z3L (l[i]'(by omega)) hqi) rfl rfl ?_|refine AU ?_|(refine IW ?_ ?_<;>intro h<;>try(exfalso;omega)))<;>conv=>whnf)
  ·refine FIN.valueK h0 rfl ?_;unfold Xy;rw[if_neg hbig,hb,if_pos h]
  ·refine⟨i+1,⟨by omega,by rw[hb,if_neg (by simpa using h)]⟩,by omega,?_⟩;conv=>whnf
   exact GOES.cA h0
 ·rw[Z8D hil]at hb;repeat'((first|refine AU ?_|(refine IW ?_ ?_<;>intro h<;>try(exfalso;omega)))<;>conv=>whnf)
  refine LOOP.go Z1 [0] (X:=Nat) (fun i=>1<=i/\(i<=l.length\/i=1)/\Z0U l 1=Z0U l i) (fun i=>[(6, .int .i64 (i:Int))]) (fun i=>[]) 1 (fun i=>l.length-i) 1 ⟨by omega,by omega,rfl⟩ ?_;conv=>whnf
  refine⟨by exact GOES.cA h0,?_⟩;rintro j ⟨hj1,hj,hf⟩;conv=>whnf
  rcases Nat.lt_or_ge j l.length with hjl|hjl
  ·rw[Z8E hjl]at hf;have hj':(IntKind.i64.wrap ((j:Int)-1)).toNat=j-1:=by rw[Z9 (by omega) (by omega)];omega
   repeat'((first|refine DRAWN.of (id:=12) Z1 mixed Z7x (by kernel_rfl) ?_|refine ADD.mk (fun _ _=>?_)|refine AD ?_|refine FORK.mk ?_ ?_|(refine GET.at (row:=Zj (l[j]'(by omega))) (by rw[show 0+(j:Int).toNat=j by omega];exact J5 (by omega)) ?_;conv=>whnf)|(refine GET.at (row:=Zj (l[j-1]'(by omega))) (by rw[show 0+(IntKind.i64.wrap ((j:Int)-1)).toNat=j-1 by omega];exact J5 (by omega)) ?_;conv=>whnf)|refine CALL.value (Z3q (l[j-1]'(by omega)) (l[j]'(by omega))) rfl rfl ?_|refine AU ?_|(refine IW ?_ ?_<;>intro h<;>try(exfalso;omega)))<;>conv=>whnf)
   ·refine FIN.valueK h0 rfl ?_;unfold Xy;rw[if_neg hbig,hb,hf,if_pos h]
   ·refine⟨j+1,⟨by omega,by omega,by rw[hf,if_neg (by omega)]⟩,by omega,?_⟩;conv=>whnf
    exact GOES.cA h0
  ·rw[Z9Z hjl]at hf;repeat'((first|refine AU ?_|(refine IW ?_ ?_<;>intro h<;>try(exfalso;omega)))<;>conv=>whnf)
   refine FIN.valueK h0 rfl ?_;unfold Xy;rw[if_neg hbig,hb,hf];rfl
end Go.Proofs.YtbfbokdccdagkaaGreatDoor
