/- Part 18: Term2, Valid7. Conditions: as each part says. -/
import Derived.Test.YtlcbipfmodcedaaGreatDoorFrm16
import Derived.Test.YtlcbipfmodcedaaGreatDoorFrm17
set_option linter.unusedVariables false
set_option linter.unusedSimpArgs false
set_option maxRecDepth 20000
set_option maxHeartbeats 8000000
namespace Go.Proofs.YtlcbipfmodcedaaGreatDoor
open Go.Sx Go.Our
open _root_.Go.Proofs.Tryz
theorem Z6F(k:Int)(t y l:List UInt8)(ht:Sm t)(hy:Sm y)(hl:Sm l):vS prog uf 194 0 [.agg [.int .i64 k, .str t, .str y, .str l]] [] [] (uN (.int .i64 (eR t y l))):=by
 refine vS.enter Z0 call194 func194 rfl 61 rfl rfl [.tmp 2] rfl ?_;intro w0 F η0 h0;conv=>whnf
 repeat'(first|refine CALL.value (W4 _ ht) rfl rfl ?_|refine CALL.value (W5 _ hy) rfl rfl ?_|refine CALL.value (Zex _ (by omega)) rfl rfl ?_|refine IW ?_ ?_<;>intro h<;>try omega)<;>conv=>whnf
 all_goals try
  (refine u0.value h0 rfl (z8 (SV.int _) ?_)
   by_cases hy0:y=Yk
   .have cQ:(y==Yk)=true:=by simp[hy0]
    unfold Yk at cQ;try rw[cQ]at h
    by_cases H8:uX (Zu l)=true<;>by_cases KL:Z7 l=l<;>by_cases hl0:l=[]<;>simp_all[eR,Yk,oG]<;>omega
   .have cQ:(y==Yk)=false:=by simp[hy0]
    unfold Yk at cQ;try rw[cQ]at h
    by_cases H8:uX (Zu l)=true<;>by_cases KL:Z7 l=l<;>by_cases hl0:l=[]<;>simp_all[eR,Yk,oG]<;>omega)
 have H8:uX (Zu l)=true:=by
  cases h1:uX (Zu l)with
  |true=>rfl
  |false=>rw[h1]at h;simp at h
 refine vZ.go Z0 [1] (X:=Nat) (fun i=>i<=l.length/\∀j:Nat,j<i->¬(65<=Z1 l j/\Z1 l j<=90)) (fun i=>[(4, .int .i64 (i:Int))]) (fun i=>[(0, .box [.int .i64 k, .str t, .str y, .str l])]) 1 (fun i=>l.length-i) 0 ⟨by omega,fun j h=>by omega⟩ ?_;conv=>whnf
 refine⟨by exact vU.cA h0,?_⟩;rintro i ⟨hi,hc⟩;conv=>whnf
 repeat'(first|refine AU ?_|refine IW ?_ ?_<;>intro h<;>try omega)<;>conv=>whnf
 .have KL:Z7 l≠l:=Zgi (i:=i) (by omega) h;refine u0.value h0 rfl (z8 (SV.int _) ?_)
  simp_all[eR]<;>omega
 .refine⟨i+1,⟨by omega,fun j hj=>?_⟩,by omega,?_⟩
  .by_cases he:j=i
   subst he;omega;exact hc j (by omega)
  .conv=>whnf
   exact vU.cA h0
 all_goals
  have KL:Z7 l=l:=Zcb fun j hj=>hc j (by omega);refine u0.value h0 rfl (z8 (SV.int _) ?_);by_cases hy0:y=Yk
  .have cQ:(y==Yk)=true:=by simp[hy0]
   unfold Yk at cQ;try rw[cQ]at h
   by_cases hl0:l=[]<;>simp_all[eR,Yk,oG]<;>omega
  .have cQ:(y==Yk)=false:=by simp[hy0]
   unfold Yk at cQ;try rw[cQ]at h
   by_cases hl0:l=[]<;>simp_all[eR,Yk,oG]<;>omega
theorem Uv(x:Tm)(hx:fu x):vS prog uf 141 0 [.agg [.int .i64 x.k, .str x.t, .str x.y, .str x.l]] [] [] (uN (.int .i64 (JA x))):=by
 obtain⟨ht,hy,hl⟩:=hx;obtain⟨k,t,y,l⟩:=x;dsimp only at ht hy hl⊢;refine vS.enter Z0 call141 func141 rfl 33 rfl rfl [.tmp 2] rfl ?_;intro w0 F η0 h0;conv=>whnf
 repeat'(first|refine CALL.value (Z6F _ _ _ _ ht hy hl) rfl rfl ?_|refine CALL.value (W5 _ ht) rfl rfl ?_|refine CALL.value (Z8u _ (by omega)) rfl rfl ?_|refine AU ?_|refine IW ?_ ?_<;>intro h<;>try omega)<;>conv=>whnf
 all_goals
  refine u0.value h0 rfl (z8 (SV.int _) ?_);have hle:=Zgf t;unfold JA
  first
   |(simp_all;done)
   |(simp_all<;>omega)
theorem Z4h(q:Qd)(hq:o7 q):vS prog uf 109 0 [q.sv] [] [] (uN (.int .i64 (Vj q))):=by
 obtain⟨hs,hp,ho,hg⟩:=hq;unfold Qd.sv;refine vS.enter Z0 call109 func109 rfl 53 rfl rfl [.tmp 2] rfl ?_;intro w0 F η0 h0;conv=>whnf
 repeat'(first|refine CALL.value (Uv q.s hs) rfl rfl ?_|refine CALL.value (Uv q.p hp) rfl rfl ?_|refine CALL.value (Uv q.o ho) rfl rfl ?_|refine CALL.value (Uv q.g hg) rfl rfl ?_|refine IW ?_ ?_<;>intro h<;>try omega)<;>conv=>whnf
 all_goals
  refine u0.value h0 rfl (z8 (SV.int _) ?_);clear hs hp ho hg
  have hz:q.g=ZC<->q.g.k=0/\q.g.t=[]/\q.g.y=[]/\q.g.l=[]:=by
   obtain⟨s,p,o,g⟩:=q;obtain⟨k,t,y,l⟩:=g;simp[ZC]
  unfold Vj;by_cases CI:q.g=ZC
  have:=hz.1 CI;simp_all
  .by_cases g1:q.g.k=1
   simp_all
   .by_cases g2:q.g.k=2
    simp_all
    simp_all
end Go.Proofs.YtlcbipfmodcedaaGreatDoor
namespace Go.Proofs.YtlcbipfmodcedaaGreatDoor
open Go.Sx Go.Our
open _root_.Go.Proofs.Tryz
def Lx:uu:=(Zs [(0,1),(1,1),(2,1),(3,1),(5,1),(6,1),(7,1),(4,2),(8,2),(9,3),(10,1)])
abbrev tJ(l:List Qd):Prop:=∀q∈l,o7 q
theorem Z9M(l z:List Qd)(lim:Option Nat)(hl:l.length<=1152921504606846976)(hq:tJ l):vS prog uf 21 1 [.sl (.loc 0) 0 16 l.length lim] [] [(0, .rows 16 ((l++z).map Z3))]
 (w6 1 (.uz [.int .i64 ((YL l).1:Nat), .int .i64 (YL l).2])):=by
 refine vS.enter Z0 call21 func21 rfl 43 rfl rfl [.tmp 2, .tmp 3] rfl ?_;intro w0 F η0 h0;conv=>whnf
 refine IF.mk (fun h=>?_) (fun h=>?_)
 .have h:1048576<l.length:=by simp at h;omega
  conv=>whnf
  refine u0.ua h0 rfl ?_;unfold YL;rw[zf h];rfl
 have bO:¬1048576<l.length:=by simp at h;omega
 conv=>whnf
 refine vZ.go Z0 [0,11,12] (X:=Nat) (fun i=>i<=l.length/\jA l 0=jA l i) (fun i=>[(13, .int .i64 (i:Int))]) (fun i=>[]) 1 (fun i=>l.length-i) 0 ⟨by omega,rfl⟩ ?_;conv=>whnf
 refine⟨by exact vU.cA h0,?_⟩;rintro i ⟨hi,hb⟩;conv=>whnf
 rcases zY i l.length with hil|hil
 .have hqi:=hq _ (zk hil);rw[FZ hil]at hb;repeat'(first|refine GET.at (row:=Z3 (l[i]'(by omega))) (by rw[show 0+(i:Int).toNat=i by omega];exact Ji (by omega)) ?_|refine CALL.value (Z4c (l[i]'(by omega)) hqi) rfl rfl ?_|refine AU ?_|refine IW ?_ ?_<;>intro h<;>try omega)<;>conv=>whnf
  .refine u0.ua h0 rfl ?_;unfold YL;rw[z7 bO,hb,zf h]
  .refine⟨i+1,⟨by omega,by rw[hb,z7 (by simpa using h)]⟩,by omega,?_⟩;conv=>whnf
   exact vU.cA h0
 .rw[CD hil]at hb;repeat'(first|refine IW ?_ ?_<;>intro h<;>try omega)<;>conv=>whnf
  refine vZ.go Z0 [0] (X:=Nat) (fun i=>1<=i/\(i<=l.length\/i=1)/\oc l 1=oc l i) (fun i=>[(7, .int .i64 (i:Int))]) (fun i=>[]) 1 (fun i=>l.length-i) 1 ⟨by omega,by omega,rfl⟩ ?_;conv=>whnf
  refine⟨by exact vU.cA h0,?_⟩;rintro j ⟨hj1,hj,hf⟩;conv=>whnf
  rcases zY j l.length with hjl|hjl
  .rw[CF hjl]at hf;have hj':(IntKind.i64.wrap ((j:Int)-1)).toNat=j-1:=by rw[Z9 (by omega) (by omega)];omega
   repeat'(first|refine Z4 13 Lx ?_|refine wh.mk (fun _ _=>?_)|refine GET.at (row:=Z3 (l[j]'(by omega))) (by rw[show 0+(j:Int).toNat=j by omega];exact Ji (by omega)) ?_|refine GET.at (row:=Z3 (l[j-1]'(by omega))) (by rw[show 0+(IntKind.i64.wrap ((j:Int)-1)).toNat=j-1 by omega];exact Ji (by omega)) ?_|refine CALL.value (C6 (l[j-1]'(by omega)) (l[j]'(by omega))) rfl rfl ?_|refine AU ?_|refine IW ?_ ?_<;>intro h<;>try omega)<;>conv=>whnf
   .refine u0.ua h0 rfl ?_;unfold YL;rw[z7 bO,hb,hf,zf h]
   .refine⟨j+1,⟨by omega,by omega,by rw[hf,z7 (by omega)]⟩,by omega,?_⟩;conv=>whnf
    exact vU.cA h0
  .rw[Lb hjl]at hf;repeat'(first|refine IW ?_ ?_<;>intro h<;>try omega)<;>conv=>whnf
   refine u0.ua h0 rfl ?_;unfold YL;rw[z7 bO,hb,hf];rfl
theorem Z8x(l z:List Qd)(lim:Option Nat)(hl:l.length<=1152921504606846976)(hq:tJ l):vS prog uf 65 1 [.sl (.loc 0) 0 16 l.length lim] [] [(0, .rows 16 ((l++z).map Z3))]
 (w6 1 (.uz [.int .i64 ((YL l).1:Nat), .int .i64 (YL l).2])):=by
 refine vS.enter Z0 call65 func65 rfl 43 rfl rfl [.tmp 2, .tmp 3] rfl ?_;intro w0 F η0 h0;conv=>whnf
 refine IF.mk (fun h=>?_) (fun h=>?_)
 .have h:1048576<l.length:=by simp at h;omega
  conv=>whnf
  refine u0.ua h0 rfl ?_;unfold YL;rw[zf h];rfl
 have bO:¬1048576<l.length:=by simp at h;omega
 conv=>whnf
 refine vZ.go Z0 [0] (X:=Nat) (fun i=>i<=l.length/\jA l 0=jA l i) (fun i=>[(4, .int .i64 (i:Int))]) (fun i=>[]) 1 (fun i=>l.length-i) 0 ⟨by omega,rfl⟩ ?_;conv=>whnf
 refine⟨by exact vU.cA h0,?_⟩;rintro i ⟨hi,hb⟩;conv=>whnf
 rcases zY i l.length with hil|hil
 .have hqi:=hq _ (zk hil);rw[FZ hil]at hb;repeat'(first|refine GET.at (row:=Z3 (l[i]'(by omega))) (by rw[show 0+(i:Int).toNat=i by omega];exact Ji (by omega)) ?_|refine CALL.value (Z4h (l[i]'(by omega)) hqi) rfl rfl ?_|refine AU ?_|refine IW ?_ ?_<;>intro h<;>try omega)<;>conv=>whnf
  .refine u0.ua h0 rfl ?_;unfold YL;rw[z7 bO,hb,zf h]
  .refine⟨i+1,⟨by omega,by rw[hb,z7 (by simpa using h)]⟩,by omega,?_⟩;conv=>whnf
   exact vU.cA h0
 .rw[CD hil]at hb;repeat'(first|refine IW ?_ ?_<;>intro h<;>try omega)<;>conv=>whnf
  refine vZ.go Z0 [0] (X:=Nat) (fun i=>1<=i/\(i<=l.length\/i=1)/\oc l 1=oc l i) (fun i=>[(6, .int .i64 (i:Int))]) (fun i=>[]) 1 (fun i=>l.length-i) 1 ⟨by omega,by omega,rfl⟩ ?_;conv=>whnf
  refine⟨by exact vU.cA h0,?_⟩;rintro j ⟨hj1,hj,hf⟩;conv=>whnf
  rcases zY j l.length with hjl|hjl
  .rw[CF hjl]at hf;have hj':(IntKind.i64.wrap ((j:Int)-1)).toNat=j-1:=by rw[Z9 (by omega) (by omega)];omega
   repeat'(first|refine Z4 12 Lx ?_|refine wh.mk (fun _ _=>?_)|refine GET.at (row:=Z3 (l[j]'(by omega))) (by rw[show 0+(j:Int).toNat=j by omega];exact Ji (by omega)) ?_|refine GET.at (row:=Z3 (l[j-1]'(by omega))) (by rw[show 0+(IntKind.i64.wrap ((j:Int)-1)).toNat=j-1 by omega];exact Ji (by omega)) ?_|refine CALL.value (Xc (l[j-1]'(by omega)) (l[j]'(by omega))) rfl rfl ?_|refine AU ?_|refine IW ?_ ?_<;>intro h<;>try omega)<;>conv=>whnf
   .refine u0.ua h0 rfl ?_;unfold YL;rw[z7 bO,hb,hf,zf h]
   .refine⟨j+1,⟨by omega,by omega,by rw[hf,z7 (by omega)]⟩,by omega,?_⟩;conv=>whnf
    exact vU.cA h0
  .rw[Lb hjl]at hf;repeat'(first|refine IW ?_ ?_<;>intro h<;>try omega)<;>conv=>whnf
   refine u0.ua h0 rfl ?_;unfold YL;rw[z7 bO,hb,hf];rfl
end Go.Proofs.YtlcbipfmodcedaaGreatDoor
