/- Part 16: Tag4, Term1. Conditions: as each part says. -/
import Derived.Test.YtlcbipfmodcedaaGreatDoorFrm15
set_option linter.unusedVariables false
set_option linter.unusedSimpArgs false
set_option maxRecDepth 20000
set_option maxHeartbeats 8000000
namespace Go.Proofs.YtlcbipfmodcedaaGreatDoor
open Go.Sx Go.Our
open _root_.Go.Proofs.Tryz
theorem Zes{p:List UInt8->Bool}{ps:List (List UInt8)}:YB p ps 0=iX p ps:=by
 unfold YB;cases ps<;>rfl
theorem Zgk(s:List UInt8)(hs:s.length<=34359738368):vS prog uf 161 0 [.str s] [] [] (uN (.uz [.agg (cL 7), .int .i64 (if uX (Zu s)=true then 0 else 61)])):=by
 have KK:=CB s;have hlen:=FY s;generalize hps:Zu s=ps at*;have hb:JC ps+ps.length<=68719476736:=by unfold JC;omega
 have wS:=tF (ps:=ps) (by omega);refine vS.enter Z0 call161 func161 rfl 56 rfl rfl [.cell 2 223, .tmp 3] rfl ?_;intro w0 F η0 h0;conv=>whnf
 refine CALL.sZ (Zch s (by omega)) rfl (Yj _) ?_;rw[hps,zy];conv=>whnf
 refine CALL.w8 2 5 1 rfl rfl ?_;refine CALL.w8 2 6 1 rfl rfl ?_;refine CALL.aA [2,1,3,4] (Vm 211 _ ps (fun s hs=>VD s) 0 ps.length (by omega) [] [] [] [] 0 0 []) ?_;rintro r O' vW ⟨rfl,rfl,rfl⟩;rw[Zes];conv=>whnf
 refine IF.mk (fun h1=>?_) (fun h1=>?_)
 .have h1:iX Y2 ps=false:=by simpa using h1
  conv=>whnf
  repeat'(first|refine AU ?_)<;>conv=>whnf
  refine CALL.aA [2,1,3,4] (Z6A ps (by omega) 0 ps.length (by omega) [] [] 0 0 []) ?_;rintro r O' vW ⟨i1,m1,L,E,mV,rfl,hL,rfl,rfl⟩;cases h2:JK (ps.drop 0)with
  |none=>
   have wR:uX ps=false:=by
    have h2:JK ps=none:=h2;unfold uX;rw[z7 (by simp[h1]),h2]
   rw[Option.isSome_none];conv=>whnf
   repeat'(first|refine AU ?_|refine IW ?_ ?_<;>intro h<;>try omega)<;>conv=>whnf
   refine u0.kG 7 h0 rfl rfl rfl ⟨?_,rfl,rfl⟩;rw[wR];rfl
  |some l1=>
   have kz:=hL l1 h2;subst kz;rw[Option.isSome_some];conv=>whnf
   repeat'(first|refine AU ?_|refine IW ?_ ?_<;>intro h<;>try omega)<;>conv=>whnf
   refine CALL.aA [2,1,3,4] (Zer ps (by omega) i1 m1 mV L E []) ?_;rintro r O' vW ⟨i2,m2,S,R,z48,rfl,hR,rfl,rfl⟩;cases h3:Xq (ps.drop i1)with
   |none=>
    have wR:uX ps=false:=by
     have h2:JK ps=_:=h2;unfold uX;rw[z7 (by simp[h1]),h2];simp only[h3]
    rw[Option.isSome_none];conv=>whnf
    repeat'(first|refine AU ?_|refine IW ?_ ?_<;>intro h<;>try omega)<;>conv=>whnf
    refine u0.kG 7 h0 rfl rfl rfl ⟨?_,rfl,rfl⟩;rw[wR];rfl
   |some l2=>
    have nQ:=hR l2 h3;subst nQ
    have wR:uX ps=VR (ps.drop i2):=by
     have h2:JK ps=_:=h2;unfold uX;rw[z7 (by simp[h1]),h2];simp only[h3]
    rw[Option.isSome_some];conv=>whnf
    repeat'(first|refine AU ?_|refine IW ?_ ?_<;>intro h<;>try omega)<;>conv=>whnf
    refine CALL.aA [2,1,3,4] (Zcl 211 _ ps (fun s hs=>VD s) (i2) (m2) (by omega) L E S R 0 0 []) ?_;rintro r O' vW ⟨rfl,rfl,rfl⟩;conv=>whnf
    refine IF.mk (fun h1=>?_) (fun h1=>?_)
    .obtain⟨w,hw,gu⟩:=ZN h1;have hlt:=(ze.1 hw).1;have uE:VR (ps.drop (i2))=decide (ZW (YK 1) (ps.drop (i2+1))≠0/\ZW (YK 1) (ps.drop (i2+1))=(ps.drop (i2+1)).length):=by rw[ZX hw];simp only[VR];rw[zf gu]
     rw[zD]at uE;obtain⟨k',hk'⟩:∃k',m2=k'+1:=⟨m2-1,by omega⟩;have oH:=wS w (zV hw);rw[hk'];conv=>whnf
     refine CALL.aA [2,1,3,4] (WU ps (i2) k' (by omega) w hw L E S R 0 0 []) ?_;rintro r O' vW ⟨rfl,rfl,rfl⟩;conv=>whnf
     refine CALL.aA [2,1,3,4] (Zcm 1 ps (by omega) (i2+1) k' (by omega) L E S R 0 0 []) ?_;rintro r O' vW ⟨n,x,hn,hxl,rfl,rfl,rfl⟩;have hn:n=ZW (YK 1) (ps.drop (i2+1)):=hn;have jB:n<=(ps.drop (i2+1)).length:=by rw[hn];exact VQ _ _
     rw[zD]at jB;rw[<-hn]at uE;conv=>whnf
     repeat'(first|refine AU ?_|refine IW ?_ ?_<;>intro h<;>try omega)<;>conv=>whnf
     all_goals
      refine u0.kG 7 h0 rfl rfl rfl ⟨?_,rfl,rfl⟩;rw[wR,uE]
     rw[z7 (by simp_all)];rw[z7 (by simp;omega)];rw[zf (by simp;simp at*;omega)]
    .have uE:VR (ps.drop (i2))=decide (m2=0):=by
      rcases XC h1 with h2|⟨x,h3,h2,h4⟩
      rw[h2];have:=z8 List.length h2;rw[zD,List.length_nil]at this;simp only[VR];symm;exact yq (by omega)
      .have:=(ze.1 h3).1;rw[h2];simp only[VR];rw[z7 (by simp[h4])];symm;exact y5 (by omega)
     conv=>whnf
     repeat'(first|refine IW ?_ ?_<;>intro h<;>try omega)<;>conv=>whnf
     all_goals
      refine u0.kG 7 h0 rfl rfl rfl ⟨?_,rfl,rfl⟩;rw[wR,uE]
     rw[z7 (by rw[yx];omega)];rw[zf (by rw[yx];omega)]
 .have h1:iX Y2 ps=true:=by simpa using h1
  have wR:uX ps=VR (ps.drop 0):=by unfold uX;rw[zf h1];rfl
  conv=>whnf
  repeat'(first|refine AU ?_)<;>conv=>whnf
  refine CALL.aA [2,1,3,4] (Vm 211 _ ps (fun s hs=>VD s) (0) (ps.length) (by omega) [] [] [] [] 0 0 []) ?_;rintro r O' vW ⟨rfl,rfl,rfl⟩;conv=>whnf
  refine IF.mk (fun h1=>?_) (fun h1=>?_)
  .obtain⟨w,hw,gu⟩:=ZN h1;have hlt:=(ze.1 hw).1;have uE:VR (ps.drop (0))=decide (ZW (YK 1) (ps.drop (0+1))≠0/\ZW (YK 1) (ps.drop (0+1))=(ps.drop (0+1)).length):=by rw[ZX hw];simp only[VR];rw[zf gu]
   rw[zD]at uE;obtain⟨k',hk'⟩:∃k',ps.length=k'+1:=⟨ps.length-1,by omega⟩;have oH:=wS w (zV hw);rw[hk'];conv=>whnf
   refine CALL.aA [2,1,3,4] (YC ps (0) k' (by omega) w hw [] [] [] [] 0 0 []) ?_;rintro r O' vW ⟨rfl,rfl,rfl⟩;conv=>whnf
   refine CALL.aA [2,1,3,4] (Zeo 1 ps (by omega) (0+1) k' (by omega) [] [] [] [] 0 0 []) ?_;rintro r O' vW ⟨n,x,hn,hxl,rfl,rfl,rfl⟩;have hn:n=ZW (YK 1) (ps.drop (0+1)):=hn;have jB:n<=(ps.drop (0+1)).length:=by rw[hn];exact VQ _ _
   rw[zD]at jB;rw[<-hn]at uE;conv=>whnf
   repeat'(first|refine AU ?_|refine IW ?_ ?_<;>intro h<;>try omega)<;>conv=>whnf
   all_goals
    refine u0.kG 7 h0 rfl rfl rfl ⟨?_,rfl,rfl⟩;rw[wR,uE]
   rw[z7 (by simp_all)];rw[z7 (by simp;omega)];rw[zf (by simp;simp at*;omega)]
  .have uE:VR (ps.drop (0))=decide (ps.length=0):=by
    rcases XC h1 with h2|⟨x,h3,h2,h4⟩
    rw[h2];have:=z8 List.length h2;rw[zD,List.length_nil]at this;simp only[VR];symm;exact yq (by omega)
    .have:=(ze.1 h3).1;rw[h2];simp only[VR];rw[z7 (by simp[h4])];symm;exact y5 (by omega)
   conv=>whnf
   repeat'(first|refine IW ?_ ?_<;>intro h<;>try omega)<;>conv=>whnf
   all_goals
    refine u0.kG 7 h0 rfl rfl rfl ⟨?_,rfl,rfl⟩;rw[wR,uE]
   rw[z7 (by rw[yx];omega)];rw[zf (by rw[yx];omega)]
end Go.Proofs.YtlcbipfmodcedaaGreatDoor
namespace Go.Proofs.YtlcbipfmodcedaaGreatDoor
open Go.Sx Go.Our
open _root_.Go.Proofs.Tryz
def Zgl:uu:=(Zs [(0,1),(1,1),(2,1),(3,1),(6,1),(4,2),(7,2),(5,3),(8,1),(9,1)])
theorem Z8o(k:Int)(t y l:List UInt8)(ht:Sm t)(hy:Sm y)(hl:Sm l):vS prog uf 123 0 [.agg [.int .i64 k, .str t, .str y, .str l]] [] [] (uN (.int .i64 (eR t y l))):=by
 refine vS.enter Z0 call123 func123 rfl 55 rfl rfl [.tmp 2] rfl ?_;intro w0 F η0 h0;conv=>whnf
 repeat'(first|refine Z4 12 Zgl ?_|refine wh.mk (fun _ _=>?_)|refine CALL.value (Lc _ ht) rfl rfl ?_|refine CALL.value (Le _ hy) rfl rfl ?_|refine CALL.value (Zgk _ (by omega)) rfl rfl ?_|refine CALL.value (Xm _ hl) rfl rfl ?_|refine CALL.kT 2 (Z6C [(if uX (Zu l)=true then 0 else 61),61] (by simp)) rfl rfl rfl rfl rfl rfl ?_|refine AU ?_|refine IW ?_ ?_<;>intro h<;>try omega)<;>conv=>whnf
 all_goals
  refine u0.value h0 rfl (z8 (SV.int _) ?_);by_cases hy0:y=Yk
  .have cQ:(y==Yk)=true:=by simp[hy0]
   unfold Yk at cQ;try rw[cQ]at h
   by_cases H8:uX (Zu l)=true<;>by_cases KL:Z7 l=l<;>by_cases hl0:l=[]<;>simp_all[eR,Yk,oG]<;>omega
  .have cQ:(y==Yk)=false:=by simp[hy0]
   unfold Yk at cQ;try rw[cQ]at h
   by_cases H8:uX (Zu l)=true<;>by_cases KL:Z7 l=l<;>by_cases hl0:l=[]<;>simp_all[eR,Yk,oG]<;>omega
theorem Uu(x:Tm)(hx:fu x):vS prog uf 86 0 [.agg [.int .i64 x.k, .str x.t, .str x.y, .str x.l]] [] [] (uN (.int .i64 (JA x))):=by
 obtain⟨ht,hy,hl⟩:=hx;obtain⟨k,t,y,l⟩:=x;dsimp only at ht hy hl⊢;refine vS.enter Z0 call86 func86 rfl 33 rfl rfl [.tmp 2] rfl ?_;intro w0 F η0 h0;conv=>whnf
 repeat'(first|refine CALL.value (Z8o _ _ _ _ ht hy hl) rfl rfl ?_|refine CALL.value (Le _ ht) rfl rfl ?_|refine CALL.value (Z9I _ ht) rfl rfl ?_|refine AU ?_|refine IW ?_ ?_<;>intro h<;>try omega)<;>conv=>whnf
 all_goals
  refine u0.value h0 rfl (z8 (SV.int _) ?_);unfold JA
  first
   |(simp_all;done)
   |(simp_all<;>omega)
theorem Z8p(x:Tm):vS prog uf 85 0 [.int .i64 0, .agg [.int .i64 x.k, .str x.t, .str x.y, .str x.l]] [] [] (uN (.bool (decide (x.k=1\/x.k=2)))):=by
 refine vS.enter Z0 call85 func85 rfl 49 rfl rfl [.tmp 4] rfl ?_;intro w0 F η0 h0;conv=>whnf
 repeat'(first|refine IW ?_ ?_<;>intro h<;>try omega)<;>conv=>whnf
 all_goals
  refine u0.value h0 rfl (z8 SV.bool ?_);by_cases h1:x.k=1<;>by_cases h2:x.k=2<;>simp_all
theorem Z8q(x:Tm):vS prog uf 85 0 [.int .i64 1, .agg [.int .i64 x.k, .str x.t, .str x.y, .str x.l]] [] [] (uN (.bool (decide (x.k=1)))):=by
 refine vS.enter Z0 call85 func85 rfl 49 rfl rfl [.tmp 4] rfl ?_;intro w0 F η0 h0;conv=>whnf
 repeat'(first|refine IW ?_ ?_<;>intro h<;>try omega)<;>conv=>whnf
 all_goals
  refine u0.value h0 rfl (z8 SV.bool ?_);by_cases h1:x.k=1<;>simp_all
theorem Z8r(x:Tm):vS prog uf 85 0 [.int .i64 2, .agg [.int .i64 x.k, .str x.t, .str x.y, .str x.l]] [] [] (uN (.bool (decide (x.k=1\/x.k=2\/x.k=3)))):=by
 refine vS.enter Z0 call85 func85 rfl 49 rfl rfl [.tmp 4] rfl ?_;intro w0 F η0 h0;conv=>whnf
 repeat'(first|refine IW ?_ ?_<;>intro h<;>try omega)<;>conv=>whnf
 all_goals
  refine u0.value h0 rfl (z8 SV.bool ?_);by_cases h1:x.k=1<;>by_cases h2:x.k=2<;>by_cases h3:x.k=3<;>simp_all
theorem Z8s(x:Tm):vS prog uf 85 0 [.int .i64 3, .agg [.int .i64 x.k, .str x.t, .str x.y, .str x.l]] [] [] (uN (.bool (decide (x.k=1\/x.k=2\/x=ZC)))):=by
 obtain⟨k,t,y,l⟩:=x;dsimp only;refine vS.enter Z0 call85 func85 rfl 49 rfl rfl [.tmp 4] rfl ?_;intro w0 F η0 h0;conv=>whnf
 repeat'(first|refine IW ?_ ?_<;>intro h<;>try omega)<;>conv=>whnf
 all_goals
  refine u0.value h0 rfl (z8 SV.bool ?_);unfold ZC;by_cases h1:k=1<;>by_cases h2:k=2<;>by_cases h3:k=0<;>cases t<;>cases y<;>cases l<;>simp_all
theorem Z4c(q:Qd)(hq:o7 q):vS prog uf 46 0 [q.sv] [] [] (uN (.int .i64 (Vj q))):=by
 obtain⟨hs,hp,ho,hg⟩:=hq;unfold Qd.sv;refine vS.enter Z0 call46 func46 rfl 36 rfl rfl [.tmp 2] rfl ?_;intro w0 F η0 h0;conv=>whnf
 repeat'(first|refine vZ.once Z0 ?_|refine CALL.value (Z8p q.s) rfl rfl ?_|refine CALL.value (Z8q q.p) rfl rfl ?_|refine CALL.value (Z8r q.o) rfl rfl ?_|refine CALL.value (Z8s q.g) rfl rfl ?_|refine CALL.value (Uu q.s hs) rfl rfl ?_|refine CALL.value (Uu q.p hp) rfl rfl ?_|refine CALL.value (Uu q.o ho) rfl rfl ?_|refine CALL.value (Uu q.g hg) rfl rfl ?_|refine AU ?_|refine IW ?_ ?_<;>intro h<;>try omega)<;>conv=>whnf
 all_goals
  refine u0.value h0 rfl (z8 (SV.int _) ?_);have hco:= @Z9y q.o;have hz:q.g=ZC->q.g.k=0:=fun h=>by rw[h];rfl
  unfold Vj;clear hs hp ho hg;by_cases CI:q.g=ZC
  have:=hz CI;simp_all
  .by_cases g1:q.g.k=1
   simp_all
   .by_cases g2:q.g.k=2
    simp_all
    simp_all
end Go.Proofs.YtlcbipfmodcedaaGreatDoor
